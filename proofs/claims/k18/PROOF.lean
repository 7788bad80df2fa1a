import PyProof.Rows.All
import Wide.All
import OpenK.AllK
import Wide.FinOn
import HandS.ForMost
import KE.GoesMore
import KE.GoesEnum
import HandS.Exc
import HandS.ExcOwn
import HandS.WordsExc
import HandS.CallSlots
import HandS.Defaults
import HandS.Style
import HandS.TupAny
import HandS.Flow
import HandS.TryMany
import HandS.ExcIs
import HandS.IsInst
import KE.KExcIs
import HandS.Text
import HandS.List
import PySem.Challenge.RW_bornroots_k18_paths_read
set_option Elab.async false
set_option maxRecDepth 100000
set_option linter.all false
/-! enumerate(t) of a tuple, for a loop with two targets -/
namespace Mr
open PySem PySem.Spec PyProof.Rows L2
abbrev nIt (t : Addr) : Obj := { cls := .type "tuple_iterator", data := .fields #[.ref t, .int 0 0] }
abbrev nEn (i : Addr) : Obj := { cls := .type "enumerate", data := .fields #[.none, .bool false, .ref i, rawInt 0, .none, .none] }
set_option maxHeartbeats 1000000 in
theorem nw_tup (t : Addr) (vs : Array Value) : Meets (Builtin.«enumerate.__new__» ⟨[.type "enumerate", .ref t], []⟩) (fun _ R s => s.heap.IsTuple t vs ∧ R (.ok (.ret (.ref (s.heap.push (nIt t)).objs.size))) { s with heap := (s.heap.push (nIt t)).push (nEn s.heap.objs.size) }) := .of_wp fun prog w A R s hh => by
  obtain ⟨⟨hp, g, d, tk, os⟩, h1, h⟩ : ∃ s' : Shared, s'.heap.IsTuple t vs ∧ s' = s ∧ _ := ⟨s, hh.1, rfl, hh.2⟩
  obtain ⟨e, h⟩ := h
  subst e
  have su := sub_enumerate
  have go : ∀ {A' : Around} {E' : Value → Shared → Prop} {Q' : Value → Shared → Prop}, Q' (.ref hp.objs.size) ⟨hp.push (nIt t), g, d, tk, os⟩ → wpAny (model prog w) A' (pyIter (.ref t)) Q' E' ⟨hp, g, d, tk, os⟩ := fun q => wpAny_pyIter_tuple h1 q
  wp_walk using go
  refine wpAny_stack_any fun sk => wpAny_pure ?_
  split
  · rename_i cl _ _ _ _ _
    cases (cl == Value.type "enumerate") <;> (wp_walk using go; exact ⟨_, rfl, h⟩)
  · wp_walk using go; exact ⟨_, rfl, h⟩
section
variable {prog : Program} {w : World} {A : Around} {E : Value → Shared → Prop} {s : Shared}
theorem call_en_tup {t : Addr} {vs : Array Value} {Q : Value → Shared → Prop} (ht : s.heap.IsTuple t vs)
    (h : ∀ h', IsEnum h' (s.heap.objs.size + 1) s.heap.objs.size 0 .none → h'.IsTupleIter s.heap.objs.size t 0 → (∀ b o, s.heap.get? b = some o → h'.get? b = some o) → Q (.ref (s.heap.objs.size + 1)) { s with heap := h' }) : wpAny (model prog w) A (call (.type "enumerate") [.ref t]) Q E s := by
  refine callType_new F.called_enumerate (by decide) (F.typeCall_enumerate_1 _) (F.newCall_enumerate_1 _) (fun ob => F.args_object_init_2 ob _) F.entry_enumerate_new (nw_tup t vs) ⟨ht, ?_⟩
  have hz : (s.heap.push (nIt t)).objs.size = s.heap.objs.size + 1 := Heap.size_push ..
  show _ ∧ _
  rw [hz]
  have he : IsEnum ((s.heap.push (nIt t)).push (nEn s.heap.objs.size)) (s.heap.objs.size + 1) s.heap.objs.size 0 .none := by
    have q := Heap.get?_push_size (s.heap.push (nIt t)) (o := nEn s.heap.objs.size) rfl
    rw [hz] at q
    exact q
  exact ⟨⟨_, he, rfl⟩, h _ he ⟨_, Heap.get?_push_of_some _ (Heap.get?_push_size _ rfl), rfl, rfl⟩ fun b o x => Heap.get?_push_of_some _ (Heap.get?_push_of_some _ x)⟩
end
/-- the tuple at a, each item in a new pair -/
def Iet (K : PySem.W.Frag) (a : Addr) : It :=
  ⟨fun i H => ∃ (xs : List V) (x : V), SqT K H a xs ∧ xs[i]? = some x, fun i H v H' => ∃ p x, v = .ref p ∧ H p = none ∧ H' = upd H p (.tup [.int (i : Nat), x]) ∧ ∀ xs, SqT K H a xs → xs[i]? = some x, fun i H => ∃ xs : List V, SqT K H a xs ∧ xs.length = i⟩
theorem turn_en_tup {P : Program} {w : World} {K : PySem.W.Frag} {es : List Expr} {kk : Nat} {tpos : Pos} (a e it : Addr) (hai : a ≠ it) (hae : a ≠ e) :
    Turn P w K (.Tuple es kk tpos) (Iet K a) [e, it] e (fun i h => (∃ old, IsEnum h e it ((i : Nat) : Int) old) ∧ h.IsTupleIter it a i ∧ e ≠ it) where
  mem := List.mem_cons_self
  obj := fun i h st b hb => by
    obtain ⟨⟨old, he⟩, ⟨o, ho, hc, hd⟩, _⟩ := st
    rcases List.mem_cons.mp hb with z | z
    · rw [z]; exact ⟨_, he, fun c k => nomatch k⟩
    · exact ⟨o, (List.mem_singleton.mp z) ▸ ho, fun v q => by rw [hd] at q; cases q⟩
  keep := fun i h h' st k => ⟨st.1.elim fun old he => ⟨old, k e List.mem_cons_self _ he⟩, st.2.1.at fun o q => k it (List.mem_cons_of_mem _ List.mem_cons_self) o q, st.2.2⟩
  item := by
    intro X hP hw hK hc i pins s σ H E I hf st hg
    subst hP hw hK
    obtain ⟨⟨old, he⟩, hit, hne⟩ := st
    obtain ⟨xs, x, hq, hx⟩ := hg
    obtain ⟨its, rv, p, hz⟩ := I.tuple hq
    obtain ⟨u, hu, ru⟩ := rv.get hx
    have hel : e < s.heap.objs.size := Heap.lt_size he
    have hil : it < s.heap.objs.size := hit.elim fun _ q => Heap.lt_size q.1
    have pt : s.heap.IsTuple a its.toArray := p
    have li : i < its.toArray.size := by
      rw [List.size_toArray]
      exact (List.getElem?_eq_some_iff.mp hu).1
    refine wpAny_pyNext_enum_itemD (D := Draws.tuple (prog := X.prog) (w := X.w) (A := X.A.in1) (I.ok.hd hc) it a hai its.toArray) he ⟨hit, pt⟩ li hne (fun z => ?_) fun y h1 tk hy ho hs hT hsz hk => ?_
    · rcases List.mem_cons.mp z with z | z
      · exact hne z
      · exact hae (List.mem_singleton.mp z).symm
    have ey : y = u := by
      rw [show its.toArray[i]? = some u by simpa using hu] at hy
      exact (Option.some.inj hy).symm
    subst ey
    refine ⟨_, rfl, wpAny_letOwnedTupleGo_enum (s := { s with heap := h1, toks := tk + 1 }) ho fun h2 he2 sb => ?_⟩
    have hT2 : h2.get? s.heap.objs.size = some { cls := .type "tuple", data := .seq #[.int i tk, y] } := (sb.2 _ (Nat.ne_of_gt hel)).trans hT
    have nw : ObjOk X.prog X.w (upd H s.heap.objs.size (.tup [.int (i : Nat), x])) h2 s.heap.objs.size (.tup [.int (i : Nat), x]) := ⟨by show 2 ≤ sizeLine; decide, [.int i tk, y], .cons ⟨_, rfl⟩ (.cons ru .nil), _, hT2, rfl, _, rfl⟩
    have I1 : Inv X pins σ (upd H s.heap.objs.size (.tup [.int (i : Nat), x])) { s with heap := h2, toks := tk + 1 } :=
      I.turnedNew (ch := [e, it]) (fun b ob hb q => (sb.2 b fun z => hb (z ▸ List.mem_cons_self)).trans (hk b ob (fun z => hb (z ▸ List.mem_cons_self)) (fun z => hb (z ▸ List.mem_cons_of_mem _ List.mem_cons_self)) q)) hf (Nat.le_refl _) nw
    refine ⟨.ref s.heap.objs.size, _, I1, rfl, ⟨_, x, rfl, I.hok.fresh (Nat.le_refl _), rfl, fun ys hy => by rw [I.tuple_inj hy hq]; exact hx⟩, ⟨⟨y, ?_⟩, hs.1.at fun o q => (sb.2 it (Ne.symm hne)).trans q, hne⟩, fun b hb => ?_⟩
    · rw [show ((i + 1 : Nat) : Int) = (i : Int) + 1 by omega]; exact he2
    · have lb : b < s.heap.objs.size := by
        rcases List.mem_cons.mp hb with z | z
        · exact z ▸ hel
        · exact (List.mem_singleton.mp z) ▸ hil
      rw [upd_ne (Nat.ne_of_lt lb)]
      exact (hf b hb).1
  done := by
    intro X hP hw hK hc i pins s σ H E I hf st hg
    subst hP hw hK
    obtain ⟨⟨old, he⟩, hit, hne⟩ := st
    obtain ⟨xs, hq, hx⟩ := hg
    obtain ⟨its, rv, p, hz⟩ := I.tuple hq
    obtain ⟨f0, f1, f2, f3, f4, f5⟩ := hf it (List.mem_cons_of_mem _ List.mem_cons_self)
    have pt : s.heap.IsTuple a its.toArray := p
    have en : its.toArray.size = i := by
      rw [List.size_toArray, ← rv.length]
      exact hx
    exact wpAny_pyNext_enum_endD (D := Draws.tuple (prog := X.prog) (w := X.w) (A := X.A.in1) (I.ok.hd hc) it a hai its.toArray) he ⟨en.symm ▸ hit, pt⟩ fun h' eb => ⟨rfl, I.turned (t' := s.toks) (fun b o hb q => eb b o hb q) f0 f1 f3 f4 f5⟩
  self := fun A i s Q E st h => st.1.elim fun _ he => wpAny_pyIter_enum he h
def iEnT (K : PySem.W.Frag) (ta : TA) : TI := fun σ H R => ta σ H fun vs H1 => ∃ a xs, vs = [.ref a] ∧ SqT K H1 a xs ∧ R (Iet K a) H1
theorem pi_enT {X : Cx} {e : Expr} {ta : TA} {p pos tpos : Pos} {es : List Expr} {kk : Nat} (hg : Gl X "enumerate") (hm : X.mg "enumerate" = none) (ha : PA X [e] ta) (hs : starEach [e] X.env = [(false, eval e X.env)] := by rfl) :
    PI X (.Tuple es kk tpos) (.Call (.Name "enumerate" p) [e] [] pos) (iEnT X.K ta) := ⟨fun pins s σ H R I h => by
  refine Call_ (ld_blt I hg hm boot_enumerate (PyProof.Rows.callWith_type1 (thn (ha.run pos pins s σ H _ I h) fun us s1 ⟨vs, H1, I1, r1, a, xs, ex, hq, q⟩ => ?_) hs rfl))
  subst ex
  cases r1 with
  | cons r rr =>
    cases rr
    cases r
    obtain ⟨its, rv, p', hz⟩ := I1.tuple hq
    have pt : s1.heap.IsTuple a its.toArray := p'
    have la : a < s1.heap.objs.size := pt.elim fun _ q => Heap.lt_size q.1
    refine call_en_tup pt fun h' he hit hk => wpAny_pyIter_enum he ?_
    have I2 : Inv X pins σ H1 { s1 with heap := h' } := I1.kept (t' := s1.toks) hk
    refine ⟨s1.heap.objs.size + 1, [s1.heap.objs.size + 1, s1.heap.objs.size], _, _, H1, rfl, I2, turn_en_tup a (s1.heap.objs.size + 1) s1.heap.objs.size (Nat.ne_of_lt la) (Nat.ne_of_lt (Nat.lt_succ_of_lt la)), ⟨⟨.none, he⟩, hit, Nat.succ_ne_self _⟩, fun b hb => ?_, q⟩
    have lb : s1.heap.objs.size ≤ b := by
      rcases List.mem_cons.mp hb with z | z
      · exact z ▸ Nat.le_succ _
      · exact (List.mem_singleton.mp z) ▸ Nat.le_refl _
    exact I1.fpOk lb (I1.hok.fresh lb)⟩
end Mr
/-! Mr: data without a heap over the hand layer: slots of data, mirrors of expressions and statements, and that they tell what the readings do. -/
namespace Mr
open PySem L2

/-- the facts that all rules share: the written part, the classes by number -/
structure Tb where
  K : PySem.W.Frag
  cls : Nat → Addr
  /-- what stands from the start -/
  lo : Hp := fun _ => none
  /-- the slots, where they are fixed -/
  sg : Option L2.St := none
/-- nothing is fixed -/
class NoSg (T : Tb) : Prop where
  h : T.sg = none

/-- data, whole -/
inductive Py where
  | non | bl (b : Bool) | int (i : Int) | str (x : Str)
  | tup (l : List Py) | lst (l : List Py) | scr (l : List Py)
  | dic (ks : List Key) (vs : List Py) | dit (ks : List (List Key)) (vs : List Py)
  | obj (c : Nat) (fs : List Str) (vs : List Py)

mutual
/-- the value v stands for the data in a heap of what stays -/
inductive Rep (T : Tb) (F : Hp) : V → Py → Prop
  | non : Rep T F .non .non
  | bl (b : Bool) : Rep T F (.bl b) (.bl b)
  | int (i : Int) : Rep T F (.int i) (.int i)
  | str (x : Str) : Rep T F (.str x) (.str x)
  | tup {a : Addr} {xs : List V} {ds : List Py} : SqT T.K F a xs → RepL T F xs ds → Rep T F (.ref a) (.tup ds)
  | lst {a : Addr} {xs : List V} {ds : List Py} : F a = some (.lst xs) → RepL T F xs ds → Rep T F (.ref a) (.lst ds)
  | scr {a : Addr} {xs : List V} {ds : List Py} : SqL T.K F a xs → RepL T F xs ds → Rep T F (.ref a) (.scr ds)
  | dic {a : Addr} {kvs : List (Key × V)} {ks : List Key} {vs : List Py} : F a = some (.dK kvs) → kvs.map (·.1) = ks → RepL T F (kvs.map (·.2)) vs → Rep T F (.ref a) (.dic ks vs)
  | dit {a : Addr} {kvs : List (List Key × V)} {ks : List (List Key)} {vs : List Py} : F a = some (.dT kvs) → kvs.map (·.1) = ks → RepL T F (kvs.map (·.2)) vs → Rep T F (.ref a) (.dit ks vs)
  | obj {a dx : Addr} {fs : List (Str × V)} {c : Nat} {ks : List Str} {vs : List Py} : F a = some (.ins (T.cls c) dx fs) → fs.map (·.1) = ks → RepL T F (fs.map (·.2)) vs → Rep T F (.ref a) (.obj c ks vs)
inductive RepL (T : Tb) (F : Hp) : List V → List Py → Prop
  | nil : RepL T F [] []
  | cons {v : V} {vs : List V} {d : Py} {ds : List Py} : Rep T F v d → RepL T F vs ds → RepL T F (v :: vs) (d :: ds)
end

theorem same_t {K : PySem.W.Frag} {H H' : Hp} {a : Addr} {xs : List V} (e : Same H H') (h : SqT K H a xs) : SqT K H' a xs := by
  rcases h with (h | ⟨o, h⟩) | h
  · exact .inl (.inl (e _ _ h))
  · exact .inl (.inr ⟨o, e _ _ h⟩)
  · exact .inr h
mutual
theorem Rep.mono {T : Tb} {F G : Hp} (e : Same F G) : ∀ {v : V} {d : Py}, Rep T F v d → Rep T G v d
  | _, _, .non => .non
  | _, _, .bl b => .bl b
  | _, _, .int i => .int i
  | _, _, .str x => .str x
  | _, _, .tup h r => .tup (same_t e h) (RepL.mono e r)
  | _, _, .lst h r => .lst (e _ _ h) (RepL.mono e r)
  | _, _, .scr h r => .scr (e.seq h) (RepL.mono e r)
  | _, _, .dic h k r => .dic (e _ _ h) k (RepL.mono e r)
  | _, _, .dit h k r => .dit (e _ _ h) k (RepL.mono e r)
  | _, _, .obj h k r => .obj (e _ _ h) k (RepL.mono e r)
theorem RepL.mono {T : Tb} {F G : Hp} (e : Same F G) : ∀ {vs : List V} {ds : List Py}, RepL T F vs ds → RepL T G vs ds
  | _, _, .nil => .nil
  | _, _, .cons h r => .cons (Rep.mono e h) (RepL.mono e r)
end

theorem RepL.length {T : Tb} {F : Hp} : ∀ {vs : List V} {ds : List Py}, RepL T F vs ds → vs.length = ds.length
  | _, _, .nil => rfl
  | _, _, .cons _ r => by rw [List.length_cons, List.length_cons, RepL.length r]
theorem RepL.append {T : Tb} {F : Hp} : ∀ {vs ws : List V} {ds es : List Py}, RepL T F vs ds → RepL T F ws es → RepL T F (vs ++ ws) (ds ++ es)
  | _, _, _, _, .nil, s => s
  | _, _, _, _, .cons h r, s => .cons h (RepL.append r s)
theorem RepL.take {T : Tb} {F : Hp} : ∀ {vs : List V} {ds : List Py} (n : Nat), RepL T F vs ds → RepL T F (vs.take n) (ds.take n)
  | _, _, 0, _ => by rw [List.take_zero, List.take_zero]; exact .nil
  | _, _, _ + 1, .nil => .nil
  | _, _, n + 1, .cons h r => .cons h (RepL.take n r)
theorem RepL.drop {T : Tb} {F : Hp} : ∀ {vs : List V} {ds : List Py} (n : Nat), RepL T F vs ds → RepL T F (vs.drop n) (ds.drop n)
  | _, _, 0, r => r
  | _, _, _ + 1, .nil => .nil
  | _, _, n + 1, .cons _ r => RepL.drop n r
theorem RepL.get {T : Tb} {F : Hp} : ∀ {vs : List V} {ds : List Py} {i : Nat} {d : Py}, RepL T F vs ds → ds[i]? = some d → ∃ v, vs[i]? = some v ∧ Rep T F v d
  | _, _, _, _, .nil, h => by cases h
  | _, _, 0, _, .cons h _, e => by
    have e1 := Option.some.inj e
    subst e1
    exact ⟨_, rfl, h⟩
  | _, _, i + 1, _, .cons _ r, e => RepL.get (i := i) r e
theorem RepL.getv {T : Tb} {F : Hp} : ∀ {vs : List V} {ds : List Py} {i : Nat} {v : V}, RepL T F vs ds → vs[i]? = some v → ∃ d, ds[i]? = some d ∧ Rep T F v d
  | _, _, _, _, .nil, h => by cases h
  | _, _, 0, _, .cons h _, e => by
    have e1 := Option.some.inj e
    subst e1
    exact ⟨_, rfl, h⟩
  | _, _, i + 1, _, .cons _ r, e => RepL.getv (i := i) r e
theorem RepL.set {T : Tb} {F : Hp} {v : V} {d : Py} (h : Rep T F v d) : ∀ {vs : List V} {ds : List Py} (i : Nat), RepL T F vs ds → RepL T F (vs.set i v) (ds.set i d)
  | _, _, _, .nil => .nil
  | _, _, 0, .cons _ r => .cons h r
  | _, _, i + 1, .cons q r => .cons q (RepL.set h i r)

/-- a container at p, its items of what stays -/
def Box (T : Tb) (F H : Hp) (p : Addr) : Py → Prop
  | .lst ds => ∃ xs, H p = some (.lst xs) ∧ RepL T F xs ds
  | .dic ks vs => ∃ kvs, H p = some (.dK kvs) ∧ kvs.map (·.1) = ks ∧ RepL T F (kvs.map (·.2)) vs
  | .dit ks vs => ∃ kvs, H p = some (.dT kvs) ∧ kvs.map (·.1) = ks ∧ RepL T F (kvs.map (·.2)) vs
  | .obj c ks vs => ∃ dx fs, H p = some (.ins (T.cls c) dx fs) ∧ fs.map (·.1) = ks ∧ RepL T F (fs.map (·.2)) vs
  | _ => False
theorem Box.some {T : Tb} {F H : Hp} {p : Addr} : ∀ {d : Py}, Box T F H p d → ∃ o, H p = Option.some o
  | .lst _, h => by obtain ⟨_, h, _⟩ := h; exact ⟨_, h⟩
  | .dic _ _, h => by obtain ⟨_, h, _⟩ := h; exact ⟨_, h⟩
  | .dit _ _, h => by obtain ⟨_, h, _⟩ := h; exact ⟨_, h⟩
  | .obj _ _ _, h => by obtain ⟨_, _, h, _⟩ := h; exact ⟨_, h⟩
  | .non, h => h.elim
  | .bl _, h => h.elim
  | .int _, h => h.elim
  | .str _, h => h.elim
  | .tup _, h => h.elim
  | .scr _, h => h.elim
theorem Box.mono {T : Tb} {F G H J : Hp} {p : Addr} (e : Same F G) (k : ∀ o, H p = Option.some o → J p = Option.some o) : ∀ {d : Py}, Box T F H p d → Box T G J p d
  | .lst _, h => by obtain ⟨_, h, r⟩ := h; exact ⟨_, k _ h, r.mono e⟩
  | .dic _ _, h => by obtain ⟨_, h, q, r⟩ := h; exact ⟨_, k _ h, q, r.mono e⟩
  | .dit _ _, h => by obtain ⟨_, h, q, r⟩ := h; exact ⟨_, k _ h, q, r.mono e⟩
  | .obj _ _ _, h => by obtain ⟨_, _, h, q, r⟩ := h; exact ⟨_, _, k _ h, q, r.mono e⟩
  | .non, h => h.elim
  | .bl _, h => h.elim
  | .int _, h => h.elim
  | .str _, h => h.elim
  | .tup _, h => h.elim
  | .scr _, h => h.elim
theorem Box.rep {T : Tb} {F : Hp} {p : Addr} : ∀ {d : Py}, Box T F F p d → Rep T F (.ref p) d
  | .lst _, h => by obtain ⟨_, h, r⟩ := h; exact .lst h r
  | .dic _ _, h => by obtain ⟨_, h, q, r⟩ := h; exact .dic h q r
  | .dit _ _, h => by obtain ⟨_, h, q, r⟩ := h; exact .dit h q r
  | .obj _ _ _, h => by obtain ⟨_, _, h, q, r⟩ := h; exact .obj h q r
  | .non, h => h.elim
  | .bl _, h => h.elim
  | .int _, h => h.elim
  | .str _, h => h.elim
  | .tup _, h => h.elim
  | .scr _, h => h.elim

/-- a slot's data: nothing, what stays (its object may stand elsewhere, too), an object of its own; io: an argument that the asker keeps -/
inductive Sl where
  | no
  | im (io : Bool) (d : Py)
  | ow (io : Bool) (d : Py)
abbrev Rho := List Sl
def Sl.dat : Sl → Option Py
  | .no => none
  | .im _ d => some d
  | .ow _ d => some d
def Sl.isIo : Sl → Bool
  | .no => false
  | .im io _ => io
  | .ow io _ => io
/-- b is the object of a slot of its own -/
def Own (σ : L2.St) (ρ : Rho) (b : Addr) : Prop := ∃ (i : Nat) (io : Bool) (d : Py), ρ[i]? = some (.ow io d) ∧ σ[i]? = some (some (.ref b))

/-- .. by its mark -/
def OwnF (io : Bool) (σ : L2.St) (ρ : Rho) (b : Addr) : Prop := ∃ (i : Nat) (d : Py), ρ[i]? = some (.ow io d) ∧ σ[i]? = some (some (.ref b))
theorem OwnF.any {io : Bool} {σ : L2.St} {ρ : Rho} {b : Addr} (h : OwnF io σ ρ b) : Own σ ρ b := h.elim fun i h => h.elim fun d h => ⟨i, io, d, h⟩
theorem Own.mark {σ : L2.St} {ρ : Rho} {b : Addr} (h : Own σ ρ b) : ∃ io, OwnF io σ ρ b := h.elim fun i h => h.elim fun io h => h.elim fun d h => ⟨io, i, d, h⟩

def SlOk (T : Tb) (F H : Hp) (σ : L2.St) (i : Nat) : Sl → Prop
  | .no => True
  | .im _ d => ∃ v, σ[i]? = some (some v) ∧ Rep T F v d
  | .ow _ d => ∃ p, σ[i]? = some (some (.ref p)) ∧ F p = none ∧ Box T F H p d
/-- the slots stand for the data -/
structure En (T : Tb) (F : Hp) (σ : L2.St) (ρ : Rho) (H : Hp) : Prop where
  fh : Same F H
  len : σ.length = ρ.length
  sl : ∀ (i : Nat) (s : Sl), ρ[i]? = some s → SlOk T F H σ i s
  uniq : ∀ (i j : Nat) (a b : Bool) (d e : Py) (p : Addr), ρ[i]? = some (.ow a d) → ρ[j]? = some (.ow b e) → σ[i]? = some (some (.ref p)) → σ[j]? = some (some (.ref p)) → i = j
  lo : Same T.lo F
  sg : ∀ s, T.sg = some s → σ = s

/-- from one state to a later one -/
structure Fr (F H : Hp) (σ : L2.St) (ρ : Rho) (F' H' : Hp) (σ' : L2.St) (ρ' : Rho) : Prop where
  ex : Same F F'
  keep : ∀ b o, H b = some o → ¬ Own σ ρ b → H' b = some o
  new : ∀ b o, F' b = some o → F b = some o ∨ H b = none ∨ Own σ ρ b
  own : ∀ io b, OwnF io σ' ρ' b → OwnF io σ ρ b ∨ H b = none
  there : ∀ b o, H b = some o → ∃ o', H' b = some o'
  io : ∀ (i : Nat) (s : Sl), ρ[i]? = some s → s.isIo = true → ∃ s', ρ'[i]? = some s' ∧ s'.isIo = true ∧ σ'[i]? = σ[i]?
section
variable {T : Tb} {F F1 F2 H H1 H2 : Hp} {σ σ1 σ2 : L2.St} {ρ ρ1 ρ2 : Rho}
theorem Fr.ownA {F' H' : Hp} {σ' : L2.St} {ρ' : Rho} (f : Fr F H σ ρ F' H' σ' ρ') (b : Addr) (h : Own σ' ρ' b) : Own σ ρ b ∨ H b = none := by
  obtain ⟨io, h⟩ := h.mark
  exact (f.own io b h).imp OwnF.any id
theorem Fr.refl : Fr F H σ ρ F H σ ρ := ⟨Same.refl _, fun _ _ h _ => h, fun _ _ h => .inl h, fun _ _ h => .inl h, fun _ o h => ⟨o, h⟩, fun i s h q => ⟨s, h, q, rfl⟩⟩
theorem Fr.none (a : Fr F H σ ρ F1 H1 σ1 ρ1) {b : Addr} (h : H1 b = none) : H b = none := by
  cases q : H b with
  | none => rfl
  | some o =>
    obtain ⟨o', e⟩ := a.there b o q
    rw [h] at e
    cases e
theorem Fr.trans (a : Fr F H σ ρ F1 H1 σ1 ρ1) (b : Fr F1 H1 σ1 ρ1 F2 H2 σ2 ρ2) : Fr F H σ ρ F2 H2 σ2 ρ2 where
  ex := a.ex.trans b.ex
  keep := fun c o h n => b.keep c o (a.keep c o h n) fun w => by
    rcases a.ownA c w with w | w
    · exact n w
    · rw [w] at h; cases h
  new := fun c o h => by
    rcases b.new c o h with h | h | h
    · exact a.new c o h
    · exact .inr (.inl (a.none h))
    · rcases a.ownA c h with h | h
      · exact .inr (.inr h)
      · exact .inr (.inl h)
  own := fun io c h => by
    rcases b.own io c h with h | h
    · exact a.own io c h
    · exact .inr (a.none h)
  there := fun c o h => by
    obtain ⟨o1, h1⟩ := a.there c o h
    exact b.there c o1 h1
  io := fun i s h q => by
    obtain ⟨s1, h1, q1, e1⟩ := a.io i s h q
    obtain ⟨s2, h2, q2, e2⟩ := b.io i s1 h1 q1
    exact ⟨s2, h2, q2, e2.trans e1⟩
end
/-- growth alone: nothing of the slots' own is changed -/
structure Gr (F H F' H' : Hp) : Prop where
  ex : Same F F'
  keep : Same H H'
  new : ∀ b o, F' b = some o → F b = some o ∨ H b = none
section
variable {T : Tb} {F F1 F2 H H1 H2 : Hp} {σ : L2.St} {ρ : Rho}
theorem Gr.refl : Gr F H F H := ⟨Same.refl _, Same.refl _, fun _ _ h => .inl h⟩
theorem Gr.trans (a : Gr F H F1 H1) (b : Gr F1 H1 F2 H2) : Gr F H F2 H2 := ⟨a.ex.trans b.ex, a.keep.trans b.keep, fun c o h => by
  rcases b.new c o h with h | h
  · exact a.new c o h
  · exact .inr (a.keep.free h)⟩
theorem Gr.fr (g : Gr F H F1 H1) : Fr F H σ ρ F1 H1 σ ρ := ⟨g.ex, fun b o h _ => g.keep b o h, fun b o h => (g.new b o h).elim .inl fun z => .inr (.inl z), fun _ _ h => .inl h, fun b o h => ⟨o, g.keep b o h⟩, fun i s h q => ⟨s, h, q, rfl⟩⟩
theorem En.gr (I : En T F σ ρ H) (g : Gr F H F1 H1) (fh : Same F1 H1) : En T F1 σ ρ H1 where
  lo := I.lo.trans g.ex
  sg := I.sg
  fh := fh
  len := I.len
  sl := fun i s h => by
    have q := I.sl i s h
    cases s with
    | no => trivial
    | im io d =>
      obtain ⟨v, e, r⟩ := q
      exact ⟨v, e, r.mono g.ex⟩
    | ow io d =>
      obtain ⟨p, e, n, b⟩ := q
      refine ⟨p, e, ?_, b.mono g.ex fun o z => g.keep p o z⟩
      cases z : F1 p with
      | none => rfl
      | some o =>
        obtain ⟨o', e'⟩ := b.some
        rcases g.new p o z with y | y
        · rw [n] at y; cases y
        · rw [e'] at y; cases y
  uniq := I.uniq
end
/-- what an expression gives: what stays, a new object, the slot i's object -/
inductive Rv where
  | im (d : Py)
  | fr (d : Py)
  | bo (i : Nat)
def RR (T : Tb) (Hi F H : Hp) (σ : L2.St) (ρ : Rho) (v : V) : Rv → Prop
  | .im d => Rep T F v d
  | .fr d => ∃ p, v = .ref p ∧ F p = none ∧ Box T F H p d ∧ Hi p = none ∧ ¬ Own σ ρ p
  | .bo i => σ[i]? = some (some v)
/-- its data -/
def dat (ρ : Rho) : Rv → Option Py
  | .im d => some d
  | .fr d => some d
  | .bo i => match ρ[i]? with
    | some s => s.dat
    | none => none
/-- a value that is of what stays, or a container whose items are -/
def Pk (T : Tb) (F H : Hp) (v : V) (d : Py) : Prop := Rep T F v d ∨ ∃ p, v = .ref p ∧ Box T F H p d
section
variable {T : Tb} {F F1 F2 H H1 H2 Hi : Hp} {σ : L2.St} {ρ : Rho} {v : V} {d : Py}
theorem Pk.rep (fh : Same F H) (h : Pk T F H v d) : Rep T H v d := by
  rcases h with h | ⟨p, rfl, h⟩
  · exact h.mono fh
  · exact (h.mono fh fun _ z => z).rep
theorem RR.pk (I : En T F σ ρ H) {r : Rv} (h : RR T Hi F H σ ρ v r) (e : dat ρ r = some d) : Pk T F H v d := by
  cases r with
  | im d' =>
    have e' : d' = d := Option.some.inj e
    subst e'
    exact .inl h
  | fr d' =>
    have e' : d' = d := Option.some.inj e
    subst e'
    obtain ⟨p, rfl, _, b, _⟩ := h
    exact .inr ⟨p, rfl, b⟩
  | bo i =>
    have e : (match ρ[i]? with | some s => s.dat | none => Option.none) = some d := e
    cases q : ρ[i]? with
    | none => rw [q] at e; cases e
    | some s =>
      rw [q] at e
      have k := I.sl i s q
      have h' : σ[i]? = some (some v) := h
      cases s with
      | no => cases e
      | im io d' =>
        have e' : d' = d := Option.some.inj e
        subst e'
        obtain ⟨v', e1, r⟩ := k
        rw [h'] at e1
        cases e1
        exact .inl r
      | ow io d' =>
        have e' : d' = d := Option.some.inj e
        subst e'
        obtain ⟨p, e1, _, b⟩ := k
        rw [h'] at e1
        cases e1
        exact .inr ⟨p, rfl, b⟩
/-- the slots, when an object that no slot owns is put to what stays -/
theorem En.add (I : En T F σ ρ H) {p : Addr} {o : HO} (n : F p = none) (hp : H p = some o) (ho : ¬ Own σ ρ p) : En T (upd F p o) σ ρ H where
  lo := fun c u h => by rw [upd_ne (ne_of_none (I.lo c u h) n)]; exact I.lo c u h
  sg := I.sg
  fh := fun c u h => by
    by_cases hc : c = p
    · subst hc; rw [upd_same] at h; cases h; exact hp
    · rw [upd_ne hc] at h; exact I.fh c u h
  len := I.len
  sl := fun i s h => by
    have e : Same F (upd F p o) := fun c u h => by rw [upd_ne (ne_of_none h n)]; exact h
    have q := I.sl i s h
    cases s with
    | no => trivial
    | im io d =>
      obtain ⟨v, e1, r⟩ := q
      exact ⟨v, e1, r.mono e⟩
    | ow io d =>
      obtain ⟨q1, e1, n1, b1⟩ := q
      refine ⟨q1, e1, ?_, b1.mono e fun _ z => z⟩
      rw [upd_ne]
      · exact n1
      · intro z
        subst z
        exact ho ⟨i, io, d, h, e1⟩
  uniq := I.uniq
theorem same_add {p : Addr} {o : HO} (n : F p = none) : Same F (upd F p o) := fun c u h => by rw [upd_ne (ne_of_none h n)]; exact h
/-- what is settled: of what stays, or a slot's -/
def Rv.settled : Rv → Rv
  | .fr d => .im d
  | r => r
def RS (T : Tb) (F : Hp) (σ : L2.St) (v : V) : Rv → Prop
  | .im d => Rep T F v d
  | .fr _ => False
  | .bo i => σ[i]? = some (some v)
theorem RS.mono {r : Rv} (e : Same F F1) (h : RS T F σ v r) : RS T F1 σ v r := by
  cases r with
  | im d => exact Rep.mono (d := d) e h
  | fr d => exact h
  | bo i => exact h
theorem RS.pk {r : Rv} (I : En T F σ ρ H) (h : RS T F σ v r) (e : dat ρ r = some d) : Pk T F H v d := by
  cases r with
  | im d' => exact RR.pk (Hi := H) (r := .im d') I h e
  | fr d' => exact h.elim
  | bo i => exact RR.pk (Hi := H) (r := .bo i) I h e
theorem dat_settled {r : Rv} : dat ρ r.settled = dat ρ r := by cases r <;> rfl
theorem settle {ρ0 : Rho} {F0 : Hp} (f : Fr F0 Hi σ ρ0 F H σ ρ) (I : En T F σ ρ H) {r : Rv} (h : RR T Hi F H σ ρ v r) : ∃ F', Same F F' ∧ Fr F0 Hi σ ρ0 F' H σ ρ ∧ En T F' σ ρ H ∧ RS T F' σ v r.settled := by
  cases r with
  | im d => exact ⟨F, Same.refl _, f, I, h⟩
  | bo i => exact ⟨F, Same.refl _, f, I, h⟩
  | fr d =>
    obtain ⟨p, rfl, n, b, hi, ho⟩ := h
    obtain ⟨o, hp⟩ := b.some
    refine ⟨upd F p o, same_add n, ⟨f.ex.trans (same_add n), f.keep, fun c u z => ?_, f.own, f.there, f.io⟩, I.add n hp ho, (b.mono (same_add n) fun u z => by rw [upd_same]; rw [hp] at z; exact z).rep⟩
    by_cases hc : c = p
    · subst hc; exact .inr (.inl hi)
    · rw [upd_ne hc] at z; exact f.new c u z
/-- a slot's object is put to what stays -/
def Rho.freeze (ρ : Rho) (i : Nat) : Rho := match ρ[i]? with
  | some (.ow io d) => ρ.set i (.im io d)
  | _ => ρ
theorem own_set {i : Nat} {s : Sl} (hs : ∀ io d, s ≠ .ow io d) {io : Bool} {b : Addr} (h : OwnF io σ (ρ.set i s) b) : OwnF io σ ρ b := by
  obtain ⟨j, d, e1, e2⟩ := h
  by_cases hk : i = j
  · subst hk
    by_cases hl : i < ρ.length
    · rw [List.getElem?_set_self hl] at e1
      exact absurd (Option.some.inj e1) (hs io d)
    · rw [List.getElem?_eq_none (by rw [List.length_set]; omega)] at e1
      cases e1
  · rw [List.getElem?_set_ne hk] at e1
    exact ⟨j, d, e1, e2⟩
theorem En.freeze (I : En T F σ ρ H) {i : Nat} {v : V} {d : Py} (hv : σ[i]? = some (some v)) (hd : dat ρ (.bo i) = some d) :
    ∃ F', Fr F H σ ρ F' H σ (ρ.freeze i) ∧ En T F' σ (ρ.freeze i) H ∧ Rep T F' v d := by
  have e : (match ρ[i]? with | some s => s.dat | none => Option.none) = some d := hd
  cases q : ρ[i]? with
  | none => rw [q] at e; cases e
  | some s =>
    rw [q] at e
    have k := I.sl i s q
    cases s with
    | no => cases e
    | im io d' =>
      have e' : d' = d := Option.some.inj e
      subst e'
      obtain ⟨v', e1, r⟩ := k
      rw [hv] at e1
      cases e1
      have z : ρ.freeze i = ρ := by unfold Rho.freeze; rw [q]
      rw [z]
      exact ⟨F, Fr.refl, I, r⟩
    | ow io d' =>
      have e' : d' = d := Option.some.inj e
      subst e'
      obtain ⟨p, e1, n, b⟩ := k
      rw [hv] at e1
      cases e1
      have z : ρ.freeze i = ρ.set i (.im io d') := by unfold Rho.freeze; rw [q]
      obtain ⟨o, hp⟩ := b.some
      have hl : i < ρ.length := (List.getElem?_eq_some_iff.mp q).1
      have ow : Own σ ρ p := ⟨i, io, d', q, hv⟩
      have rp : Rep T (upd F p o) (.ref p) d' := (b.mono (same_add n) fun u z => by rw [upd_same]; rw [hp] at z; exact z).rep
      rw [z]
      refine ⟨upd F p o, ⟨same_add n, fun _ _ h _ => h, fun c u h => ?_, fun _ c h => .inl (own_set (by intro _ _ z; cases z) h), fun c u h => ⟨u, h⟩, fun j s h k => ?_⟩, ⟨fun c u h => ?_, by rw [List.length_set]; exact I.len, fun j s h => ?_, fun a c x y d1 d2 p' h1 h2 => ?_, I.lo.trans (same_add n), I.sg⟩, rp⟩
      · by_cases hc : c = p
        · subst hc; exact .inr (.inr ow)
        · rw [upd_ne hc] at h; exact .inl h
      · by_cases hj : i = j
        · subst hj
          rw [q] at h
          cases h
          exact ⟨.im io d', by rw [List.getElem?_set_self hl], k, rfl⟩
        · exact ⟨s, by rw [List.getElem?_set_ne hj]; exact h, k, rfl⟩
      · by_cases hc : c = p
        · subst hc; rw [upd_same] at h; cases h; exact hp
        · rw [upd_ne hc] at h; exact I.fh c u h
      · by_cases hj : i = j
        · subst hj
          rw [List.getElem?_set_self hl] at h
          cases h
          exact ⟨.ref p, hv, rp⟩
        · rw [List.getElem?_set_ne hj] at h
          have k := I.sl j s h
          cases s with
          | no => trivial
          | im io2 d2 =>
            obtain ⟨v2, e2, r2⟩ := k
            exact ⟨v2, e2, r2.mono (same_add n)⟩
          | ow io2 d2 =>
            obtain ⟨p2, e2, n2, b2⟩ := k
            refine ⟨p2, e2, ?_, b2.mono (same_add n) fun _ z => z⟩
            rw [upd_ne]
            · exact n2
            · intro w
              subst w
              exact hj (I.uniq i j io io2 d' d2 _ q h hv e2)
      · have f1 : ∀ {k : Nat} {io2 : Bool} {d2 : Py}, (ρ.set i (.im io d'))[k]? = some (.ow io2 d2) → ρ[k]? = some (.ow io2 d2) := fun {k io2 d2} h => by
          by_cases hk : i = k
          · subst hk
            rw [List.getElem?_set_self hl] at h
            cases h
          · rw [List.getElem?_set_ne hk] at h
            exact h
        exact I.uniq a c x y d1 d2 p' (f1 h1) (f1 h2)
end
end Mr
namespace Mr
open PySem L2

/-! ### mirrors of expressions -/
inductive ER where
  | ok (r : Rv) (ρ : Rho)
  | ex (c : Nat) (w : Py) (ρ : Rho)
  | st
abbrev ME := Rho → ER
def ER.bind (x : ER) (k : Rv → Rho → ER) : ER := match x with
  | .ok r ρ => k r ρ
  | .ex c w ρ => .ex c w ρ
  | .st => .st
/-- what an operation on data gives -/
inductive OV where
  | im (d : Py)
  | fr (d : Py)
  | st
def OV.er (x : OV) (ρ : Rho) : ER := match x with
  | .im d => .ok (.im d) ρ
  | .fr d => .ok (.fr d) ρ
  | .st => .st
/-- the wish about exceptions -/
abbrev Wx := Value → Option Addr → L2.St → Hp → Prop

def EPost (T : Tb) (W : Wx) (F H : Hp) (σ : L2.St) (ρ : Rho) (Q : VK) : ER → Prop
  | .ok r ρ' => ∀ v F' H', Fr F H σ ρ F' H' σ ρ' → En T F' σ ρ' H' → RR T H F' H' σ ρ' v r → Q v H'
  | .ex c w ρ' => ∀ d v F' H', Fr F H σ ρ F' H' σ ρ' → En T F' σ ρ' H' → Rep T F' v w → H' d = some (.xd [("what", v)]) → H d = none → F' d = none → W (.ref (T.cls c)) (some d) σ H'
  | .st => False
def SE (T : Tb) (W : Wx) (te : TE) (m : ME) : Prop := ∀ (F H : Hp) (σ : L2.St) (ρ : Rho) (Q : VK), En T F σ ρ H → EPost T W F H σ ρ Q (m ρ) → te σ H Q
/-- tests: what they give is a bool -/
def TPost (T : Tb) (W : Wx) (F H : Hp) (σ : L2.St) (ρ : Rho) (Q : Bool → Hp → Prop) : ER → Prop
  | .ok (.im (.bl b)) ρ' => ∀ F' H', Fr F H σ ρ F' H' σ ρ' → En T F' σ ρ' H' → Q b H'
  | .ex c w ρ' => ∀ d v F' H', Fr F H σ ρ F' H' σ ρ' → En T F' σ ρ' H' → Rep T F' v w → H' d = some (.xd [("what", v)]) → H d = none → F' d = none → W (.ref (T.cls c)) (some d) σ H'
  | _ => False
def ST (T : Tb) (W : Wx) (tt : TT) (m : ME) : Prop := ∀ (F H : Hp) (σ : L2.St) (ρ : Rho) (Q : Bool → Hp → Prop), En T F σ ρ H → TPost T W F H σ ρ Q (m ρ) → tt σ H Q

section
variable {T : Tb} {W : Wx} {F F1 F2 F' H H1 H2 H' : Hp} {σ : L2.St} {ρ ρ1 ρ2 : Rho} {Q : VK}
/-- from a later state -/
theorem EPost.fr (f : Fr F H σ ρ F1 H1 σ ρ1) : ∀ {x : ER}, EPost T W F H σ ρ Q x → EPost T W F1 H1 σ ρ1 Q x
  | .ok r ρ', h => fun v F' H' f2 I rr => h v F' H' (f.trans f2) I (by
      cases r with
      | im d => exact rr
      | bo i => exact rr
      | fr d =>
        obtain ⟨p, e, n, b, hi, ho⟩ := rr
        exact ⟨p, e, n, b, f.none hi, ho⟩)
  | .ex c w ρ', h => fun d v F' H' f2 I rr hd hn hF => h d v F' H' (f.trans f2) I rr hd (f.none hn) hF
  | .st, h => h
theorem TPost.fr {Q : Bool → Hp → Prop} (f : Fr F H σ ρ F1 H1 σ ρ1) : ∀ {x : ER}, TPost T W F H σ ρ Q x → TPost T W F1 H1 σ ρ1 Q x
  | .ok (.im (.bl b)) ρ', h => fun F' H' f2 I => h F' H' (f.trans f2) I
  | .ex c w ρ', h => fun d v F' H' f2 I rr hd hn hF => h d v F' H' (f.trans f2) I rr hd (f.none hn) hF
  | .st, h => h
  | .ok (.im .non) _, h => h.elim
  | .ok (.im (.int _)) _, h => h.elim
  | .ok (.im (.str _)) _, h => h.elim
  | .ok (.im (.tup _)) _, h => h.elim
  | .ok (.im (.lst _)) _, h => h.elim
  | .ok (.im (.scr _)) _, h => h.elim
  | .ok (.im (.dic _ _)) _, h => h.elim
  | .ok (.im (.dit _ _)) _, h => h.elim
  | .ok (.im (.obj _ _ _)) _, h => h.elim
  | .ok (.fr _) _, h => h.elim
  | .ok (.bo _) _, h => h.elim

/-- an expression, settled, then the rest -/
theorem se_then {te : TE} {m : ME} (h : SE T W te m) (I : En T F σ ρ H) {k : Rv → Rho → ER} {Q' : VK} (q : EPost T W F H σ ρ Q ((m ρ).bind k))
    (next : ∀ v r ρ1 F1 H1, m ρ = .ok r ρ1 → Fr F H σ ρ F1 H1 σ ρ1 → En T F1 σ ρ1 H1 → RS T F1 σ v r.settled → EPost T W F1 H1 σ ρ1 Q (k r ρ1) → Q' v H1) : te σ H Q' := by
  refine h F H σ ρ Q' I ?_
  cases e : m ρ with
  | st => rw [e] at q; exact q
  | ex c w ρ' => rw [e] at q; exact q
  | ok r ρ1 =>
    rw [e] at q
    intro v F1 H1 f I1 rr
    obtain ⟨F2, _, f2, I2, rs⟩ := settle f I1 rr
    exact next v r ρ1 F2 H1 e f2 I2 rs (EPost.fr f2 q)
theorem st_then {te : TE} {m : ME} {Q : Bool → Hp → Prop} (h : SE T W te m) (I : En T F σ ρ H) {k : Rv → Rho → ER} {Q' : VK} (q : TPost T W F H σ ρ Q ((m ρ).bind k))
    (next : ∀ v r ρ1 F1 H1, m ρ = .ok r ρ1 → Fr F H σ ρ F1 H1 σ ρ1 → En T F1 σ ρ1 H1 → RS T F1 σ v r.settled → TPost T W F1 H1 σ ρ1 Q (k r ρ1) → Q' v H1) : te σ H Q' := by
  refine h F H σ ρ Q' I ?_
  cases e : m ρ with
  | st => rw [e] at q; exact q
  | ex c w ρ' => rw [e] at q; exact q
  | ok r ρ1 =>
    rw [e] at q
    intro v F1 H1 f I1 rr
    obtain ⟨F2, _, f2, I2, rs⟩ := settle f I1 rr
    exact next v r ρ1 F2 H1 e f2 I2 rs (TPost.fr f2 q)

/-! ### names and constants -/
def mVar (i : Nat) : ME := fun ρ => match ρ[i]? with
  | some (.im _ d) => .ok (.im d) ρ
  | some (.ow _ _) => .ok (.bo i) ρ
  | _ => .st
theorem se_var (i : Nat) : SE T W (tVar i) (mVar i) := fun F H σ ρ Q I q => by
  unfold mVar at q
  cases e : ρ[i]? with
  | none => rw [e] at q; exact q.elim
  | some s =>
    rw [e] at q
    have k := I.sl i s e
    cases s with
    | no => exact q.elim
    | im io d =>
      obtain ⟨v, e1, r⟩ := k
      exact ⟨v, e1, q v F H Fr.refl I r⟩
    | ow io d =>
      obtain ⟨p, e1, _⟩ := k
      exact ⟨.ref p, e1, q _ F H Fr.refl I e1⟩
def mC (d : Py) : ME := fun ρ => .ok (.im d) ρ
theorem se_c {v : V} {d : Py} (h : ∀ F, Rep T F v d) : SE T W (tC v) (mC d) := fun F H σ ρ Q I q => q v F H Fr.refl I (h F)
theorem se_int (i : Int) : SE T W (tC (.int i)) (mC (.int i)) := se_c fun _ => .int i
theorem se_bl (b : Bool) : SE T W (tC (.bl b)) (mC (.bl b)) := se_c fun _ => .bl b
theorem se_str (x : Str) : SE T W (tC (.str x)) (mC (.str x)) := se_c fun _ => .str x
theorem se_non : SE T W (tC .non) (mC .non) := se_c fun _ => .non

/-! ### operations on data -/
/-- what may be told of the outcome of an operation -/
def Give (T : Tb) (F H : Hp) (Q : VK) : OV → Prop
  | .im d => ∀ v F' H', Gr F H F' H' → Same F' H' → Rep T F' v d → Q v H'
  | .fr d => ∀ p F' H', Gr F H F' H' → Same F' H' → H p = none → F' p = none → Box T F' H' p d → Q (.ref p) H'
  | .st => False
theorem Give.post (I : En T F σ ρ H) {x : OV} (q : EPost T W F H σ ρ Q (x.er ρ)) : Give T F H Q x := by
  cases x with
  | st => exact q
  | im d => exact fun v F' H' g s r => q v F' H' g.fr (I.gr g s) r
  | fr d => exact fun p F' H' g s n nF b => q _ F' H' g.fr (I.gr g s) ⟨p, rfl, nF, b, n, fun w => by
      obtain ⟨i, io, d', e1, e2⟩ := w
      obtain ⟨p', e3, _, b'⟩ := I.sl i _ e1
      rw [e2] at e3
      cases e3
      obtain ⟨o, e4⟩ := b'.some
      rw [n] at e4
      cases e4⟩
theorem Give.same {d : Py} {v : V} (fh : Same F H) (r : Rep T F v d) (q : Give T F H Q (.im d)) : Q v H := q v F H Gr.refl fh r
/-- a new object that holds what stays -/
theorem gr_new {p : Addr} {o : HO} (fh : Same F H) (n : H p = none) : Gr F H F (upd H p o) ∧ Same F (upd H p o) :=
  ⟨⟨Same.refl _, fun c u h => by rw [upd_ne (ne_of_none h n)]; exact h, fun _ _ h => .inl h⟩, fun c u h => by rw [upd_ne (ne_of_none (fh c u h) n)]; exact fh c u h⟩
theorem gr_add {p : Addr} {o : HO} (fh : Same F H) (n : H p = none) : Gr F H (upd F p o) (upd H p o) ∧ Same (upd F p o) (upd H p o) := by
  have nF : F p = none := fh.free n
  refine ⟨⟨same_add nF, fun c u h => by rw [upd_ne (ne_of_none h n)]; exact h, fun c u h => ?_⟩, fun c u h => ?_⟩
  · by_cases hc : c = p
    · subst hc; exact .inr n
    · rw [upd_ne hc] at h; exact .inl h
  · by_cases hc : c = p
    · subst hc; rw [upd_same] at h ⊢; exact h
    · rw [upd_ne hc] at h ⊢; exact fh c u h
theorem Give.tup {ds : List Py} {xs : List V} (fh : Same F H) (r : RepL T F xs ds) (q : Give T F H Q (.im (.tup ds))) : ∀ p, H p = none → Q (.ref p) (upd H p (.tup xs)) := fun p n => by
  obtain ⟨g, s⟩ := gr_add (o := .tup xs) fh n
  exact q _ _ _ g s (.tup (SqT.of upd_same) (r.mono g.ex))
theorem Give.lst {ds : List Py} {xs : List V} (fh : Same F H) (r : RepL T F xs ds) (q : Give T F H Q (.fr (.lst ds))) : ∀ p, H p = none → Q (.ref p) (upd H p (.lst xs)) := fun p n => by
  obtain ⟨g, s⟩ := gr_new (o := .lst xs) fh n
  exact q _ _ _ g s n (fh.free n) ⟨xs, upd_same, r⟩

/-- a two-place operation -/
def R2ok (T : Tb) (r : R2) (f : Py → Py → OV) : Prop := ∀ (F H : Hp) (x y : V) (d e : Py) (Q : VK), Same F H → Pk T F H x d → Pk T F H y e → Give T F H Q (f d e) → r x y H Q
def R1ok (T : Tb) (r : V → Hp → VK → Prop) (f : Py → OV) : Prop := ∀ (F H : Hp) (x : V) (d : Py) (Q : VK), Same F H → Pk T F H x d → Give T F H Q (f d) → r x H Q
def mOp (f : Py → Py → OV) (ma mb : ME) : ME := fun ρ => (ma ρ).bind fun x ρ1 => (mb ρ1).bind fun y ρ2 => match dat ρ2 x, dat ρ2 y with
  | some d, some e => (f d e).er ρ2
  | _, _ => .st
theorem se_op {r : R2} {f : Py → Py → OV} {ta tb : TE} {ma mb : ME} (hr : R2ok T r f) (ha : SE T W ta ma) (hb : SE T W tb mb) : SE T W (tOp r ta tb) (mOp f ma mb) := fun F H σ ρ Q I q => by
  refine se_then ha I q fun v x ρ1 F1 H1 e1 f1 I1 s1 q1 => ?_
  refine se_then hb I1 q1 fun w y ρ2 F2 H2 e2 f2 I2 s2 q2 => ?_
  cases hx : dat ρ2 x with
  | none => rw [hx] at q2; exact q2.elim
  | some d =>
    cases hy : dat ρ2 y with
    | none => rw [hx, hy] at q2; exact q2.elim
    | some e =>
      rw [hx, hy] at q2
      exact hr F2 H2 v w d e Q I2.fh ((s1.mono f2.ex).pk I2 (dat_settled.trans hx)) (s2.pk I2 (dat_settled.trans hy)) (Give.post I2 q2)
def mUn (f : Py → OV) (ma : ME) : ME := fun ρ => (ma ρ).bind fun x ρ1 => match dat ρ1 x with
  | some d => (f d).er ρ1
  | none => .st
theorem se_un {r : V → Hp → VK → Prop} {f : Py → OV} {ta : TE} {ma : ME} (hr : R1ok T r f) (ha : SE T W ta ma) : SE T W (tUn r ta) (mUn f ma) := fun F H σ ρ Q I q => by
  refine se_then ha I q fun v x ρ1 F1 H1 e1 f1 I1 s1 q1 => ?_
  cases hx : dat ρ1 x with
  | none => rw [hx] at q1; exact q1.elim
  | some d =>
    rw [hx] at q1
    exact hr F1 H1 v d Q I1.fh (s1.pk I1 (dat_settled.trans hx)) (Give.post I1 q1)

/-! ### arguments -/
inductive AR where
  | ok (rs : List Rv) (ρ : Rho)
  | ex (c : Nat) (w : Py) (ρ : Rho)
  | st
abbrev MA := Rho → AR
/-- each settled, of what stays or a slot's -/
inductive RSL (T : Tb) (F : Hp) (σ : L2.St) : List V → List Rv → Prop
  | nil : RSL T F σ [] []
  | cons {v : V} {r : Rv} {vs : List V} {rs : List Rv} : RS T F σ v r → RSL T F σ vs rs → RSL T F σ (v :: vs) (r :: rs)
theorem RSL.mono {vs : List V} {rs : List Rv} (e : Same F F1) (h : RSL T F σ vs rs) : RSL T F1 σ vs rs := by
  induction h with
  | nil => exact .nil
  | cons h _ ih => exact .cons (h.mono e) ih
def APost (T : Tb) (W : Wx) (F H : Hp) (σ : L2.St) (ρ : Rho) (Q : List V → Hp → Prop) : AR → Prop
  | .ok rs ρ' => ∀ vs F' H', Fr F H σ ρ F' H' σ ρ' → En T F' σ ρ' H' → RSL T F' σ vs rs → Q vs H'
  | .ex c w ρ' => ∀ d v F' H', Fr F H σ ρ F' H' σ ρ' → En T F' σ ρ' H' → Rep T F' v w → H' d = some (.xd [("what", v)]) → H d = none → F' d = none → W (.ref (T.cls c)) (some d) σ H'
  | .st => False
def SA (T : Tb) (W : Wx) (ta : TA) (m : MA) : Prop := ∀ (F H : Hp) (σ : L2.St) (ρ : Rho) (Q : List V → Hp → Prop), En T F σ ρ H → APost T W F H σ ρ Q (m ρ) → ta σ H Q
def aNil : MA := fun ρ => .ok [] ρ
def aCons (me : ME) (mr : MA) : MA := fun ρ => match me ρ with
  | .ok r ρ1 => (match mr ρ1 with
    | .ok rs ρ2 => .ok (r.settled :: rs) ρ2
    | .ex c w ρ2 => .ex c w ρ2
    | .st => .st)
  | .ex c w ρ1 => .ex c w ρ1
  | .st => .st
theorem sa_nil : SA T W tNil aNil := fun F H σ ρ Q I q => q [] F H Fr.refl I .nil
theorem sa_cons {te : TE} {tr : TA} {me : ME} {mr : MA} (he : SE T W te me) (hr : SA T W tr mr) : SA T W (tCons te tr) (aCons me mr) := fun F H σ ρ Q I q => by
  refine he F H σ ρ _ I ?_
  unfold aCons at q
  cases e : me ρ with
  | st => rw [e] at q; exact q
  | ex c w ρ' => rw [e] at q; exact q
  | ok r ρ1 =>
    rw [e] at q
    have q : APost T W F H σ ρ Q (match mr ρ1 with | .ok rs ρ2 => .ok (r.settled :: rs) ρ2 | .ex c w ρ2 => .ex c w ρ2 | .st => .st) := q
    intro v F1' H1 f1' I1' rr
    obtain ⟨F1, _, f1, I1, s1⟩ := settle f1' I1' rr
    refine hr F1 H1 σ ρ1 _ I1 ?_
    cases e2 : mr ρ1 with
    | st => rw [e2] at q; exact q
    | ex c w ρ' =>
      rw [e2] at q
      exact fun d v F' H' f2 I2 rw hd hn hF => q d v F' H' (f1.trans f2) I2 rw hd (f1.none hn) hF
    | ok rs ρ2 =>
      rw [e2] at q
      exact fun vs F2 H2 f2 I2 s2 => q (v :: vs) F2 H2 (f1.trans f2) I2 (.cons (s1.mono f2.ex) s2)
/-- the data of arguments -/
def dats (ρ : Rho) : List Rv → Option (List Py)
  | [] => some []
  | r :: rs => match dat ρ r, dats ρ rs with
    | some d, some ds => some (d :: ds)
    | _, _ => none
inductive PkL (T : Tb) (F H : Hp) : List V → List Py → Prop
  | nil : PkL T F H [] []
  | cons {v : V} {d : Py} {vs : List V} {ds : List Py} : Pk T F H v d → PkL T F H vs ds → PkL T F H (v :: vs) (d :: ds)
theorem RSL.pk (I : En T F σ ρ H) : ∀ {vs : List V} {rs : List Rv} {ds : List Py}, RSL T F σ vs rs → dats ρ rs = some ds → PkL T F H vs ds
  | _, _, _, .nil, e => by
    cases e
    exact .nil
  | _, _, _, .cons (r := r) (rs := rs) h t, e => by
    have e : (match dat ρ r, dats ρ rs with | some d, some ds => some (d :: ds) | _, _ => none) = some _ := e
    cases h1 : dat ρ r with
    | none => rw [h1] at e; cases e
    | some d =>
      cases h2 : dats ρ rs with
      | none => rw [h1, h2] at e; cases e
      | some ds =>
        rw [h1, h2] at e
        cases e
        exact .cons (h.pk I h1) (RSL.pk I t h2)
/-- all arguments to what stays -/
def frz (ρ : Rho) : List Rv → Rho
  | [] => ρ
  | .bo i :: rs => frz (ρ.freeze i) rs
  | _ :: rs => frz ρ rs
theorem dat_freeze {i : Nat} {r : Rv} : dat (ρ.freeze i) r = dat ρ r := by
  unfold Rho.freeze
  cases e : ρ[i]? with
  | none => rfl
  | some s =>
    cases s with
    | no => rfl
    | im _ _ => rfl
    | ow io d =>
      cases r with
      | im _ => rfl
      | fr _ => rfl
      | bo j =>
        show (match (ρ.set i (.im io d))[j]? with | some s => s.dat | none => none) = (match ρ[j]? with | some s => s.dat | none => none)
        have hl : i < ρ.length := (List.getElem?_eq_some_iff.mp e).1
        by_cases hj : i = j
        · subst hj
          rw [List.getElem?_set_self hl, e]
          rfl
        · rw [List.getElem?_set_ne hj]
theorem frz_all : ∀ {rs : List Rv} {vs : List V} {ds : List Py} {ρ : Rho} {F : Hp}, En T F σ ρ H → RSL T F σ vs rs → dats ρ rs = some ds → ∃ F', Fr F H σ ρ F' H σ (frz ρ rs) ∧ En T F' σ (frz ρ rs) H ∧ RepL T F' vs ds := by
  intro rs
  induction rs with
  | nil =>
    intro vs ds ρ F I h e
    cases h
    cases e
    exact ⟨F, Fr.refl, I, .nil⟩
  | cons r rs ih =>
    intro vs ds ρ F I h e
    cases h with
    | cons h t =>
      rename_i v vs
      have e : (match dat ρ r, dats ρ rs with | some d, some ds => some (d :: ds) | _, _ => none) = some _ := e
      cases h1 : dat ρ r with
      | none => rw [h1] at e; cases e
      | some d =>
        cases h2 : dats ρ rs with
        | none => rw [h1, h2] at e; cases e
        | some ds' =>
          rw [h1, h2] at e
          cases e
          cases r with
          | fr _ => exact h.elim
          | im d' =>
            have e' : d' = d := Option.some.inj h1
            subst e'
            obtain ⟨F2, f2, I2, r2⟩ := ih I t h2
            exact ⟨F2, f2, I2, .cons (Rep.mono f2.ex h) r2⟩
          | bo i =>
            obtain ⟨F1, f1, I1, r1⟩ := I.freeze h h1
            have h2' : dats (ρ.freeze i) rs = some ds' := by
              have go : ∀ l : List Rv, dats (ρ.freeze i) l = dats ρ l := fun l => by
                induction l with
                | nil => rfl
                | cons a l ih =>
                  show (match dat (ρ.freeze i) a, dats (ρ.freeze i) l with | some d, some ds => some (d :: ds) | _, _ => none) = (match dat ρ a, dats ρ l with | some d, some ds => some (d :: ds) | _, _ => none)
                  rw [dat_freeze, ih]
              rw [go]; exact h2
            obtain ⟨F2, f2, I2, r2⟩ := ih I1 (t.mono f1.ex) h2'
            exact ⟨F2, f1.trans f2, I2, .cons (r1.mono f2.ex) r2⟩

/-! ### displays, calls of built-ins -/
def aBind (x : AR) (k : List Rv → Rho → ER) : ER := match x with
  | .ok rs ρ => k rs ρ
  | .ex c w ρ => .ex c w ρ
  | .st => .st
theorem sa_then {ta : TA} {m : MA} (h : SA T W ta m) (I : En T F σ ρ H) {k : List Rv → Rho → ER} {Q' : List V → Hp → Prop} (q : EPost T W F H σ ρ Q (aBind (m ρ) k))
    (next : ∀ vs rs ρ1 F1 H1, m ρ = .ok rs ρ1 → Fr F H σ ρ F1 H1 σ ρ1 → En T F1 σ ρ1 H1 → RSL T F1 σ vs rs → EPost T W F1 H1 σ ρ1 Q (k rs ρ1) → Q' vs H1) : ta σ H Q' := by
  refine h F H σ ρ Q' I ?_
  cases e : m ρ with
  | st => rw [e] at q; exact q
  | ex c w ρ' => rw [e] at q; exact q
  | ok rs ρ1 =>
    rw [e] at q
    exact fun vs F1 H1 f I1 s => next vs rs ρ1 F1 H1 e f I1 s (EPost.fr f q)
/-- items that are put into an object stay from then on -/
def mIts (m : MA) (k : List Py → OV) : ME := fun ρ => aBind (m ρ) fun rs ρ1 => match dats ρ1 rs with
  | some ds => (k ds).er (frz ρ1 rs)
  | none => .st
def mTup (m : MA) : ME := mIts m fun ds => if ds.length ≤ sizeLine then .im (.tup ds) else .st
def mLst (m : MA) : ME := mIts m fun ds => if ds.length ≤ sizeLine then .fr (.lst ds) else .st
theorem se_tup {ta : TA} {m : MA} (h : SA T W ta m) : SE T W (tTup ta) (mTup m) := fun F H σ ρ Q I q => by
  refine sa_then h I q fun vs rs ρ1 F1 H1 e f1 I1 s1 q1 => ?_
  cases hd : dats ρ1 rs with
  | none => rw [hd] at q1; exact q1.elim
  | some ds =>
    rw [hd] at q1
    obtain ⟨F2, f2, I2, r2⟩ := frz_all I1 s1 hd
    have q2 : EPost T W F2 H1 σ (frz ρ1 rs) Q ((if ds.length ≤ sizeLine then OV.im (.tup ds) else .st).er (frz ρ1 rs)) := EPost.fr f2 q1
    by_cases hl : ds.length ≤ sizeLine
    · rw [if_pos hl] at q2
      exact ⟨by rw [r2.length]; exact hl, (Give.post I2 q2).tup I2.fh r2⟩
    · rw [if_neg hl] at q2
      exact q2.elim
theorem se_lst {ta : TA} {m : MA} (h : SA T W ta m) : SE T W (tLst ta) (mLst m) := fun F H σ ρ Q I q => by
  refine sa_then h I q fun vs rs ρ1 F1 H1 e f1 I1 s1 q1 => ?_
  cases hd : dats ρ1 rs with
  | none => rw [hd] at q1; exact q1.elim
  | some ds =>
    rw [hd] at q1
    obtain ⟨F2, f2, I2, r2⟩ := frz_all I1 s1 hd
    have q2 : EPost T W F2 H1 σ (frz ρ1 rs) Q ((if ds.length ≤ sizeLine then OV.fr (.lst ds) else .st).er (frz ρ1 rs)) := EPost.fr f2 q1
    by_cases hl : ds.length ≤ sizeLine
    · rw [if_pos hl] at q2
      exact ⟨by rw [r2.length]; exact hl, (Give.post I2 q2).lst I2.fh r2⟩
    · rw [if_neg hl] at q2
      exact q2.elim
/-- a call of a built-in, its arguments read -/
def RCok (T : Tb) (r : List V → Hp → VK → Prop) (f : List Py → OV) : Prop := ∀ (F H : Hp) (xs : List V) (ds : List Py) (Q : VK), Same F H → PkL T F H xs ds → Give T F H Q (f ds) → r xs H Q
def mCB (f : List Py → OV) (m : MA) : ME := fun ρ => aBind (m ρ) fun rs ρ1 => match dats ρ1 rs with
  | some ds => (f ds).er ρ1
  | none => .st
theorem se_cb {r : List V → Hp → VK → Prop} {f : List Py → OV} {ta : TA} {m : MA} (hr : RCok T r f) (h : SA T W ta m) : SE T W (tCB r ta) (mCB f m) := fun F H σ ρ Q I q => by
  refine sa_then h I q fun vs rs ρ1 F1 H1 e f1 I1 s1 q1 => ?_
  cases hd : dats ρ1 rs with
  | none => rw [hd] at q1; exact q1.elim
  | some ds =>
    rw [hd] at q1
    exact hr F1 H1 vs ds Q I1.fh (s1.pk I1 hd) (Give.post I1 q1)

/-! ### tests and what hangs on them -/
theorem TPost.bl {Q : Bool → Hp → Prop} {b : Bool} (q : TPost T W F H σ ρ Q (.ok (.im (.bl b)) ρ1)) : ∀ F' H', Fr F H σ ρ F' H' σ ρ1 → En T F' σ ρ1 H' → Q b H' := q
/-- a value that is a bool, as a test -/
def mB (m : ME) : ME := fun ρ => (m ρ).bind fun r ρ1 => match r with
  | .im (.bl b) => .ok (.im (.bl b)) ρ1
  | _ => .st
theorem st_B {te : TE} {m : ME} (h : SE T W te m) : ST T W (tB te) (mB m) := fun F H σ ρ Q I q => by
  refine st_then h I q fun v r ρ1 F1 H1 e f1 I1 s1 q1 => ?_
  cases r with
  | fr d => exact q1.elim
  | bo i => exact q1.elim
  | im d =>
    cases d with
    | bl b =>
      cases s1
      exact ⟨b, rfl, q1 F1 H1 Fr.refl I1⟩
    | _ => exact q1.elim
theorem st_test {te : TE} {m : ME} (h : SE T W te m) : ST T W (tTest te) (mB m) := st_B h
/-- a value's truth -/
def pyTruth : Py → Option Bool
  | .non => some false
  | .bl b => some b
  | .int i => some (i != 0)
  | .str x => if x.length ≤ sizeLine then some ((x.length : Int) != 0) else none
  | .tup l => some (!l.isEmpty)
  | .lst l => some (!l.isEmpty)
  | .scr l => some (!l.isEmpty)
  | .dic ks _ => some (!ks.isEmpty)
  | _ => none
theorem RepL.isEmpty {xs : List V} {ds : List Py} (r : RepL T F xs ds) : xs.isEmpty = ds.isEmpty := by cases r <;> rfl
theorem truv {v : V} {d : Py} {b : Bool} (h : Rep T H v d) (e : pyTruth d = some b) : TruV T.K v H b := by
  cases h with
  | non => exact (Option.some.inj e).symm
  | bl _ => exact (Option.some.inj e).symm
  | int _ => exact (Option.some.inj e).symm
  | str x =>
    have e : (if x.length ≤ sizeLine then some ((x.length : Int) != 0) else none) = some b := e
    by_cases hl : x.length ≤ sizeLine
    · rw [if_pos hl] at e
      exact ⟨hl, (Option.some.inj e).symm⟩
    · rw [if_neg hl] at e; cases e
  | tup hs r => exact .inr (.inl ⟨_, hs, by rw [r.isEmpty]; exact (Option.some.inj e).symm⟩)
  | lst hs r => exact .inl ⟨_, SqL.of hs, by rw [r.isEmpty]; exact (Option.some.inj e).symm⟩
  | scr hs r => exact .inl ⟨_, hs, by rw [r.isEmpty]; exact (Option.some.inj e).symm⟩
  | dic hs k r =>
    refine .inr (.inr ⟨_, hs, ?_⟩)
    have e1 := (Option.some.inj e).symm
    rw [e1, ← k]
    rename_i kvs _ _
    cases kvs <;> rfl
  | dit _ _ _ => cases e
  | obj _ _ _ => cases e
def mTru (m : ME) : ME := fun ρ => (m ρ).bind fun r ρ1 => match dat ρ1 r with
  | some d => (match pyTruth d with
    | some b => .ok (.im (.bl b)) ρ1
    | none => .st)
  | none => .st
theorem st_tru {te : TE} {m : ME} (h : SE T W te m) : ST T W (fun σ H Q => te σ H fun x H' => ∃ k, TruV T.K x H' k ∧ Q k H') (mTru m) := fun F H σ ρ Q I q => by
  refine st_then h I q fun v r ρ1 F1 H1 e f1 I1 s1 q1 => ?_
  cases hd : dat ρ1 r with
  | none => rw [hd] at q1; exact q1.elim
  | some d =>
    cases ht : pyTruth d with
    | none => rw [hd] at q1; simp only [ht] at q1; exact q1.elim
    | some b =>
      rw [hd] at q1
      simp only [ht] at q1
      exact ⟨b, truv ((s1.pk I1 (dat_settled.trans hd)).rep I1.fh) ht, q1 F1 H1 Fr.refl I1⟩
/-- behind a test's answer -/
def mIf (mt ma mb : ME) : ME := fun ρ => (mt ρ).bind fun r ρ1 => match r with
  | .im (.bl b) => if b = true then ma ρ1 else mb ρ1
  | _ => .st
theorem tt_then {tt : TT} {m : ME} (h : ST T W tt m) (I : En T F σ ρ H) {k : Rv → Rho → ER} {Q' : Bool → Hp → Prop} (q : EPost T W F H σ ρ Q ((m ρ).bind k)) (hk : ∀ r ρ1, (∀ b, r ≠ .im (.bl b)) → k r ρ1 = .st)
    (next : ∀ b ρ1 F1 H1, m ρ = .ok (.im (.bl b)) ρ1 → Fr F H σ ρ F1 H1 σ ρ1 → En T F1 σ ρ1 H1 → EPost T W F1 H1 σ ρ1 Q (k (.im (.bl b)) ρ1) → Q' b H1) : tt σ H Q' := by
  refine h F H σ ρ Q' I ?_
  cases e : m ρ with
  | st => rw [e] at q; exact q
  | ex c w ρ' => rw [e] at q; exact q
  | ok r ρ1 =>
    rw [e] at q
    have q : EPost T W F H σ ρ Q (k r ρ1) := q
    by_cases hb : ∃ b, r = .im (.bl b)
    · obtain ⟨b, rfl⟩ := hb
      exact fun F1 H1 f I1 => next b ρ1 F1 H1 e f I1 (EPost.fr f q)
    · rw [hk r ρ1 fun b z => hb ⟨b, z⟩] at q
      exact q.elim
theorem ttt_then {tt : TT} {m : ME} {Q : Bool → Hp → Prop} (h : ST T W tt m) (I : En T F σ ρ H) {k : Rv → Rho → ER} {Q' : Bool → Hp → Prop} (q : TPost T W F H σ ρ Q ((m ρ).bind k)) (hk : ∀ r ρ1, (∀ b, r ≠ .im (.bl b)) → k r ρ1 = .st)
    (next : ∀ b ρ1 F1 H1, m ρ = .ok (.im (.bl b)) ρ1 → Fr F H σ ρ F1 H1 σ ρ1 → En T F1 σ ρ1 H1 → TPost T W F1 H1 σ ρ1 Q (k (.im (.bl b)) ρ1) → Q' b H1) : tt σ H Q' := by
  refine h F H σ ρ Q' I ?_
  cases e : m ρ with
  | st => rw [e] at q; exact q
  | ex c w ρ' => rw [e] at q; exact q
  | ok r ρ1 =>
    rw [e] at q
    have q : TPost T W F H σ ρ Q (k r ρ1) := q
    by_cases hb : ∃ b, r = .im (.bl b)
    · obtain ⟨b, rfl⟩ := hb
      exact fun F1 H1 f I1 => next b ρ1 F1 H1 e f I1 (TPost.fr f q)
    · rw [hk r ρ1 fun b z => hb ⟨b, z⟩] at q
      exact q.elim
theorem noBl {α : Type} {f : Bool → α} {z : α} : ∀ r : Rv, (∀ b, r ≠ .im (.bl b)) → (match r with | .im (.bl b) => f b | _ => z) = z
  | .im (.bl b), h => absurd rfl (h b)
  | .im .non, _ => rfl
  | .im (.int _), _ => rfl
  | .im (.str _), _ => rfl
  | .im (.tup _), _ => rfl
  | .im (.lst _), _ => rfl
  | .im (.scr _), _ => rfl
  | .im (.dic _ _), _ => rfl
  | .im (.dit _ _), _ => rfl
  | .im (.obj _ _ _), _ => rfl
  | .fr _, _ => rfl
  | .bo _, _ => rfl
theorem se_if {tt : TT} {ta tb : TE} {mt ma mb : ME} (h : ST T W tt mt) (ha : SE T W ta ma) (hb : SE T W tb mb) : SE T W (tIf tt ta tb) (mIf mt ma mb) := fun F H σ ρ Q I q => by
  refine tt_then h I q (fun r ρ1 hn => noBl r hn) fun b ρ1 F1 H1 e f1 I1 q1 => ?_
  cases b with
  | true => exact ha F1 H1 σ ρ1 Q I1 q1
  | false => exact hb F1 H1 σ ρ1 Q I1 q1
def mAndT (mt mu : ME) : ME := fun ρ => (mt ρ).bind fun r ρ1 => match r with
  | .im (.bl b) => if b = true then mu ρ1 else .ok (.im (.bl false)) ρ1
  | _ => .st
def mOrT (mt mu : ME) : ME := fun ρ => (mt ρ).bind fun r ρ1 => match r with
  | .im (.bl b) => if b = true then .ok (.im (.bl true)) ρ1 else mu ρ1
  | _ => .st
def mNotT (mt : ME) : ME := fun ρ => (mt ρ).bind fun r ρ1 => match r with
  | .im (.bl b) => .ok (.im (.bl (!b))) ρ1
  | _ => .st
theorem st_and {t u : TT} {mt mu : ME} (h : ST T W t mt) (k : ST T W u mu) : ST T W (tAnd t u) (mAndT mt mu) := fun F H σ ρ Q I q => by
  refine ttt_then h I q (fun r ρ1 hn => noBl r hn) fun b ρ1 F1 H1 e f1 I1 q1 => ?_
  cases b with
  | true => exact k F1 H1 σ ρ1 Q I1 q1
  | false => exact q1 F1 H1 Fr.refl I1
theorem st_or {t u : TT} {mt mu : ME} (h : ST T W t mt) (k : ST T W u mu) : ST T W (tOr t u) (mOrT mt mu) := fun F H σ ρ Q I q => by
  refine ttt_then h I q (fun r ρ1 hn => noBl r hn) fun b ρ1 F1 H1 e f1 I1 q1 => ?_
  cases b with
  | true => exact q1 F1 H1 Fr.refl I1
  | false => exact k F1 H1 σ ρ1 Q I1 q1
theorem st_not {t : TT} {mt : ME} (h : ST T W t mt) : ST T W (tNot t) (mNotT mt) := fun F H σ ρ Q I q => by
  refine ttt_then h I q (fun r ρ1 hn => noBl r hn) fun b ρ1 F1 H1 e f1 I1 q1 => ?_
  exact q1 F1 H1 Fr.refl I1
/-- and, or of values of which all but the last are bools -/
def mAnd (ma mb : ME) : ME := fun ρ => (ma ρ).bind fun r ρ1 => match r with
  | .im (.bl b) => if b = true then mb ρ1 else .ok (.im (.bl false)) ρ1
  | _ => .st
def mOr (ma mb : ME) : ME := fun ρ => (ma ρ).bind fun r ρ1 => match r with
  | .im (.bl b) => if b = true then .ok (.im (.bl true)) ρ1 else mb ρ1
  | _ => .st
def mNot (ma : ME) : ME := fun ρ => (ma ρ).bind fun r ρ1 => match r with
  | .im (.bl b) => .ok (.im (.bl (!b))) ρ1
  | _ => .st
theorem se_bl_then {te : TE} {m : ME} (h : SE T W te m) (I : En T F σ ρ H) {k : Rv → Rho → ER} {Q' : VK} (q : EPost T W F H σ ρ Q ((m ρ).bind k)) (hk : ∀ r ρ1, (∀ b, r ≠ .im (.bl b)) → k r ρ1 = .st)
    (next : ∀ b ρ1 F1 H1, Fr F H σ ρ F1 H1 σ ρ1 → En T F1 σ ρ1 H1 → EPost T W F1 H1 σ ρ1 Q (k (.im (.bl b)) ρ1) → Q' (.bl b) H1) : te σ H Q' := by
  refine se_then h I q fun v r ρ1 F1 H1 e f1 I1 s1 q1 => ?_
  by_cases hb : ∃ b, r = .im (.bl b)
  · obtain ⟨b, rfl⟩ := hb
    cases s1
    exact next b ρ1 F1 H1 f1 I1 q1
  · rw [hk r ρ1 fun b z => hb ⟨b, z⟩] at q1
    exact q1.elim
theorem se_and {ta tb : TE} {ma mb : ME} (ha : SE T W ta ma) (hb : SE T W tb mb) : SE T W (tAndV ta tb) (mAnd ma mb) := fun F H σ ρ Q I q => by
  refine se_bl_then ha I q (fun r ρ1 hn => noBl r hn) fun b ρ1 F1 H1 f1 I1 q1 => ⟨b, rfl, ?_⟩
  cases b with
  | true => exact hb F1 H1 σ ρ1 Q I1 q1
  | false => exact q1 _ F1 H1 Fr.refl I1 (.bl false)
theorem se_or {ta tb : TE} {ma mb : ME} (ha : SE T W ta ma) (hb : SE T W tb mb) : SE T W (tOrV ta tb) (mOr ma mb) := fun F H σ ρ Q I q => by
  refine se_bl_then ha I q (fun r ρ1 hn => noBl r hn) fun b ρ1 F1 H1 f1 I1 q1 => ⟨b, rfl, ?_⟩
  cases b with
  | true => exact q1 _ F1 H1 Fr.refl I1 (.bl true)
  | false => exact hb F1 H1 σ ρ1 Q I1 q1
theorem se_not {ta : TE} {ma : ME} (ha : SE T W ta ma) : SE T W (tNotV ta) (mNot ma) := fun F H σ ρ Q I q => by
  refine se_bl_then ha I q (fun r ρ1 hn => noBl r hn) fun b ρ1 F1 H1 f1 I1 q1 => ⟨b, rfl, ?_⟩
  exact q1 _ F1 H1 Fr.refl I1 (.bl (!b))
end
end Mr
namespace Mr
open PySem L2

section
variable {T : Tb} {W : Wx} {F H : Hp} {v : V}
/-! ### what a value is, by its data -/
theorem Pk.non (h : Pk T F H v .non) : v = .non := by
  rcases h with h | ⟨p, _, h⟩
  · cases h; rfl
  · exact h.elim
theorem Pk.bl {b : Bool} (h : Pk T F H v (.bl b)) : v = .bl b := by
  rcases h with h | ⟨p, _, h⟩
  · cases h; rfl
  · exact h.elim
theorem Pk.int {i : Int} (h : Pk T F H v (.int i)) : v = .int i := by
  rcases h with h | ⟨p, _, h⟩
  · cases h; rfl
  · exact h.elim
theorem Pk.str {x : Str} (h : Pk T F H v (.str x)) : v = .str x := by
  rcases h with h | ⟨p, _, h⟩
  · cases h; rfl
  · exact h.elim
theorem Pk.tup {l : List Py} (fh : Same F H) (h : Pk T F H v (.tup l)) : ∃ a xs, v = .ref a ∧ SqT T.K H a xs ∧ RepL T F xs l ∧ Rep T F v (.tup l) := by
  rcases h with h | ⟨p, _, h⟩
  · have h0 := h
    cases h with
    | tup hs r => exact ⟨_, _, rfl, same_t fh hs, r, h0⟩
  · exact h.elim
theorem Pk.lst {l : List Py} (fh : Same F H) (h : Pk T F H v (.lst l)) : ∃ a xs, v = .ref a ∧ H a = some (.lst xs) ∧ RepL T F xs l := by
  rcases h with h | ⟨p, rfl, h⟩
  · cases h with
    | lst hs r => exact ⟨_, _, rfl, fh _ _ hs, r⟩
  · obtain ⟨xs, h1, r⟩ := h
    exact ⟨p, xs, rfl, h1, r⟩
theorem Pk.scr {l : List Py} (fh : Same F H) (h : Pk T F H v (.scr l)) : ∃ a xs, v = .ref a ∧ SqL T.K H a xs ∧ RepL T F xs l := by
  rcases h with h | ⟨p, _, h⟩
  · cases h with
    | scr hs r => exact ⟨_, _, rfl, fh.seq hs, r⟩
  · exact h.elim
theorem Give.int {i : Int} {Q : VK} (fh : Same F H) (q : Give T F H Q (.im (.int i))) : Q (.int i) H := q.same fh (.int i)
theorem Give.bl {b : Bool} {Q : VK} (fh : Same F H) (q : Give T F H Q (.im (.bl b))) : Q (.bl b) H := q.same fh (.bl b)
theorem Give.str {x : Str} {Q : VK} (fh : Same F H) (q : Give T F H Q (.im (.str x))) : Q (.str x) H := q.same fh (.str x)

/-! ### + - * // % ** -/
def pyAdd : Py → Py → OV
  | .int i, .int j => .im (.int (i + j))
  | .str a, .str b => if a.length + b.length ≤ sizeLine then .im (.str (a ++ b)) else .st
  | .tup a, .tup b => if a.length + b.length ≤ sizeLine then .im (.tup (a ++ b)) else .st
  | .lst a, .lst b => if a.length + b.length ≤ sizeLine then .fr (.lst (a ++ b)) else .st
  | _, _ => .st
def rAddA (K : PySem.W.Frag) : R2 := fun x y H Q => rI0 (fun i j => .int (i + j)) x y H Q ∨ (∃ i j, x = .str i ∧ y = .str j ∧ i.length + j.length ≤ sizeLine ∧ Q (.str (i ++ j)) H) ∨ rCatA K x y H Q ∨ rCat x y H Q
theorem op_addA {X : Cx} : OpR X (binaryOp .Add) (rAddA X.K) := OpR.or op_add (OpR.or op_add_str (OpR.or op_catA op_cat))
theorem r2_add : R2ok T (rAddA T.K) pyAdd := fun F H x y d e Q fh px py q => by
  cases d <;> cases e <;> try exact q.elim
  · rename_i i j
    exact .inl ⟨i, j, px.int, py.int, q.int fh⟩
  · rename_i a b
    have q : Give T F H Q (if a.length + b.length ≤ sizeLine then .im (.str (a ++ b)) else .st) := q
    by_cases h : a.length + b.length ≤ sizeLine
    · rw [if_pos h] at q
      exact .inr (.inl ⟨a, b, px.str, py.str, h, q.str fh⟩)
    · rw [if_neg h] at q; exact q.elim
  · rename_i a b
    have q : Give T F H Q (if a.length + b.length ≤ sizeLine then .im (.tup (a ++ b)) else .st) := q
    by_cases h : a.length + b.length ≤ sizeLine
    · rw [if_pos h] at q
      obtain ⟨p, xs, rfl, hp, rx, r1⟩ := px.tup fh
      obtain ⟨p', ys, rfl, hp', ry, r2⟩ := py.tup fh
      refine .inr (.inr (.inl ⟨p, p', xs, ys, rfl, rfl, hp, hp', by rw [rx.length, ry.length]; exact h, fun e => ?_, fun _ e => ?_, fun _ _ => q.tup fh (rx.append ry)⟩))
      · subst e
        cases rx
        exact q.same fh (by rw [List.nil_append]; exact r2)
      · subst e
        cases ry
        exact q.same fh (by rw [List.append_nil]; exact r1)
    · rw [if_neg h] at q; exact q.elim
  · rename_i a b
    have q : Give T F H Q (if a.length + b.length ≤ sizeLine then .fr (.lst (a ++ b)) else .st) := q
    by_cases h : a.length + b.length ≤ sizeLine
    · rw [if_pos h] at q
      obtain ⟨p, xs, rfl, hp, rx⟩ := px.lst fh
      obtain ⟨p', ys, rfl, hp', ry⟩ := py.lst fh
      exact .inr (.inr (.inr ⟨p, p', xs, ys, rfl, rfl, hp, hp', by rw [rx.length, ry.length]; exact h, q.lst fh (rx.append ry)⟩))
    · rw [if_neg h] at q; exact q.elim
/-- an operation of ints, under a test -/
def pyII (C : Int → Int → Bool) (g : Int → Int → Py) : Py → Py → OV
  | .int i, .int j => if C i j = true then .im (g i j) else .st
  | _, _ => .st
theorem r2_ii {C : Int → Int → Bool} {C' : Int → Int → Prop} {g : Int → Int → Py} {g' : Int → Int → V} (hc : ∀ i j, C i j = true → C' i j) (hg : ∀ F i j, Rep T F (g' i j) (g i j)) : R2ok T (rI C' g') (pyII C g) := fun F H x y d e Q fh px py q => by
  cases d <;> cases e <;> try exact q.elim
  rename_i i j
  have q : Give T F H Q (if C i j = true then .im (g i j) else .st) := q
  by_cases h : C i j = true
  · rw [if_pos h] at q
    exact ⟨i, j, px.int, py.int, hc i j h, q.same fh (hg F i j)⟩
  · rw [if_neg h] at q; exact q.elim
def pyI0 (g : Int → Int → Py) : Py → Py → OV
  | .int i, .int j => .im (g i j)
  | _, _ => .st
theorem r2_i0 {g : Int → Int → Py} {g' : Int → Int → V} (hg : ∀ F i j, Rep T F (g' i j) (g i j)) : R2ok T (rI0 g') (pyI0 g) := fun F H x y d e Q fh px py q => by
  cases d <;> cases e <;> try exact q.elim
  rename_i i j
  exact ⟨i, j, px.int, py.int, q.same fh (hg F i j)⟩
def pySub := pyI0 fun i j => .int (i - j)
theorem r2_sub : R2ok T (rI0 fun i j => .int (i - j)) pySub := r2_i0 fun F i j => .int _
def cMul (i j : Int) : Bool := (decide (-(2 ^ 64) < i) && decide (i < 2 ^ 64)) || (decide (-(2 ^ 64) < j) && decide (j < 2 ^ 64))
/-- * of ints; a list as often as told -/
def pyMul : Py → Py → OV
  | .int i, .int j => if cMul i j = true then .im (.int (i * j)) else .st
  | .lst l, .int k => if -(2 ^ 63) ≤ k ∧ k < 2 ^ 63 ∧ l.length * k.toNat ≤ sizeLine then .fr (.lst (List.replicate k.toNat l).flatten) else .st
  | _, _ => .st
def rMulA : R2 := fun x y H Q => rI CMul (fun i j => .int (i * j)) x y H Q ∨ rRep x y H Q
theorem op_mulA {X : Cx} : OpR X (binaryOp .Mult) rMulA := OpR.or op_mul op_rep
theorem cMul_ok {i j : Int} (h : cMul i j = true) : CMul i j := by
  unfold cMul at h
  rcases (Bool.or_eq_true _ _ ▸ h) with h | h
  · have := Bool.and_eq_true_iff.mp h
    exact .inl ⟨of_decide_eq_true this.1, of_decide_eq_true this.2⟩
  · have := Bool.and_eq_true_iff.mp h
    exact .inr ⟨of_decide_eq_true this.1, of_decide_eq_true this.2⟩
theorem RepL.rep {xs : List V} {ds : List Py} (r : RepL T F xs ds) : ∀ n : Nat, RepL T F (List.replicate n xs).flatten (List.replicate n ds).flatten
  | 0 => .nil
  | n + 1 => by
    rw [List.replicate_succ, List.replicate_succ, List.flatten_cons, List.flatten_cons]
    exact r.append (RepL.rep r n)
theorem r2_mul : R2ok T rMulA pyMul := fun F H x y d e Q fh px py q => by
  cases d <;> cases e <;> try exact q.elim
  · rename_i i j
    have q : Give T F H Q (if cMul i j = true then .im (.int (i * j)) else .st) := q
    by_cases h : cMul i j = true
    · rw [if_pos h] at q
      exact .inl ⟨i, j, px.int, py.int, cMul_ok h, q.int fh⟩
    · rw [if_neg h] at q; exact q.elim
  · rename_i l k
    have q : Give T F H Q (if -(2 ^ 63) ≤ k ∧ k < 2 ^ 63 ∧ l.length * k.toNat ≤ sizeLine then .fr (.lst (List.replicate k.toNat l).flatten) else .st) := q
    by_cases h : -(2 ^ 63) ≤ k ∧ k < 2 ^ 63 ∧ l.length * k.toNat ≤ sizeLine
    · rw [if_pos h] at q
      obtain ⟨p, xs, rfl, hp, rx⟩ := px.lst fh
      exact .inr ⟨p, k, xs, rfl, py.int, hp, h.1, h.2.1, by rw [rx.length]; exact h.2.2, q.lst fh (rx.rep _)⟩
    · rw [if_neg h] at q; exact q.elim
def cDiv (_ j : Int) : Bool := decide (0 < j) && decide (j < 1073741824)
def pyDiv := pyII cDiv fun i j => .int (i / j)
theorem r2_div : R2ok T (rI CDiv fun i j => .int (i / j)) pyDiv := r2_ii (fun i j h => by
  have := Bool.and_eq_true_iff.mp h
  exact ⟨of_decide_eq_true this.1, of_decide_eq_true this.2⟩) fun F i j => .int _
def cMod (_ j : Int) : Bool := decide (0 < j)
def pyMod := pyII cMod fun i j => .int (i % j)
theorem r2_mod : R2ok T (rI (fun _ j => 0 < j) fun i j => .int (i % j)) pyMod := r2_ii (fun i j h => of_decide_eq_true h) fun F i j => .int _
def cPow (i j : Int) : Bool := decide (0 ≤ j) && decide (j ≤ 1000000) && decide (i.natAbs < 2 ^ 64)
def pyPow := pyII cPow fun i j => .int (i ^ j.toNat)
theorem r2_pow : R2ok T (rI CPow fun i j => .int (i ^ j.toNat)) pyPow := r2_ii (fun i j h => by
  have := Bool.and_eq_true_iff.mp h
  have t := Bool.and_eq_true_iff.mp this.1
  exact ⟨of_decide_eq_true t.1, of_decide_eq_true t.2, of_decide_eq_true this.2⟩) fun F i j => .int _
def pyNeg : Py → OV
  | .int i => .im (.int (-i))
  | _ => .st
theorem r1_neg : R1ok T (rU fun i => .int (-i)) pyNeg := fun F H x d Q fh px q => by
  cases d <;> try exact q.elim
  rename_i i
  exact ⟨i, px.int, q.int fh⟩

/-! ### == != -/
mutual
def Py.toD : Py → PyData
  | .non => .none
  | .bl b => .bool b
  | .int i => .int i
  | .str x => .str x
  | .tup l => .tuple (Py.toDs l)
  | .lst l => .list (Py.toDs l)
  | .scr l => .list (Py.toDs l)
  | .dic _ _ => .dict []
  | .dit _ _ => .dict []
  | .obj _ _ _ => .dict []
def Py.toDs : List Py → List PyData
  | [] => []
  | d :: ds => d.toD :: Py.toDs ds
end
theorem canLay_dict {kvs : List (PyData × PyData)} : PyData.canLay0 (.dict kvs) = false := by simp [PyData.canLay0]
theorem canLay_tup {ds : List PyData} : PyData.canLay0 (.tuple ds) = PyData.canLayAll0 ds := by simp only [PyData.canLay0]
theorem canLay_lst {ds : List PyData} : PyData.canLay0 (.list ds) = PyData.canLayAll0 ds := by simp only [PyData.canLay0]
theorem canLay_cons {d : PyData} {ds : List PyData} : PyData.canLayAll0 (d :: ds) = (d.canLay0 && PyData.canLayAll0 ds) := by simp only [PyData.canLayAll0]
mutual
theorem Rep.dp : ∀ {v : V} {d : Py}, Rep T F v d → d.toD.canLay0 = true → Dp T.K F v d.toD
  | _, _, .non, _ => by simp only [Py.toD]; exact .non
  | _, _, .bl b, _ => by simp only [Py.toD]; exact .bl b
  | _, _, .int i, _ => by simp only [Py.toD]; exact .int i
  | _, _, .str x, _ => by simp only [Py.toD]; exact .str x
  | _, _, .tup hs r, h => by
    simp only [Py.toD] at h ⊢
    rw [canLay_tup] at h
    exact .tup hs (RepL.dp r h)
  | _, _, .lst hs r, h => by
    simp only [Py.toD] at h ⊢
    rw [canLay_lst] at h
    exact .lst (SqL.of hs) (RepL.dp r h)
  | _, _, .scr hs r, h => by
    simp only [Py.toD] at h ⊢
    rw [canLay_lst] at h
    exact .lst hs (RepL.dp r h)
  | _, _, .dic _ _ _, h => by simp only [Py.toD] at h; rw [canLay_dict] at h; cases h
  | _, _, .dit _ _ _, h => by simp only [Py.toD] at h; rw [canLay_dict] at h; cases h
  | _, _, .obj _ _ _, h => by simp only [Py.toD] at h; rw [canLay_dict] at h; cases h
theorem RepL.dp : ∀ {vs : List V} {ds : List Py}, RepL T F vs ds → PyData.canLayAll0 (Py.toDs ds) = true → DpAll T.K F vs (Py.toDs ds)
  | _, _, .nil, _ => by simp only [Py.toDs]; exact .nil
  | _, _, .cons h r, q => by
    simp only [Py.toDs] at q ⊢
    rw [canLay_cons] at q
    have q := Bool.and_eq_true_iff.mp q
    exact .cons (Rep.dp h q.1) (RepL.dp r q.2)
end
def pyEq (d e : Py) : OV := if (SeqAt.shaped d.toD && SeqAt.shaped e.toD) = true then .im (.bl (PyData.eqv d.toD e.toD)) else .st
def pyNe (d e : Py) : OV := if (SeqAt.shaped d.toD && SeqAt.shaped e.toD) = true then .im (.bl (!PyData.eqv d.toD e.toD)) else .st
theorem r2_eq : R2ok T (rEqD T.K) pyEq := fun F H x y d e Q fh px py q => by
  unfold pyEq at q
  by_cases h : (SeqAt.shaped d.toD && SeqAt.shaped e.toD) = true
  · rw [if_pos h] at q
    have h' := Bool.and_eq_true_iff.mp h
    exact ⟨d.toD, e.toD, (px.rep fh).dp (SeqAt.canLay_of_shaped h'.1), (py.rep fh).dp (SeqAt.canLay_of_shaped h'.2), h'.1, h'.2, q.bl fh⟩
  · rw [if_neg h] at q; exact q.elim
theorem r2_ne : R2ok T (rNeD T.K) pyNe := fun F H x y d e Q fh px py q => by
  unfold pyNe at q
  by_cases h : (SeqAt.shaped d.toD && SeqAt.shaped e.toD) = true
  · rw [if_pos h] at q
    have h' := Bool.and_eq_true_iff.mp h
    exact ⟨d.toD, e.toD, (px.rep fh).dp (SeqAt.canLay_of_shaped h'.1), (py.rep fh).dp (SeqAt.canLay_of_shaped h'.2), h'.1, h'.2, q.bl fh⟩
  · rw [if_neg h] at q; exact q.elim

/-! ### < <= > >= of ints and of texts -/
def pyLt : Py → Py → OV
  | .int i, .int j => .im (.bl (decide (i < j)))
  | .str a, .str b => .im (.bl (decide (a.cps.toList < b.cps.toList)))
  | _, _ => .st
def pyLe : Py → Py → OV
  | .int i, .int j => .im (.bl (decide (i ≤ j)))
  | .str a, .str b => .im (.bl (!decide (b.cps.toList < a.cps.toList)))
  | _, _ => .st
def pyGt : Py → Py → OV
  | .int i, .int j => .im (.bl (decide (j < i)))
  | .str a, .str b => .im (.bl (decide (b.cps.toList < a.cps.toList)))
  | _, _ => .st
def pyGe : Py → Py → OV
  | .int i, .int j => .im (.bl (decide (j ≤ i)))
  | .str a, .str b => .im (.bl (!decide (a.cps.toList < b.cps.toList)))
  | _, _ => .st
def rStr (g : Str → Str → Bool) : R2 := fun x y H Q => ∃ i j, x = .str i ∧ y = .str j ∧ Q (.bl (g i j)) H
def rOrd (p : Int → Int → Bool) (g : Str → Str → Bool) : R2 := fun x y H Q => rI0 (fun i j => .bl (p i j)) x y H Q ∨ rStr g x y H Q
abbrev rLtA : R2 := rOrd (fun i j => decide (i < j)) fun a b => decide (a.cps.toList < b.cps.toList)
abbrev rLeA : R2 := rOrd (fun i j => decide (i ≤ j)) fun a b => !decide (b.cps.toList < a.cps.toList)
abbrev rGtA : R2 := rOrd (fun i j => decide (j < i)) fun a b => decide (b.cps.toList < a.cps.toList)
abbrev rGeA : R2 := rOrd (fun i j => decide (j ≤ i)) fun a b => !decide (a.cps.toList < b.cps.toList)
theorem op_ltA {X : Cx} : OpR X (compareOp .Lt) rLtA := OpR.or op_lt op_lt_str
theorem op_leA {X : Cx} : OpR X (compareOp .LtE) rLeA := OpR.or op_le op_le_str
theorem op_gtA {X : Cx} : OpR X (compareOp .Gt) rGtA := OpR.or op_gt op_gt_str
theorem op_geA {X : Cx} : OpR X (compareOp .GtE) rGeA := OpR.or op_ge op_ge_str
theorem r2_ord {p : Int → Int → Bool} {g : Str → Str → Bool} {f : Py → Py → OV} (h1 : ∀ i j, f (.int i) (.int j) = .im (.bl (p i j))) (h2 : ∀ a b, f (.str a) (.str b) = .im (.bl (g a b)))
    (h3 : ∀ d e, (∀ i j, ¬ (d = .int i ∧ e = .int j)) → (∀ i j, ¬ (d = .str i ∧ e = .str j)) → f d e = .st) : R2ok T (rOrd p g) f := fun F H x y d e Q fh px py q => by
  by_cases hi : ∃ i j, d = .int i ∧ e = .int j
  · obtain ⟨i, j, rfl, rfl⟩ := hi
    rw [h1] at q
    exact .inl ⟨i, j, px.int, py.int, q.bl fh⟩
  · by_cases hs : ∃ i j, d = .str i ∧ e = .str j
    · obtain ⟨i, j, rfl, rfl⟩ := hs
      rw [h2] at q
      exact .inr ⟨i, j, px.str, py.str, q.bl fh⟩
    · rw [h3 d e (fun i j z => hi ⟨i, j, z⟩) fun i j z => hs ⟨i, j, z⟩] at q
      exact q.elim
theorem r2_lt : R2ok T rLtA pyLt := r2_ord (fun _ _ => rfl) (fun _ _ => rfl) fun d e h1 h2 => by
  cases d <;> cases e <;> first | rfl | exact absurd ⟨rfl, rfl⟩ (h1 _ _) | exact absurd ⟨rfl, rfl⟩ (h2 _ _)
theorem r2_le : R2ok T rLeA pyLe := r2_ord (fun _ _ => rfl) (fun _ _ => rfl) fun d e h1 h2 => by
  cases d <;> cases e <;> first | rfl | exact absurd ⟨rfl, rfl⟩ (h1 _ _) | exact absurd ⟨rfl, rfl⟩ (h2 _ _)
theorem r2_gt : R2ok T rGtA pyGt := r2_ord (fun _ _ => rfl) (fun _ _ => rfl) fun d e h1 h2 => by
  cases d <;> cases e <;> first | rfl | exact absurd ⟨rfl, rfl⟩ (h1 _ _) | exact absurd ⟨rfl, rfl⟩ (h2 _ _)
theorem r2_ge : R2ok T rGeA pyGe := r2_ord (fun _ _ => rfl) (fun _ _ => rfl) fun d e h1 h2 => by
  cases d <;> cases e <;> first | rfl | exact absurd ⟨rfl, rfl⟩ (h1 _ _) | exact absurd ⟨rfl, rfl⟩ (h2 _ _)

/-! ### is, is not -/
def Py.isNon : Py → Bool
  | .non => true
  | _ => false
theorem Pk.isNon {d : Py} (h : Pk T F H v d) : decide (v = .non) = d.isNon := by
  rcases h with h | ⟨p, rfl, h⟩
  · cases h <;> rfl
  · cases d <;> first | rfl | exact h.elim
def pyIs : Py → Py → OV
  | d, .non => .im (.bl d.isNon)
  | .bl a, .bl b => .im (.bl (decide (a = b)))
  | _, _ => .st
def pyIsNot : Py → Py → OV
  | d, .non => .im (.bl (!d.isNon))
  | .bl a, .bl b => .im (.bl (!decide (a = b)))
  | _, _ => .st
def rIsA : R2 := fun x y H Q => (y = .non ∧ Q (.bl (decide (x = .non))) H) ∨ rIsB x y H Q
def rIsNotA : R2 := fun x y H Q => (y = .non ∧ Q (.bl (!decide (x = .non))) H) ∨ rNotB x y H Q
theorem op_isA {X : Cx} : OpR X (compareOp .Is) rIsA := OpR.or op_isN op_isBl
theorem op_isNotA {X : Cx} : OpR X (compareOp .IsNot) rIsNotA := OpR.or op_notN op_notBl
theorem r2_is : R2ok T rIsA pyIs := fun F H x y d e Q fh px py q => by
  cases e with
  | non =>
    have q : Give T F H Q (.im (.bl d.isNon)) := by cases d <;> exact q
    exact .inl ⟨py.non, by rw [px.isNon]; exact q.bl fh⟩
  | bl b =>
    cases d <;> try exact q.elim
    rename_i a
    exact .inr ⟨a, b, px.bl, py.bl, q.bl fh⟩
  | _ => cases d <;> exact q.elim
theorem r2_isNot : R2ok T rIsNotA pyIsNot := fun F H x y d e Q fh px py q => by
  cases e with
  | non =>
    have q : Give T F H Q (.im (.bl (!d.isNon))) := by cases d <;> exact q
    exact .inl ⟨py.non, by rw [px.isNon]; exact q.bl fh⟩
  | bl b =>
    cases d <;> try exact q.elim
    rename_i a
    exact .inr ⟨a, b, px.bl, py.bl, q.bl fh⟩
  | _ => cases d <;> exact q.elim

/-! ### a chain of two comparisons -/
/-- the answer of an operation that is a bool -/
def OV.bool : OV → Option Bool
  | .im (.bl b) => some b
  | _ => none
def mChain (f g : Py → Py → OV) (ma mb mc : ME) : ME := fun ρ => (ma ρ).bind fun x ρ1 => (mb ρ1).bind fun y ρ2 => match dat ρ2 x, dat ρ2 y with
  | some d, some e => (match (f d e).bool with
    | some true => (mc ρ2).bind fun z ρ3 => (match dat ρ3 y, dat ρ3 z with
      | some e', some h => (g e' h).er ρ3
      | _, _ => .st)
    | some false => .ok (.im (.bl false)) ρ2
    | none => .st)
  | _, _ => .st
theorem se_chain {r r' : R2} {f g : Py → Py → OV} {ta tb tc : TE} {ma mb mc : ME} (hr : R2ok T r f) (hr' : R2ok T r' g) (ha : SE T W ta ma) (hb : SE T W tb mb) (hc : SE T W tc mc) : SE T W (tChain r r' ta tb tc) (mChain f g ma mb mc) := fun F H σ ρ Q I q => by
  refine se_then ha I q fun v x ρ1 F1 H1 e1 f1 I1 s1 q1 => ?_
  refine se_then hb I1 q1 fun w y ρ2 F2 H2 e2 f2 I2 s2 q2 => ?_
  cases hx : dat ρ2 x with
  | none => rw [hx] at q2; exact q2.elim
  | some d =>
    cases hy : dat ρ2 y with
    | none => rw [hx, hy] at q2; exact q2.elim
    | some e =>
      rw [hx, hy] at q2
      have q2 : EPost T W F2 H2 σ ρ2 Q (match (f d e).bool with | some true => (mc ρ2).bind fun z ρ3 => (match dat ρ3 y, dat ρ3 z with | some e', some h => (g e' h).er ρ3 | _, _ => .st) | some false => .ok (.im (.bl false)) ρ2 | none => .st) := q2
      refine hr F2 H2 v w d e _ I2.fh ((s1.mono f2.ex).pk I2 (dat_settled.trans hx)) (s2.pk I2 (dat_settled.trans hy)) ?_
      cases hfe : f d e with
      | st => rw [hfe] at q2; exact q2.elim
      | fr _ => rw [hfe] at q2; exact q2.elim
      | im c =>
        rw [hfe] at q2
        cases c with
        | bl b =>
          intro z F3 H3 g3 sm3 rz
          cases rz
          refine ⟨b, rfl, ?_⟩
          have f3 : Fr F2 H2 σ ρ2 F3 H3 σ ρ2 := g3.fr
          have I3 := I2.gr g3 sm3
          cases b with
          | false => exact (EPost.fr f3 q2) _ F3 H3 Fr.refl I3 (.bl false)
          | true =>
            have q3 : EPost T W F3 H3 σ ρ2 Q ((mc ρ2).bind fun z ρ3 => (match dat ρ3 y, dat ρ3 z with | some e', some h => (g e' h).er ρ3 | _, _ => .st)) := EPost.fr f3 q2
            show tc σ H3 _
            refine se_then hc I3 q3 fun u z ρ4 F4 H4 e4 f4 I4 s4 q4 => ?_
            cases hy' : dat ρ4 y with
            | none => rw [hy'] at q4; exact q4.elim
            | some e' =>
              cases hz : dat ρ4 z with
              | none => rw [hy', hz] at q4; exact q4.elim
              | some h =>
                rw [hy', hz] at q4
                exact hr' F4 H4 w u e' h Q I4.fh (((s2.mono f3.ex).mono f4.ex).pk I4 (dat_settled.trans hy')) (s4.pk I4 (dat_settled.trans hz)) (Give.post I4 q4)
        | _ => exact q2.elim

/-! ### subscripts, slices -/
def pyAt (l : List Py) (i : Int) : OV := match atI l i with
  | some d => .im d
  | none => .st
def pyIx : Py → Py → OV
  | .lst l, .int i => pyAt l i
  | .tup l, .int i => pyAt l i
  | .scr l, .int i => pyAt l i
  | .str z, .int i => if z.length ≤ sizeLine then (match atI z.cps.toList i with
    | some c => .im (.str ⟨#[c]⟩)
    | none => .st) else .st
  | _, _ => .st
theorem RepL.at {xs : List V} {l : List Py} {i : Int} {d : Py} (r : RepL T F xs l) (h : atI l i = some d) : ∃ v, atI xs i = some v ∧ Rep T F v d := by
  unfold atI at h ⊢
  rw [r.length]
  cases e : ixN l.length i with
  | none => rw [e] at h; cases h
  | some j =>
    rw [e] at h
    exact r.get h
theorem r2_ix : R2ok T (rIx T.K) pyIx := fun F H x y d e Q fh px py q => by
  have fin : ∀ (l : List Py) (i : Int), Give T F H Q (pyAt l i) → ∃ d, atI l i = some d ∧ Give T F H Q (.im d) := fun l i q => by
    unfold pyAt at q
    cases h : atI l i with
    | none => rw [h] at q; exact q.elim
    | some d => rw [h] at q; exact ⟨d, rfl, q⟩
  cases d <;> cases e <;> try exact q.elim
  · rename_i z i
    have q : Give T F H Q (if z.length ≤ sizeLine then (match atI z.cps.toList i with | some c => .im (.str ⟨#[c]⟩) | none => .st) else .st) := q
    by_cases h : z.length ≤ sizeLine
    · rw [if_pos h] at q
      cases hc : atI z.cps.toList i with
      | none => rw [hc] at q; exact q.elim
      | some c =>
        rw [hc] at q
        exact .inr (.inr ⟨z, i, c, px.str, py.int, h, hc, Give.str fh q⟩)
    · rw [if_neg h] at q; exact q.elim
  · rename_i l i
    obtain ⟨d, h, q⟩ := fin l i q
    obtain ⟨p, xs, rfl, hp, r, _⟩ := px.tup fh
    obtain ⟨u, hu, ru⟩ := r.at h
    exact .inr (.inl ⟨p, xs, i, u, rfl, py.int, hp, hu, q.same fh ru⟩)
  · rename_i l i
    obtain ⟨d, h, q⟩ := fin l i q
    obtain ⟨p, xs, rfl, hp, r⟩ := px.lst fh
    obtain ⟨u, hu, ru⟩ := r.at h
    exact .inl ⟨p, xs, i, u, rfl, py.int, SqL.of hp, hu, q.same fh ru⟩
  · rename_i l i
    obtain ⟨d, h, q⟩ := fin l i q
    obtain ⟨p, xs, rfl, hp, r⟩ := px.scr fh
    obtain ⟨u, hu, ru⟩ := r.at h
    exact .inl ⟨p, xs, i, u, rfl, py.int, hp, hu, q.same fh ru⟩
def cutA {α : Type} (xs : List α) (lo hi : Option Int) : List α := (xs.drop (HT.sIx xs.length 0 lo)).take (HT.sIx xs.length xs.length hi - HT.sIx xs.length 0 lo)
theorem RepL.cut {xs : List V} {l : List Py} (r : RepL T F xs l) (lo hi : Option Int) : RepL T F (cutV xs lo hi) (cutA l lo hi) := by
  unfold cutV cutA
  rw [r.length]
  exact (r.drop _).take _
def pySl : Py → Option Int → Option Int → OV
  | .lst l, lo, hi => .fr (.lst (cutA l lo hi))
  | .scr l, lo, hi => .fr (.lst (cutA l lo hi))
  | .tup l, lo, hi => .im (.tup (cutA l lo hi))
  | .str z, lo, hi => if z.length ≤ sizeLine then .im (.str (cutS z lo hi)) else .st
  | _, _, _ => .st
def rSlAll (K : PySem.W.Frag) : V → Option Int → Option Int → Hp → VK → Prop := fun x lo hi H Q => rSlL K x lo hi H Q ∨ rSlA K x lo hi H Q ∨ rSlS x lo hi H Q
theorem sl_all {X : Cx} : SlR X (rSlAll X.K) := SlR.or sl_list (SlR.or sl_tupA sl_str)
theorem cut_whole {l : List Py} {lo hi : Option Int} (h : HT.sIx l.length 0 lo = 0 ∧ HT.sIx l.length l.length hi = l.length) : cutA l lo hi = l := by
  unfold cutA
  rw [h.1, h.2]
  show (l.drop 0).take (l.length - 0) = l
  rw [List.drop_zero, Nat.sub_zero, List.take_length]
theorem r3_sl {x : V} {d : Py} {lo hi : Option Int} {Q : VK} (fh : Same F H) (px : Pk T F H x d) (q : Give T F H Q (pySl d lo hi)) : rSlAll T.K x lo hi H Q := by
  cases d <;> try exact q.elim
  · rename_i z
    have q : Give T F H Q (if z.length ≤ sizeLine then .im (.str (cutS z lo hi)) else .st) := q
    by_cases h : z.length ≤ sizeLine
    · rw [if_pos h] at q
      exact .inr (.inr ⟨z, px.str, h, q.str fh⟩)
    · rw [if_neg h] at q; exact q.elim
  · rename_i l
    obtain ⟨p, xs, rfl, hp, r, r0⟩ := px.tup fh
    refine .inr (.inl ⟨p, xs, rfl, hp, fun hw => ?_, fun _ => ?_⟩)
    · rw [r.length] at hw
      exact Give.same (d := .tup (cutA l lo hi)) fh (by rw [cut_whole hw]; exact r0) q
    · exact Give.tup fh (r.cut lo hi) q
  · rename_i l
    obtain ⟨p, xs, rfl, hp, r⟩ := px.lst fh
    exact .inl ⟨p, xs, rfl, SqL.of hp, Give.lst fh (r.cut lo hi) q⟩
  · rename_i l
    obtain ⟨p, xs, rfl, hp, r⟩ := px.scr fh
    exact .inl ⟨p, xs, rfl, hp, Give.lst fh (r.cut lo hi) q⟩
/-- a slice's part -/
def partOf : Rv → Option (Option Int)
  | .im .non => some none
  | .im (.int i) => some (some i)
  | _ => none
def OPost (T : Tb) (W : Wx) (F H : Hp) (σ : L2.St) (ρ : Rho) (Q : Option Int → Hp → Prop) : ER → Prop
  | .ok r ρ' => ∃ o, partOf r = some o ∧ ∀ F' H', Fr F H σ ρ F' H' σ ρ' → En T F' σ ρ' H' → Q o H'
  | .ex c w ρ' => ∀ d v F' H', Fr F H σ ρ F' H' σ ρ' → En T F' σ ρ' H' → Rep T F' v w → H' d = some (.xd [("what", v)]) → H d = none → F' d = none → W (.ref (T.cls c)) (some d) σ H'
  | .st => False
def SO (T : Tb) (W : Wx) (to : TO) (m : ME) : Prop := ∀ (F H : Hp) (σ : L2.St) (ρ : Rho) (Q : Option Int → Hp → Prop), En T F σ ρ H → OPost T W F H σ ρ Q (m ρ) → to σ H Q
theorem so_none : SO T W tNoPart (mC .non) := fun F H σ ρ Q I q => by
  obtain ⟨o, e, q⟩ := q
  cases e
  exact q F H Fr.refl I
/-- an int -/
def Rv.int? : Rv → Option Int
  | .im (.int i) => some i
  | _ => none
theorem Rv.int_eq {r : Rv} {i : Int} (h : r.int? = some i) : r = .im (.int i) := by
  cases r with
  | fr _ => cases h
  | bo _ => cases h
  | im d => cases d <;> first | (cases h; done) | (rw [Option.some.inj h])
def mInt (m : ME) : ME := fun ρ => (m ρ).bind fun r ρ1 => match r.int? with
  | some i => .ok (.im (.int i)) ρ1
  | none => .st
theorem so_some {te : TE} {m : ME} (h : SE T W te m) : SO T W (tPart te) (mInt m) := fun F H σ ρ Q I q => by
  refine h F H σ ρ _ I ?_
  unfold mInt at q
  cases e : m ρ with
  | st => rw [e] at q; exact q
  | ex c w ρ' => rw [e] at q; exact q
  | ok r ρ1 =>
    rw [e] at q
    have q : OPost T W F H σ ρ Q (match r.int? with | some i => .ok (.im (.int i)) ρ1 | none => .st) := q
    cases hi : r.int? with
    | none => rw [hi] at q; exact q.elim
    | some i =>
      rw [hi] at q
      have er := Rv.int_eq hi
      subst er
      intro v F1 H1 f1 I1 rr
      cases rr
      obtain ⟨o, e, q⟩ := q
      cases e
      exact ⟨i, rfl, q F1 H1 f1 I1⟩
def pBind (x : ER) (k : Option Int → Rho → ER) : ER := x.bind fun r ρ => match partOf r with
  | some o => k o ρ
  | none => .st
def mSl (me ml mh : ME) : ME := fun ρ => (me ρ).bind fun x ρ1 => pBind (ml ρ1) fun l ρ2 => pBind (mh ρ2) fun h ρ3 => match dat ρ3 x with
  | some d => (pySl d l h).er ρ3
  | none => .st
theorem so_then {to : TO} {m : ME} (h : SO T W to m) {F H : Hp} {σ : L2.St} {ρ : Rho} {Q : VK} (I : En T F σ ρ H) {k : Option Int → Rho → ER} {Q' : Option Int → Hp → Prop} (q : EPost T W F H σ ρ Q (pBind (m ρ) k))
    (next : ∀ o ρ1 F1 H1, Fr F H σ ρ F1 H1 σ ρ1 → En T F1 σ ρ1 H1 → EPost T W F1 H1 σ ρ1 Q (k o ρ1) → Q' o H1) : to σ H Q' := by
  refine h F H σ ρ Q' I ?_
  cases e : m ρ with
  | st => rw [e] at q; exact q
  | ex c w ρ' => rw [e] at q; exact q
  | ok r ρ1 =>
    rw [e] at q
    have q : EPost T W F H σ ρ Q (match partOf r with | some o => k o ρ1 | none => .st) := q
    cases hp : partOf r with
    | none => rw [hp] at q; exact q.elim
    | some o =>
      rw [hp] at q
      exact ⟨o, hp, fun F1 H1 f1 I1 => next o ρ1 F1 H1 f1 I1 (EPost.fr f1 q)⟩
theorem se_sl {te : TE} {tl th : TO} {me ml mh : ME} (he : SE T W te me) (hl : SO T W tl ml) (hh : SO T W th mh) : SE T W (tSl (rSlAll T.K) te tl th) (mSl me ml mh) := fun F H σ ρ Q I q => by
  refine se_then he I q fun v x ρ1 F1 H1 e1 f1 I1 s1 q1 => ?_
  refine so_then hl I1 q1 fun o ρ2 F2 H2 f2 I2 q2 => ?_
  refine so_then hh I2 q2 fun u ρ3 F3 H3 f3 I3 q3 => ?_
  cases hd : dat ρ3 x with
  | none => rw [hd] at q3; exact q3.elim
  | some d =>
    rw [hd] at q3
    exact r3_sl I3.fh (((s1.mono f2.ex).mono f3.ex).pk I3 (dat_settled.trans hd)) (Give.post I3 q3)
/-- xs[::-1] of a list -/
def pyRev : Py → OV
  | .lst l => .fr (.lst l.reverse)
  | .scr l => .fr (.lst l.reverse)
  | _ => .st
theorem RepL.reverse {F : Hp} : ∀ {xs : List V} {ds : List Py}, RepL T F xs ds → RepL T F xs.reverse ds.reverse
  | _, _, .nil => .nil
  | _, _, .cons h r => by rw [List.reverse_cons, List.reverse_cons]; exact (RepL.reverse r).append (.cons h .nil)
theorem se_rev {te : TE} {me : ME} (he : SE T W te me) : SE T W (tRevL T.K te) (mUn pyRev me) := fun F H σ ρ Q I q => by
  refine se_un (T := T) (W := W) (r := fun x H Q => ∃ a xs, x = .ref a ∧ SqL T.K H a xs ∧ ∀ p, H p = none → Q (.ref p) (upd H p (.lst xs.reverse))) (f := pyRev) ?_ he F H σ ρ Q I q
  intro F H x d Q fh px q
  cases d <;> try exact q.elim
  · obtain ⟨p, xs, rfl, hp, r⟩ := px.lst fh
    exact ⟨p, xs, rfl, SqL.of hp, Give.lst fh r.reverse q⟩
  · obtain ⟨p, xs, rfl, hp, r⟩ := px.scr fh
    exact ⟨p, xs, rfl, hp, Give.lst fh r.reverse q⟩

/-! ### built-ins -/
theorem PkL.one {F H : Hp} {xs : List V} {d : Py} (h : PkL T F H xs [d]) : ∃ x, xs = [x] ∧ Pk T F H x d := by
  cases h with
  | cons h t => cases t; exact ⟨_, rfl, h⟩
theorem PkL.two {F H : Hp} {xs : List V} {d e : Py} (h : PkL T F H xs [d, e]) : ∃ x y, xs = [x, y] ∧ Pk T F H x d ∧ Pk T F H y e := by
  cases h with
  | cons h t =>
    obtain ⟨y, rfl, k⟩ := t.one
    exact ⟨_, y, rfl, h, k⟩
def one (f : Py → OV) : List Py → OV
  | [d] => f d
  | _ => .st
def two (f : Py → Py → OV) : List Py → OV
  | [d, e] => f d e
  | _ => .st
theorem rc_one {r : List V → Hp → VK → Prop} {f : Py → OV} (h : R1ok T (fun x H Q => r [x] H Q) f) : RCok T r (one f) := fun F H xs ds Q fh px q => by
  match ds, px, q with
  | [], _, q => exact q.elim
  | [d], px, q =>
    obtain ⟨x, rfl, p1⟩ := px.one
    exact h F H x d Q fh p1 q
  | _ :: _ :: _, _, q => exact q.elim
theorem rc_two {r : List V → Hp → VK → Prop} {f : Py → Py → OV} (h : R2ok T (fun x y H Q => r [x, y] H Q) f) : RCok T r (two f) := fun F H xs ds Q fh px q => by
  match ds, px, q with
  | [], _, q => exact q.elim
  | [d], _, q => exact q.elim
  | [d, e], px, q =>
    obtain ⟨x, y, rfl, p1, p2⟩ := px.two
    exact h F H x y d e Q fh p1 p2 q
  | _ :: _ :: _ :: _, _, q => exact q.elim
def pyLen : Py → OV
  | .lst l => .im (.int l.length)
  | .scr l => .im (.int l.length)
  | .tup l => .im (.int l.length)
  | .str z => if z.length ≤ sizeLine then .im (.int z.length) else .st
  | _ => .st
theorem rc_len : RCok T (fun xs H Q => ∃ x n, xs = [x] ∧ LenV T.K x H n ∧ Q (.int n) H) (one pyLen) := rc_one fun F H x d Q fh px q => by
  cases d <;> try exact q.elim
  · rename_i z
    have e := px.str
    subst e
    have q : Give T F H Q (if z.length ≤ sizeLine then .im (.int z.length) else .st) := q
    by_cases h : z.length ≤ sizeLine
    · rw [if_pos h] at q
      exact ⟨_, z.length, rfl, ⟨h, rfl⟩, Give.int fh q⟩
    · rw [if_neg h] at q; exact q.elim
  · obtain ⟨p, xs, rfl, hp, r, _⟩ := px.tup fh
    exact ⟨_, _, rfl, .inr ⟨xs, hp, r.length.symm⟩, Give.int fh q⟩
  · obtain ⟨p, xs, rfl, hp, r⟩ := px.lst fh
    exact ⟨_, _, rfl, .inl ⟨xs, SqL.of hp, r.length.symm⟩, Give.int fh q⟩
  · obtain ⟨p, xs, rfl, hp, r⟩ := px.scr fh
    exact ⟨_, _, rfl, .inl ⟨xs, hp, r.length.symm⟩, Give.int fh q⟩
def pyTuple : Py → OV
  | .lst l => .im (.tup l)
  | .scr l => .im (.tup l)
  | .tup l => .im (.tup l)
  | _ => .st
theorem rc_tuple : RCok T (fun xs H Q => ∃ p ys, xs = [.ref p] ∧ ((SqL T.K H p ys ∧ ∀ l, H l = none → Q (.ref l) (upd H l (.tup ys))) ∨ (SqT T.K H p ys ∧ Q (.ref p) H))) (one pyTuple) := rc_one fun F H x d Q fh px q => by
  cases d <;> try exact q.elim
  · obtain ⟨p, xs, rfl, hp, _, r⟩ := px.tup fh
    exact ⟨p, xs, rfl, .inr ⟨hp, q.same fh r⟩⟩
  · obtain ⟨p, xs, rfl, hp, r⟩ := px.lst fh
    exact ⟨p, xs, rfl, .inl ⟨SqL.of hp, Give.tup fh r q⟩⟩
  · obtain ⟨p, xs, rfl, hp, r⟩ := px.scr fh
    exact ⟨p, xs, rfl, .inl ⟨hp, Give.tup fh r q⟩⟩
def pyList : Py → OV
  | .lst l => .fr (.lst l)
  | .scr l => .fr (.lst l)
  | .tup l => .fr (.lst l)
  | _ => .st
theorem rc_list : RCok T (fun xs H Q => ∃ p ys, xs = [.ref p] ∧ (SqL T.K H p ys ∨ SqT T.K H p ys) ∧ ∀ l, H l = none → Q (.ref l) (upd H l (.lst ys))) (one pyList) := rc_one fun F H x d Q fh px q => by
  cases d <;> try exact q.elim
  · obtain ⟨p, xs, rfl, hp, r, _⟩ := px.tup fh
    exact ⟨p, xs, rfl, .inr hp, Give.lst fh r q⟩
  · obtain ⟨p, xs, rfl, hp, r⟩ := px.lst fh
    exact ⟨p, xs, rfl, .inl (SqL.of hp), Give.lst fh r q⟩
  · obtain ⟨p, xs, rfl, hp, r⟩ := px.scr fh
    exact ⟨p, xs, rfl, .inl hp, Give.lst fh r q⟩
def pyToInt : Py → OV
  | .int i => .im (.int i)
  | .bl b => .im (.int (if b then 1 else 0))
  | _ => .st
theorem rc_int : RCok T (fun xs H Q => (∃ i, xs = [.int i] ∧ Q (.int i) H) ∨ ∃ k, xs = [.bl k] ∧ Q (.int (if k then 1 else 0)) H) (one pyToInt) := rc_one fun F H x d Q fh px q => by
  cases d <;> try exact q.elim
  · rename_i b
    have e := px.bl
    subst e
    exact .inr ⟨b, rfl, Give.int fh q⟩
  · rename_i i
    have e := px.int
    subst e
    exact .inl ⟨i, rfl, Give.int fh q⟩
/-- max, min of two ints -/
def pyI2 (g : Int → Int → Int) : Py → Py → OV
  | .int i, .int j => .im (.int (g i j))
  | _, _ => .st
theorem rc_i2 {g : Int → Int → Int} : RCok T (fun xs H Q => ∃ i j, xs = [.int i, .int j] ∧ Q (.int (g i j)) H) (two (pyI2 g)) := rc_two fun F H x y d e Q fh p1 p2 q => by
  cases d <;> cases e <;> try exact q.elim
  rename_i i j
  have e1 := p1.int
  have e2 := p2.int
  subst e1 e2
  exact ⟨i, j, rfl, Give.int fh q⟩
abbrev max2 (i j : Int) : Int := if j > i then j else i
abbrev min2 (i j : Int) : Int := if j < i then j else i
theorem rc_max : RCok T (fun xs H Q => ∃ i j, xs = [.int i, .int j] ∧ Q (.int (if j > i then j else i)) H) (two (pyI2 max2)) := rc_i2
theorem rc_min : RCok T (fun xs H Q => ∃ i j, xs = [.int i, .int j] ∧ Q (.int (if j < i then j else i)) H) (two (pyI2 min2)) := rc_i2
end
end Mr
namespace Mr
open PySem L2

/-! ### mirrors of statements -/
inductive SR where
  | nx (ρ : Rho)
  | rt (r : Rv) (ρ : Rho)
  | bk (ρ : Rho)
  | ct (ρ : Rho)
  | ex (c : Nat) (w : Py) (ρ : Rho)
  | st
abbrev MS := Rho → SR
def SPost (T : Tb) (W : Wx) (F H : Hp) (σ : L2.St) (ρ : Rho) (D : Ends) : SR → Prop
  | .nx ρ' => ∀ σ' F' H', Fr F H σ ρ F' H' σ' ρ' → En T F' σ' ρ' H' → D.nx σ' H'
  | .rt r ρ' => ∀ v σ' F' H', Fr F H σ ρ F' H' σ' ρ' → En T F' σ' ρ' H' → RR T H F' H' σ' ρ' v r → D.rt v H'
  | .bk ρ' => ∀ σ' F' H', Fr F H σ ρ F' H' σ' ρ' → En T F' σ' ρ' H' → D.bk σ' H'
  | .ct ρ' => ∀ σ' F' H', Fr F H σ ρ F' H' σ' ρ' → En T F' σ' ρ' H' → D.ct σ' H'
  | .ex c w ρ' => ∀ d v σ' F' H', Fr F H σ ρ F' H' σ' ρ' → En T F' σ' ρ' H' → Rep T F' v w → H' d = some (.xd [("what", v)]) → H d = none → F' d = none → W (.ref (T.cls c)) (some d) σ' H'
  | .st => False
def SS (T : Tb) (W : Wx) (ts : TS) (m : MS) : Prop := ∀ (F H : Hp) (σ : L2.St) (ρ : Rho) (D : Ends), En T F σ ρ H → SPost T W F H σ ρ D (m ρ) → ts D σ H

section
variable {T : Tb} {W : Wx} {F F1 F2 F0 H H0 H1 H2 : Hp} {σ σ0 σ1 : L2.St} {ρ ρ0 ρ1 ρ2 : Rho} {D : Ends} {v : V}
variable [NoSg T]
theorem RR.later {r : Rv} (n : ∀ b, H1 b = none → H b = none) (h : RR T H1 F2 H2 σ ρ2 v r) : RR T H F2 H2 σ ρ2 v r := by
  cases r with
  | im d => exact h
  | bo i => exact h
  | fr d =>
    obtain ⟨p, e, nf, b, hi, ho⟩ := h
    exact ⟨p, e, nf, b, n p hi, ho⟩
theorem SPost.fr (f : Fr F H σ ρ F1 H1 σ1 ρ1) : ∀ {x : SR}, SPost T W F H σ ρ D x → SPost T W F1 H1 σ1 ρ1 D x
  | .nx _, h => fun σ' F' H' f2 I => h σ' F' H' (f.trans f2) I
  | .rt _ _, h => fun v σ' F' H' f2 I rr => h v σ' F' H' (f.trans f2) I (rr.later fun _ => f.none)
  | .bk _, h => fun σ' F' H' f2 I => h σ' F' H' (f.trans f2) I
  | .ct _, h => fun σ' F' H' f2 I => h σ' F' H' (f.trans f2) I
  | .ex _ _ _, h => fun d v σ' F' H' f2 I rr hd hn hF => h d v σ' F' H' (f.trans f2) I rr hd (f.none hn) hF
  | .st, h => h
/-- other ends -/
theorem SPost.ends {D D' : Ends} {x : SR} (h : SPost T W F H σ ρ D x) (e1 : D.nx = D'.nx) (e2 : D.rt = D'.rt) (e3 : D.bk = D'.bk) (e4 : D.ct = D'.ct) : SPost T W F H σ ρ D' x := by
  cases D; cases D'
  cases e1; cases e2; cases e3; cases e4
  exact h
def SR.bind (x : SR) (k : MS) : SR := match x with
  | .nx ρ => k ρ
  | y => y
def mSeq (a b : MS) : MS := fun ρ => (a ρ).bind b
theorem ss_seq {t u : TS} {mt mu : MS} (h : SS T W t mt) (k : SS T W u mu) : SS T W (tSeq t u) (mSeq mt mu) := fun F H σ ρ D I q => by
  refine h F H σ ρ _ I ?_
  unfold mSeq at q
  cases e : mt ρ with
  | nx ρ1 =>
    rw [e] at q
    exact fun σ1 F1 H1 f1 I1 => k F1 H1 σ1 ρ1 D I1 (SPost.fr f1 q)
  | rt r ρ1 => rw [e] at q; exact q
  | bk ρ1 => rw [e] at q; exact q
  | ct ρ1 => rw [e] at q; exact q
  | ex c w ρ1 => rw [e] at q; exact q
  | st => rw [e] at q; exact q
def mNext : MS := fun ρ => .nx ρ
theorem ss_next : SS T W tNext mNext := fun F H σ ρ D I q => q σ F H Fr.refl I
def mBreak : MS := fun ρ => .bk ρ
theorem ss_break : SS T W tBreak mBreak := fun F H σ ρ D I q => q σ F H Fr.refl I
def mCont : MS := fun ρ => .ct ρ
theorem ss_cont : SS T W tCont mCont := fun F H σ ρ D I q => q σ F H Fr.refl I
/-- an expression ahead of the rest of a statement -/
def ER.then (x : ER) (k : Rv → Rho → SR) : SR := match x with
  | .ok r ρ => k r ρ
  | .ex c w ρ => .ex c w ρ
  | .st => .st
/-- as it is, new ones not settled -/
theorem ss_then {te : TE} {m : ME} (h : SE T W te m) (I : En T F σ ρ H) {k : Rv → Rho → SR} {Q' : VK} (q : SPost T W F H σ ρ D ((m ρ).then k))
    (next : ∀ v r ρ1 F1 H1, Fr F H σ ρ F1 H1 σ ρ1 → En T F1 σ ρ1 H1 → RR T H F1 H1 σ ρ1 v r → SPost T W F H σ ρ D (k r ρ1) → Q' v H1) : te σ H Q' := by
  refine h F H σ ρ Q' I ?_
  cases e : m ρ with
  | st => rw [e] at q; exact q
  | ex c w ρ' =>
    rw [e] at q
    exact fun d v F' H' f I rr hd hn hF => q d v σ F' H' f I rr hd hn hF
  | ok r ρ1 =>
    rw [e] at q
    exact fun v F1 H1 f I1 rr => next v r ρ1 F1 H1 f I1 rr q
def mDrop (m : ME) : MS := fun ρ => (m ρ).then fun _ ρ1 => .nx ρ1
theorem ss_drop {te : TE} {m : ME} (h : SE T W te m) : SS T W (tDrop te) (mDrop m) := fun F H σ ρ D I q => by
  refine ss_then h I q fun v r ρ1 F1 H1 f1 I1 rr q1 => ?_
  exact q1 σ F1 H1 f1 I1
def mRet (m : ME) : MS := fun ρ => (m ρ).then fun r ρ1 => .rt r ρ1
theorem ss_ret {te : TE} {m : ME} (h : SE T W te m) : SS T W (tRet te) (mRet m) := fun F H σ ρ D I q => by
  refine ss_then h I q fun v r ρ1 F1 H1 f1 I1 rr q1 => ?_
  exact q1 v σ F1 H1 f1 I1 rr
def mRetN : MS := fun ρ => .rt (.im .non) ρ
theorem ss_retN : SS T W tRetN mRetN := fun F H σ ρ D I q => q .non σ F H Fr.refl I .non
def mIfS (mt : ME) (ma mb : MS) : MS := fun ρ => (mt ρ).then fun r ρ1 => match r with
  | .im (.bl b) => if b = true then ma ρ1 else mb ρ1
  | _ => .st
theorem stt_then {tt : TT} {m : ME} (h : ST T W tt m) (I : En T F σ ρ H) {k : Rv → Rho → SR} {Q' : Bool → Hp → Prop} (q : SPost T W F H σ ρ D ((m ρ).then k)) (hk : ∀ r ρ1, (∀ b, r ≠ .im (.bl b)) → k r ρ1 = .st)
    (next : ∀ b ρ1 F1 H1, Fr F H σ ρ F1 H1 σ ρ1 → En T F1 σ ρ1 H1 → SPost T W F1 H1 σ ρ1 D (k (.im (.bl b)) ρ1) → Q' b H1) : tt σ H Q' := by
  refine h F H σ ρ Q' I ?_
  cases e : m ρ with
  | st => rw [e] at q; exact q
  | ex c w ρ' =>
    rw [e] at q
    exact fun d v F' H' f I rr hd hn hF => q d v σ F' H' f I rr hd hn hF
  | ok r ρ1 =>
    rw [e] at q
    have q : SPost T W F H σ ρ D (k r ρ1) := q
    by_cases hb : ∃ b, r = .im (.bl b)
    · obtain ⟨b, rfl⟩ := hb
      exact fun F1 H1 f I1 => next b ρ1 F1 H1 f I1 (SPost.fr f q)
    · rw [hk r ρ1 fun b z => hb ⟨b, z⟩] at q
      exact q.elim
theorem ss_if {tt : TT} {t u : TS} {mt : ME} {ma mb : MS} (h : ST T W tt mt) (ha : SS T W t ma) (hb : SS T W u mb) : SS T W (tIfS tt t u) (mIfS mt ma mb) := fun F H σ ρ D I q => by
  refine stt_then h I q (fun r ρ1 hn => noBl r hn) fun b ρ1 F1 H1 f1 I1 q1 => ?_
  cases b with
  | true => exact ha F1 H1 σ ρ1 D I1 q1
  | false => exact hb F1 H1 σ ρ1 D I1 q1

/-! ### slots are set -/
/-- slot i gets s: not where the asker keeps the argument -/
def setSl (ρ : Rho) (i : Nat) (s : Sl) : Option Rho := match ρ[i]? with
  | some old => if old.isIo = true then none else some (ρ.set i s)
  | none => none
theorem setSl_some {i : Nat} {s : Sl} (h : setSl ρ i s = some ρ1) : ∃ old, ρ[i]? = some old ∧ old.isIo = false ∧ ρ1 = ρ.set i s ∧ i < ρ.length := by
  unfold setSl at h
  cases e : ρ[i]? with
  | none => rw [e] at h; cases h
  | some old =>
    rw [e] at h
    have h : (if old.isIo = true then none else some (ρ.set i s)) = some ρ1 := h
    by_cases hi : old.isIo = true
    · rw [if_pos hi] at h; cases h
    · rw [if_neg hi] at h
      exact ⟨old, rfl, by simpa using hi, (Option.some.inj h).symm, (List.getElem?_eq_some_iff.mp e).1⟩
theorem get_set_eq {α : Type} {l : List α} {i j : Nat} {a b : α} (h : (l.set i a)[j]? = some b) : (i = j ∧ b = a) ∨ (i ≠ j ∧ l[j]? = some b) := by
  by_cases hk : i = j
  · subst hk
    by_cases hl : i < l.length
    · rw [List.getElem?_set_self hl] at h
      exact .inl ⟨rfl, (Option.some.inj h).symm⟩
    · rw [List.getElem?_eq_none (by rw [List.length_set]; omega)] at h
      cases h
  · rw [List.getElem?_set_ne hk] at h
    exact .inr ⟨hk, h⟩
/-- behind a store of what is no own object -/
theorem set_im {i : Nat} {s : Sl} {x : Option V} (hs : ∀ io d, s ≠ .ow io d) (I : En T F σ ρ H) (e : setSl ρ i s = some ρ1) (ok : SlOk T F H (σ.set i x) i s) : Fr F H σ ρ F H (σ.set i x) ρ1 ∧ En T F (σ.set i x) ρ1 H := by
  obtain ⟨old, e0, hio, rfl, hl⟩ := setSl_some e
  have ownb : ∀ io b, OwnF io (σ.set i x) (ρ.set i s) b → OwnF io σ ρ b := fun io b h => by
    obtain ⟨j, d, e1, e2⟩ := h
    rcases get_set_eq e1 with ⟨_, z⟩ | ⟨hk, e1⟩
    · exact absurd z.symm (hs io d)
    · rw [List.getElem?_set_ne hk] at e2
      exact ⟨j, d, e1, e2⟩
  refine ⟨⟨Same.refl _, fun _ _ h _ => h, fun _ _ h => .inl h, fun io b h => .inl (ownb io b h), fun _ o h => ⟨o, h⟩, fun j s' h k => ?_⟩, ⟨I.fh, by rw [List.length_set, List.length_set]; exact I.len, fun j s' h => ?_, fun a c y z d1 d2 p h1 h2 g1 g2 => ?_, I.lo, fun s z => by rw [NoSg.h] at z; cases z⟩⟩
  · have hk : i ≠ j := fun z => by
      subst z
      rw [e0] at h
      cases h
      rw [hio] at k
      cases k
    exact ⟨s', by rw [List.getElem?_set_ne hk]; exact h, k, by rw [List.getElem?_set_ne hk]⟩
  · rcases get_set_eq h with ⟨hk, z⟩ | ⟨hk, h⟩
    · subst hk z
      exact ok
    · have q := I.sl j s' h
      cases s' with
      | no => trivial
      | im io d =>
        obtain ⟨v, e1, r⟩ := q
        exact ⟨v, by rw [List.getElem?_set_ne hk]; exact e1, r⟩
      | ow io d =>
        obtain ⟨p, e1, r⟩ := q
        exact ⟨p, by rw [List.getElem?_set_ne hk]; exact e1, r⟩
  · rcases get_set_eq h1 with ⟨_, w⟩ | ⟨ka, h1⟩
    · exact absurd w.symm (hs _ _)
    rcases get_set_eq h2 with ⟨_, w⟩ | ⟨kc, h2⟩
    · exact absurd w.symm (hs _ _)
    rw [List.getElem?_set_ne ka] at g1
    rw [List.getElem?_set_ne kc] at g2
    exact I.uniq a c y z d1 d2 p h1 h2 g1 g2
theorem slOk_im {i : Nat} {d : Py} {io : Bool} (hl : i < σ.length) (r : Rep T F v d) : SlOk T F H (σ.set i (some v)) i (.im io d) := ⟨v, List.getElem?_set_self hl, r⟩
/-- behind a store of a new object -/
theorem set_ow {i : Nat} {d : Py} {p : Addr} (f : Fr F0 H0 σ0 ρ0 F H σ ρ) (I : En T F σ ρ H) (e : setSl ρ i (.ow false d) = some ρ1) (n : F p = none) (b : Box T F H p d) (hi : H0 p = none) (ho : ¬ Own σ ρ p) :
    Fr F0 H0 σ0 ρ0 F H (σ.set i (some (.ref p))) ρ1 ∧ En T F (σ.set i (some (.ref p))) ρ1 H := by
  obtain ⟨old, e0, hio, rfl, hl⟩ := setSl_some e
  have hl' : i < σ.length := by rw [I.len]; exact hl
  have ownb : ∀ io b, OwnF io (σ.set i (some (.ref p))) (ρ.set i (.ow false d)) b → OwnF io σ ρ b ∨ b = p := fun io b h => by
    obtain ⟨j, d', e1, e2⟩ := h
    rcases get_set_eq e1 with ⟨hk, z⟩ | ⟨hk, e1⟩
    · subst hk
      rw [List.getElem?_set_self hl'] at e2
      cases e2
      exact .inr rfl
    · rw [List.getElem?_set_ne hk] at e2
      exact .inl ⟨j, d', e1, e2⟩
  refine ⟨⟨f.ex, f.keep, f.new, fun io b h => ?_, f.there, fun j s' h k => ?_⟩, ⟨I.fh, by rw [List.length_set, List.length_set]; exact I.len, fun j s' h => ?_, fun a c y z d1 d2 p' h1 h2 g1 g2 => ?_, I.lo, fun s z => by rw [NoSg.h] at z; cases z⟩⟩
  · rcases ownb io b h with h | h
    · exact f.own io b h
    · subst h; exact .inr hi
  · obtain ⟨s1, h1, k1, e1⟩ := f.io j s' h k
    have hk : i ≠ j := fun z => by
      subst z
      rw [e0] at h1
      cases h1
      rw [hio] at k1
      cases k1
    exact ⟨s1, by rw [List.getElem?_set_ne hk]; exact h1, k1, by rw [List.getElem?_set_ne hk]; exact e1⟩
  · rcases get_set_eq h with ⟨hk, z⟩ | ⟨hk, h⟩
    · subst hk z
      exact ⟨p, List.getElem?_set_self hl', n, b⟩
    · have q := I.sl j s' h
      cases s' with
      | no => trivial
      | im io d =>
        obtain ⟨v, e1, r⟩ := q
        exact ⟨v, by rw [List.getElem?_set_ne hk]; exact e1, r⟩
      | ow io d =>
        obtain ⟨p, e1, r⟩ := q
        exact ⟨p, by rw [List.getElem?_set_ne hk]; exact e1, r⟩
  · rcases get_set_eq h1 with ⟨ka, w1⟩ | ⟨ka, h1⟩
    · rcases get_set_eq h2 with ⟨kc, w2⟩ | ⟨kc, h2⟩
      · exact ka.symm.trans kc
      · subst ka
        rw [List.getElem?_set_self hl'] at g1
        cases g1
        rw [List.getElem?_set_ne kc] at g2
        exact absurd ⟨c, z, d2, h2, g2⟩ ho
    · rcases get_set_eq h2 with ⟨kc, w2⟩ | ⟨kc, h2⟩
      · subst kc
        rw [List.getElem?_set_self hl'] at g2
        cases g2
        rw [List.getElem?_set_ne ka] at g1
        exact absurd ⟨a, y, d1, h1, g1⟩ ho
      · rw [List.getElem?_set_ne ka] at g1
        rw [List.getElem?_set_ne kc] at g2
        exact I.uniq a c y z d1 d2 p' h1 h2 g1 g2
/-- a name gets what an expression gave -/
def setRv (i : Nat) (r : Rv) (ρ : Rho) : Option Rho := match r with
  | .im d => setSl ρ i (.im false d)
  | .fr d => setSl ρ i (.ow false d)
  | .bo j => match dat ρ (.bo j) with
    | some d => setSl (ρ.freeze j) i (.im false d)
    | none => none
def optS (o : Option Rho) : SR := match o with
  | some ρ => .nx ρ
  | none => .st
theorem set_rv {i : Nat} {r : Rv} (f : Fr F0 H0 σ0 ρ0 F H σ ρ) (I : En T F σ ρ H) (rr : RR T H0 F H σ ρ v r) (e : setRv i r ρ = some ρ1) : ∃ F', Fr F0 H0 σ0 ρ0 F' H (σ.set i (some v)) ρ1 ∧ En T F' (σ.set i (some v)) ρ1 H := by
  cases r with
  | im d =>
    obtain ⟨old, e0, hio, _, hl⟩ := setSl_some (show setSl ρ i (.im false d) = some ρ1 from e)
    obtain ⟨f2, I2⟩ := set_im (x := some v) (by intro _ _ z; cases z) I e (slOk_im (by rw [I.len]; exact hl) rr)
    exact ⟨F, f.trans f2, I2⟩
  | fr d =>
    obtain ⟨p, rfl, n, b, hi, ho⟩ := rr
    obtain ⟨f2, I2⟩ := set_ow f I e n b hi ho
    exact ⟨F, f2, I2⟩
  | bo j =>
    have e : (match dat ρ (.bo j) with | some d => setSl (ρ.freeze j) i (.im false d) | none => none) = some ρ1 := e
    cases hd : dat ρ (.bo j) with
    | none => rw [hd] at e; cases e
    | some d =>
      rw [hd] at e
      obtain ⟨F1, f1, I1, r1⟩ := I.freeze rr hd
      obtain ⟨old, e0, hio, _, hl⟩ := setSl_some (show setSl (ρ.freeze j) i (.im false d) = some ρ1 from e)
      obtain ⟨f2, I2⟩ := set_im (x := some v) (by intro _ _ z; cases z) I1 e (slOk_im (by rw [I1.len]; exact hl) r1)
      exact ⟨F1, (f.trans f1).trans f2, I2⟩
def mSet (i : Nat) (m : ME) : MS := fun ρ => (m ρ).then fun r ρ1 => optS (setRv i r ρ1)
theorem ss_set {te : TE} {m : ME} (i : Nat) (h : SE T W te m) : SS T W (tAsg te (gName i)) (mSet i m) := fun F H σ ρ D I q => by
  refine ss_then h I q fun v r ρ1 F1 H1 f1 I1 rr q1 => ?_
  cases e : setRv i r ρ1 with
  | none => rw [e] at q1; exact q1.elim
  | some ρ2 =>
    rw [e] at q1
    obtain ⟨F2, f2, I2⟩ := set_rv f1 I1 rr e
    exact q1 _ F2 H1 f2 I2
/-- x op= e -/
def mAug (i : Nat) (f : Py → Py → OV) (m : ME) : MS := fun ρ => (mOp f (mVar i) m ρ).then fun r ρ1 => optS (setRv i r ρ1)
theorem ss_aug {te : TE} {m : ME} {r : R2} {f : Py → Py → OV} (i : Nat) (hr : R2ok T r f) (h : SE T W te m) : SS T W (tAug i te r) (mAug i f m) := fun F H σ ρ D I q => by
  have all : SS T W (tAsg (tOp r (tVar i) te) (gName i)) (mAug i f m) := ss_set i (se_op hr (se_var i) h)
  obtain ⟨x, e1, k⟩ := all F H σ ρ D I q
  exact ⟨x, e1, k⟩
theorem RR.fr2 {r : Rv} (f : Fr F1 H1 σ ρ1 F2 H2 σ ρ2) (I : En T F1 σ ρ1 H1) (h : RR T H F1 H1 σ ρ1 v r) : RR T H F2 H2 σ ρ2 v r := by
  cases r with
  | im d => exact Rep.mono (d := d) f.ex h
  | bo i => exact h
  | fr d =>
    obtain ⟨p, e, n, b, hi, ho⟩ := h
    obtain ⟨o, hp⟩ := b.some
    refine ⟨p, e, ?_, b.mono f.ex fun o z => f.keep p o z ho, hi, fun w => ?_⟩
    · cases z : F2 p with
      | none => rfl
      | some u =>
        rcases f.new p u z with y | y | y
        · rw [n] at y; cases y
        · rw [hp] at y; cases y
        · exact absurd y ho
    · rcases f.ownA p w with y | y
      · exact ho y
      · rw [hp] at y; cases y
end
end Mr
namespace Mr
open PySem L2

section
variable {T : Tb} {W : Wx} {F F1 F2 F0 H H0 H1 H2 : Hp} {σ σ0 σ1 : L2.St} {ρ ρ0 ρ1 ρ2 : Rho} {D : Ends} {v : V}
variable [NoSg T]
/-! ### a slot's own object is changed -/
theorem write_ow {i : Nat} {io : Bool} {d d' : Py} {p : Addr} {o' : HO} (I : En T F σ ρ H) (e : ρ[i]? = some (.ow io d)) (hv : σ[i]? = some (some (.ref p))) (b : Box T F (upd H p o') p d') :
    Fr F H σ ρ F (upd H p o') σ (ρ.set i (.ow io d')) ∧ En T F σ (ρ.set i (.ow io d')) (upd H p o') := by
  have hl : i < ρ.length := (List.getElem?_eq_some_iff.mp e).1
  obtain ⟨p', e1, n, b0⟩ := I.sl i _ e
  rw [hv] at e1
  cases e1
  have own : Own σ ρ p := ⟨i, io, d, e, hv⟩
  have ownb : ∀ io2 b, OwnF io2 σ (ρ.set i (.ow io d')) b → OwnF io2 σ ρ b := fun io2 b h => by
    obtain ⟨j, d2, e1, e2⟩ := h
    rcases get_set_eq e1 with ⟨hk, z⟩ | ⟨hk, e1⟩
    · subst hk
      cases z
      exact ⟨i, d, e, e2⟩
    · exact ⟨j, d2, e1, e2⟩
  have old : ∀ {j : Nat} {io2 : Bool} {d2 : Py}, (ρ.set i (.ow io d'))[j]? = some (.ow io2 d2) → ∃ d3, ρ[j]? = some (.ow io2 d3) := fun {j io2 d2} h => by
    rcases get_set_eq h with ⟨hk, z⟩ | ⟨hk, h⟩
    · subst hk
      cases z
      exact ⟨d, e⟩
    · exact ⟨d2, h⟩
  refine ⟨⟨Same.refl _, fun c u h no => ?_, fun _ _ h => .inl h, fun io2 c h => .inl (ownb io2 c h), fun c u h => ?_, fun j s h k => ?_⟩, ⟨fun c u h => ?_, by rw [List.length_set]; exact I.len, fun j s h => ?_, fun a c y z d1 d2 q h1 h2 g1 g2 => ?_, I.lo, I.sg⟩⟩
  · rw [upd_ne]
    · exact h
    · intro z
      subst z
      exact no own
  · by_cases hc : c = p
    · subst hc; exact ⟨o', upd_same⟩
    · exact ⟨u, by rw [upd_ne hc]; exact h⟩
  · by_cases hk : i = j
    · subst hk
      rw [e] at h
      cases h
      exact ⟨_, List.getElem?_set_self hl, k, rfl⟩
    · exact ⟨s, by rw [List.getElem?_set_ne hk]; exact h, k, rfl⟩
  · rw [upd_ne (ne_of_none h n)]
    exact I.fh c u h
  · rcases get_set_eq h with ⟨hk, z⟩ | ⟨hk, h⟩
    · subst hk z
      exact ⟨p, hv, n, b⟩
    · have q := I.sl j s h
      cases s with
      | no => trivial
      | im io2 d2 => exact q
      | ow io2 d2 =>
        obtain ⟨p2, e2, n2, b2⟩ := q
        refine ⟨p2, e2, n2, b2.mono (Same.refl _) fun u z => ?_⟩
        rw [upd_ne]
        · exact z
        · intro w
          subst w
          exact hk (I.uniq i j io io2 d d2 _ e h hv e2)
  · obtain ⟨d3, o1⟩ := old h1
    obtain ⟨d4, o2⟩ := old h2
    exact I.uniq a c y z d3 d4 q o1 o2 g1 g2
/-- what is put into an object stays from then on -/
def frzR (ρ : Rho) : Rv → Rho
  | .bo j => ρ.freeze j
  | _ => ρ
theorem frz_one {Hi : Hp} {F0 : Hp} {ρ0 : Rho} {r : Rv} {d : Py} (f : Fr F0 Hi σ ρ0 F H σ ρ) (I : En T F σ ρ H) (rr : RR T Hi F H σ ρ v r) (e : dat ρ r = some d) : ∃ F', Fr F0 Hi σ ρ0 F' H σ (frzR ρ r) ∧ En T F' σ (frzR ρ r) H ∧ Rep T F' v d := by
  cases r with
  | im d' =>
    cases e
    exact ⟨F, f, I, rr⟩
  | bo j =>
    obtain ⟨F1, f1, I1, r1⟩ := I.freeze rr e
    exact ⟨F1, f.trans f1, I1, r1⟩
  | fr d' =>
    cases e
    obtain ⟨F1, _, f1, I1, rs⟩ := settle f I rr
    exact ⟨F1, f1, I1, rs⟩
/-- the slot's own object -/
def owS (ρ : Rho) (i : Nat) : Option (Bool × Py) := match ρ[i]? with
  | some (.ow io d) => some (io, d)
  | _ => none
theorem owS_some {i : Nat} {io : Bool} {d : Py} (h : owS ρ i = some (io, d)) : ρ[i]? = some (.ow io d) := by
  unfold owS at h
  cases e : ρ[i]? with
  | none => rw [e] at h; cases h
  | some s =>
    rw [e] at h
    cases s with
    | no => cases h
    | im _ _ => cases h
    | ow _ _ => cases h; rfl
/-- the type of a container -/
def tyOf : Py → String → Bool
  | .lst _, t => t == "list"
  | .dic _ _, t => t == "dict"
  | .dit _ _, t => t == "dict"
  | _, _ => false
theorem tyOf_ok {d : Py} {p : Addr} {t : String} (b : Box T F H p d) (h : tyOf d t = true) : tyV T.K t (.ref p) H := by
  cases d <;> try (cases h; done)
  · obtain ⟨xs, e, _⟩ := b
    exact .inl ⟨beq_iff_eq.mp h, xs, SqL.of e⟩
  · obtain ⟨kvs, e, _⟩ := b
    exact .inr (.inr (.inl ⟨beq_iff_eq.mp h, .inl ⟨_, e⟩⟩))
  · obtain ⟨kvs, e, _⟩ := b
    exact .inr (.inr (.inl ⟨beq_iff_eq.mp h, .inr ⟨_, e⟩⟩))
/-- a method that changes its object: the data of the object and of the arguments in, the new data and the answer out -/
def MutOk (T : Tb) (r : V → List V → Hp → VK → Prop) (f : Py → List Py → Option (Py × Py)) : Prop :=
  ∀ (F H : Hp) (p : Addr) (d : Py) (xs : List V) (ds : List Py) (d' res : Py) (Q : VK), Same F H → Box T F H p d → RepL T F xs ds → f d ds = some (d', res) →
    (∀ o' v, Box T F (upd H p o') p d' → Rep T F v res → Q v (upd H p o')) → r (.ref p) xs H Q
def mMut (ty : String) (f : Py → List Py → Option (Py × Py)) (i : Nat) (ma : MA) : ME := fun ρ => match owS ρ i with
  | some (_, d0) => if tyOf d0 ty = true then aBind (ma ρ) fun rs ρ1 => (match dats ρ1 rs with
    | some ds => (match owS (frz ρ1 rs) i with
      | some (io, d) => (match f d ds with
        | some (d', res) => .ok (.im res) ((frz ρ1 rs).set i (.ow io d'))
        | none => .st)
      | none => .st)
    | none => .st) else .st
  | none => .st
theorem se_mut {ty : String} {r : V → List V → Hp → VK → Prop} {f : Py → List Py → Option (Py × Py)} {ta : TA} {ma : MA} (i : Nat) (hr : MutOk T r f) (ha : SA T W ta ma) : SE T W (tBM T.K ty r (tVar i) ta) (mMut ty f i ma) := fun F H σ ρ Q I q => by
  unfold mMut at q
  cases ho : owS ρ i with
  | none => rw [ho] at q; exact q.elim
  | some iod =>
    obtain ⟨io0, d0⟩ := iod
    rw [ho] at q
    have q : EPost T W F H σ ρ Q (if tyOf d0 ty = true then aBind (ma ρ) fun rs ρ1 => (match dats ρ1 rs with
      | some ds => (match owS (frz ρ1 rs) i with
        | some (io, d) => (match f d ds with
          | some (d', res) => .ok (.im res) ((frz ρ1 rs).set i (.ow io d'))
          | none => .st)
        | none => .st)
      | none => .st) else .st) := q
    by_cases ht : tyOf d0 ty = true
    · rw [if_pos ht] at q
      obtain ⟨p, e1, _, b0⟩ := I.sl i _ (owS_some ho)
      refine ⟨.ref p, e1, tyOf_ok b0 ht, ?_⟩
      refine sa_then ha I q fun vs rs ρ1 F1 H1 e f1 I1 s1 q1 => ?_
      cases hd : dats ρ1 rs with
      | none => rw [hd] at q1; exact q1.elim
      | some ds =>
        rw [hd] at q1
        obtain ⟨F2, f2, I2, r2⟩ := frz_all I1 s1 hd
        have q2 := EPost.fr f2 q1
        cases ho2 : owS (frz ρ1 rs) i with
        | none => simp only [ho2] at q2; exact q2.elim
        | some iod =>
          obtain ⟨io, d⟩ := iod
          simp only [ho2] at q2
          cases hf : f d ds with
          | none => simp only [hf] at q2; exact q2.elim
          | some dr =>
            obtain ⟨d', res⟩ := dr
            simp only [hf] at q2
            obtain ⟨p', e2, _, b⟩ := I2.sl i _ (owS_some ho2)
            rw [e1] at e2
            cases e2
            refine hr F2 H1 p d vs ds d' res Q I2.fh b r2 hf fun o' v b' rv => ?_
            obtain ⟨f3, I3⟩ := write_ow I2 (owS_some ho2) e1 b'
            exact q2 v F2 _ f3 I3 rv
    · rw [if_neg ht] at q; exact q.elim
theorem se_mut0 {ty : String} {r : V → List V → Hp → VK → Prop} {f : Py → List Py → Option (Py × Py)} (i : Nat) (hr : MutOk T r f) : SE T W (tBM0 T.K ty r (tVar i)) (mMut ty f i aNil) :=
  fun F H σ ρ Q I q => se_mut (T := T) (W := W) (ty := ty) i hr sa_nil F H σ ρ Q I q
def fAppend : Py → List Py → Option (Py × Py)
  | .lst l, [d] => if l.length < sizeLine then some (.lst (l ++ [d]), .non) else none
  | _, _ => none
theorem mo_append : MutOk T rAppend fAppend := fun F H p d xs ds d' res Q fh b r hf q => by
  cases d <;> try (cases hf; done)
  rename_i l
  match ds, hf with
  | [d], hf =>
    have hf : (if l.length < sizeLine then some (Py.lst (l ++ [d]), Py.non) else none) = some (d', res) := hf
    by_cases hl : l.length < sizeLine
    · rw [if_pos hl] at hf
      cases hf
      obtain ⟨ys, e, ry⟩ := b
      cases r with
      | cons h t =>
        cases t
        exact ⟨p, ys, _, rfl, rfl, e, by rw [ry.length]; exact hl, q _ _ ⟨_, upd_same, ry.append (.cons h .nil)⟩ .non⟩
    · rw [if_neg hl] at hf; cases hf
  | [], hf => cases hf
  | _ :: _ :: _, hf => cases hf
def fExtend : Py → List Py → Option (Py × Py)
  | .lst l, [.lst m] => if l.length + m.length ≤ sizeLine then some (.lst (l ++ m), .non) else none
  | _, _ => none
theorem mo_extend : MutOk T rExtend fExtend := fun F H p d xs ds d' res Q fh b r hf q => by
  cases d <;> try (cases hf; done)
  rename_i l
  match ds, hf with
  | [d], hf =>
    cases d <;> try (cases hf; done)
    rename_i m
    have hf : (if l.length + m.length ≤ sizeLine then some (Py.lst (l ++ m), Py.non) else none) = some (d', res) := hf
    by_cases hl : l.length + m.length ≤ sizeLine
    · rw [if_pos hl] at hf
      cases hf
      obtain ⟨ys, e, ry⟩ := b
      cases r with
      | cons h t =>
        cases t
        cases h with
        | lst h rz => exact ⟨p, _, ys, _, rfl, rfl, e, fh _ _ h, by rw [ry.length, rz.length]; exact hl, q _ _ ⟨_, upd_same, ry.append rz⟩ .non⟩
    · rw [if_neg hl] at hf; cases hf
  | [], hf => cases hf
  | e1 :: _ :: _, hf => cases e1 <;> cases hf
/-- x[i] = e, x a slot of its own that is a list -/
def fSetL (l : List Py) (j : Int) (d : Py) : Option Py := match ixN l.length j with
  | some k => some (.lst (l.set k d))
  | none => none
def mPutL (i : Nat) (mi m : ME) : MS := fun ρ => (m ρ).then fun r ρ1 => match dat ρ1 r, owS (frzR ρ1 r) i with
  | some d, some _ => (mi (frzR ρ1 r)).then fun s ρ2 => (match s.int?, owS ρ2 i with
    | some j, some (io, .lst l) => (match fSetL l j d with
      | some d' => .nx (ρ2.set i (.ow io d'))
      | none => .st)
    | _, _ => .st)
  | _, _ => .st
theorem ss_putL {te ti : TE} {m mi : ME} (i : Nat) (h : SE T W te m) (hi : SE T W ti mi) : SS T W (tAsg te (gSub (tVar i) ti rSetL)) (mPutL i mi m) := fun F H σ ρ D I q => by
  refine ss_then h I q fun v r ρ1 F1 H1 f1 I1 rr q1 => ?_
  cases hd : dat ρ1 r with
  | none => rw [hd] at q1; exact q1.elim
  | some d =>
    cases ho : owS (frzR ρ1 r) i with
    | none => rw [hd, ho] at q1; exact q1.elim
    | some iod =>
      rw [hd, ho] at q1
      obtain ⟨F2, f2, I2, r2⟩ := frz_one f1 I1 rr hd
      have q2 : SPost T W F2 H1 σ (frzR ρ1 r) D ((mi (frzR ρ1 r)).then fun s ρ2 => (match s.int?, owS ρ2 i with
        | some j, some (io, .lst l) => (match fSetL l j d with
          | some d' => .nx (ρ2.set i (.ow io d'))
          | none => .st)
        | _, _ => .st)) := SPost.fr f2 q1
      obtain ⟨io0, d0⟩ := iod
      obtain ⟨p, e1, _, _⟩ := I2.sl i _ (owS_some ho)
      refine ⟨.ref p, e1, ?_⟩
      refine ss_then hi I2 q2 fun w s ρ2 F3 H3 f3 I3 rs q3 => ?_
      cases hs : s.int? with
      | none => rw [hs] at q3; exact q3.elim
      | some j =>
        have es := Rv.int_eq hs
        subst es
        cases rs
        cases ho3 : owS ρ2 i with
        | none => simp only [hs, ho3] at q3; exact q3.elim
        | some iod =>
          obtain ⟨io, d3⟩ := iod
          cases d3 with
          | lst l =>
            simp only [hs, ho3] at q3
            cases hf : fSetL l j d with
            | none => rw [hf] at q3; exact q3.elim
            | some d' =>
              rw [hf] at q3
              have q3 : SPost T W F2 H1 σ (frzR ρ1 r) D (.nx (ρ2.set i (.ow io d'))) := q3
              obtain ⟨p', e3, _, ys, hp, ry⟩ := I3.sl i _ (owS_some ho3)
              rw [e1] at e3
              cases e3
              unfold fSetL at hf
              cases hk : ixN l.length j with
              | none => rw [hk] at hf; cases hf
              | some k =>
                rw [hk] at hf
                cases hf
                obtain ⟨f4, I4⟩ := write_ow (o' := .lst (ys.set k v)) (d' := .lst (l.set k d)) I3 (owS_some ho3) e1 ⟨_, upd_same, ry.set (r2.mono f3.ex) k⟩
                exact ⟨p, ys, j, k, rfl, rfl, hp, by rw [ry.length]; exact hk, q3 σ F3 _ (f3.trans f4) I4⟩
          | _ => simp only [hs, ho3] at q3; exact q3.elim

/-! ### targets -/
def SG (T : Tb) (g : TG) (mg : Py → Rho → Option Rho) : Prop := ∀ (F H : Hp) (σ : L2.St) (ρ : Rho) (v : V) (d : Py) (ρ' : Rho) (Q : L2.St → Hp → Prop), En T F σ ρ H → Rep T F v d → mg d ρ = some ρ' →
  (∀ σ' F' H', Fr F H σ ρ F' H' σ' ρ' → En T F' σ' ρ' H' → Q σ' H') → g v σ H Q
def SGs (T : Tb) (g : TGs) (mg : List Py → Rho → Option Rho) : Prop := ∀ (F H : Hp) (σ : L2.St) (ρ : Rho) (vs : List V) (ds : List Py) (ρ' : Rho) (Q : L2.St → Hp → Prop), En T F σ ρ H → RepL T F vs ds → mg ds ρ = some ρ' →
  (∀ σ' F' H', Fr F H σ ρ F' H' σ' ρ' → En T F' σ' ρ' H' → Q σ' H') → g vs σ H Q
def gN (i : Nat) : Py → Rho → Option Rho := fun d ρ => setSl ρ i (.im false d)
theorem sg_name (i : Nat) : SG T (gName i) (gN i) := fun F H σ ρ v d ρ' Q I r e q => by
  obtain ⟨old, e0, hio, _, hl⟩ := setSl_some e
  obtain ⟨f2, I2⟩ := set_im (x := some v) (by intro _ _ z; cases z) I e (slOk_im (by rw [I.len]; exact hl) r)
  exact q _ F H f2 I2
def gs0 : List Py → Rho → Option Rho
  | [], ρ => some ρ
  | _, _ => none
def gs1 (g : Py → Rho → Option Rho) (gs : List Py → Rho → Option Rho) : List Py → Rho → Option Rho
  | d :: ds, ρ => (match g d ρ with
    | some ρ1 => gs ds ρ1
    | none => none)
  | [], _ => none
theorem sgs_nil : SGs T gNil gs0 := fun F H σ ρ vs ds ρ' Q I r e q => by
  cases r with
  | nil =>
    cases e
    exact ⟨rfl, q σ F H Fr.refl I⟩
  | cons _ _ => cases e
theorem sgs_cons {g : TG} {u : TGs} {mg : Py → Rho → Option Rho} {mu : List Py → Rho → Option Rho} (h : SG T g mg) (k : SGs T u mu) : SGs T (gCons g u) (gs1 mg mu) := fun F H σ ρ vs ds ρ' Q I r e q => by
  cases r with
  | nil => cases e
  | cons r1 rr =>
    rename_i v vs d ds
    have e : (match mg d ρ with | some ρ1 => mu ds ρ1 | none => none) = some ρ' := e
    cases e1 : mg d ρ with
    | none => rw [e1] at e; cases e
    | some ρ1 =>
      rw [e1] at e
      exact ⟨v, vs, rfl, h F H σ ρ v d ρ1 _ I r1 e1 fun σ1 F1 H1 f1 I1 => k F1 H1 σ1 ρ1 vs ds ρ' Q I1 (rr.mono f1.ex) e fun σ2 F2 H2 f2 I2 => q σ2 F2 H2 (f1.trans f2) I2⟩
def gT (n : Nat) (gs : List Py → Rho → Option Rho) : Py → Rho → Option Rho
  | .tup l, ρ => if l.length = n then gs l ρ else none
  | _, _ => none
theorem sg_tup {n : Nat} {g : TGs} {mg : List Py → Rho → Option Rho} (h : SGs T g mg) : SG T (gTup T.K n g) (gT n mg) := fun F H σ ρ v d ρ' Q I r e q => by
  cases d <;> try (cases e; done)
  rename_i l
  have e : (if l.length = n then mg l ρ else none) = some ρ' := e
  by_cases hn : l.length = n
  · rw [if_pos hn] at e
    obtain ⟨a, xs, rfl, hs, rl, _⟩ := Pk.tup I.fh (Or.inl r)
    exact ⟨a, xs, rfl, hs, by rw [rl.length]; exact hn, h F H σ ρ xs l ρ' Q I rl e q⟩
  · rw [if_neg hn] at e; cases e
/-- x[i] as a target, x a slot of its own that is a list; nothing is raised -/
def gSL (i : Nat) (mi : ME) : Py → Rho → Option Rho := fun d ρ => match owS ρ i with
  | some _ => (match mi ρ with
    | .ok s ρ2 => (match s.int?, owS ρ2 i with
      | some j, some (io, .lst l) => (match fSetL l j d with
        | some d' => some (ρ2.set i (.ow io d'))
        | none => none)
      | _, _ => none)
    | _ => none)
  | none => none
theorem sg_subL {ti : TE} {mi : ME} (i : Nat) (hi : SE T (fun _ _ _ _ => False) ti mi) : SG T (gSub (tVar i) ti rSetL) (gSL i mi) := fun F H σ ρ v d ρ' Q I r e q => by
  unfold gSL at e
  cases ho : owS ρ i with
  | none => rw [ho] at e; cases e
  | some iod =>
    rw [ho] at e
    obtain ⟨io0, d0⟩ := iod
    obtain ⟨p, e1, _, _⟩ := I.sl i _ (owS_some ho)
    refine ⟨.ref p, e1, ?_⟩
    refine hi F H σ ρ _ I ?_
    have e : (match mi ρ with
      | .ok s ρ2 => (match s.int?, owS ρ2 i with
        | some j, some (io, .lst l) => (match fSetL l j d with
          | some d' => some (ρ2.set i (.ow io d'))
          | none => none)
        | _, _ => none)
      | _ => none) = some ρ' := e
    cases em : mi ρ with
    | st => rw [em] at e; cases e
    | ex c w ρ2 => rw [em] at e; cases e
    | ok s ρ2 =>
      rw [em] at e
      intro w F1 H1 f1 I1 rs
      cases hs : s.int? with
      | none => simp only [hs] at e; cases e
      | some j =>
        have es := Rv.int_eq hs
        subst es
        cases rs
        cases ho3 : owS ρ2 i with
        | none => simp only [hs, ho3] at e; cases e
        | some iod =>
          obtain ⟨io, d3⟩ := iod
          cases d3 with
          | lst l =>
            simp only [hs, ho3] at e
            cases hf : fSetL l j d with
            | none => rw [hf] at e; cases e
            | some d' =>
              rw [hf] at e
              have e : some (ρ2.set i (.ow io d')) = some ρ' := e
              cases e
              obtain ⟨p', e3, _, ys, hp, ry⟩ := I1.sl i _ (owS_some ho3)
              rw [e1] at e3
              cases e3
              unfold fSetL at hf
              cases hk : ixN l.length j with
              | none => rw [hk] at hf; cases hf
              | some k =>
                rw [hk] at hf
                cases hf
                obtain ⟨f4, I4⟩ := write_ow (o' := .lst (ys.set k v)) (d' := .lst (l.set k d)) I1 (owS_some ho3) e1 ⟨_, upd_same, ry.set (r.mono f1.ex) k⟩
                exact ⟨p, ys, j, k, rfl, rfl, hp, by rw [ry.length]; exact hk, q σ F1 _ (f1.trans f4) I4⟩
          | _ => simp only [hs, ho3] at e; cases e
/-- target = e, by the data -/
def mAsg (g : Py → Rho → Option Rho) (m : ME) : MS := fun ρ => (m ρ).then fun r ρ1 => match dat ρ1 r with
  | some d => optS (g d (frzR ρ1 r))
  | none => .st
theorem ss_asg {te : TE} {m : ME} {g : TG} {mg : Py → Rho → Option Rho} (hg : SG T g mg) (h : SE T W te m) : SS T W (tAsg te g) (mAsg mg m) := fun F H σ ρ D I q => by
  refine ss_then h I q fun v r ρ1 F1 H1 f1 I1 rr q1 => ?_
  cases hd : dat ρ1 r with
  | none => rw [hd] at q1; exact q1.elim
  | some d =>
    rw [hd] at q1
    obtain ⟨F2, f2, I2, r2⟩ := frz_one f1 I1 rr hd
    have q2 : SPost T W F H σ ρ D (optS (mg d (frzR ρ1 r))) := q1
    cases e : mg d (frzR ρ1 r) with
    | none => rw [e] at q2; exact q2.elim
    | some ρ3 =>
      rw [e] at q2
      exact hg F2 H1 σ _ v d ρ3 _ I2 r2 e fun σ3 F3 H3 f3 I3 => q2 σ3 F3 H3 (f2.trans f3) I3

/-! ### what a loop walks -/
/-- the turns give the items -/
def ItOk (T : Tb) (J : It) (F : Hp) (items : List Py) : Prop := ∀ (i : Nat) (F1 H1 : Hp), Same F F1 → Same F1 H1 →
  (∀ d, items[i]? = some d → J.go i H1 ∧ ∀ x H2, J.yld i H1 x H2 → ∃ F2, Gr F1 H1 F2 H2 ∧ Same F2 H2 ∧ Rep T F2 x d) ∧ (items.length = i → J.stop i H1)
inductive IR where
  | ok (items : List Py) (ρ : Rho)
  | ex (c : Nat) (w : Py) (ρ : Rho)
  | st
abbrev MI := Rho → IR
def IPost (T : Tb) (W : Wx) (F H : Hp) (σ : L2.St) (ρ : Rho) (R : It → Hp → Prop) : IR → Prop
  | .ok items ρ' => ∀ J F' H', Fr F H σ ρ F' H' σ ρ' → En T F' σ ρ' H' → ItOk T J F' items → R J H'
  | .ex c w ρ' => ∀ d v F' H', Fr F H σ ρ F' H' σ ρ' → En T F' σ ρ' H' → Rep T F' v w → H' d = some (.xd [("what", v)]) → H d = none → F' d = none → W (.ref (T.cls c)) (some d) σ H'
  | .st => False
def SI (T : Tb) (W : Wx) (wi : TI) (mi : MI) : Prop := ∀ (F H : Hp) (σ : L2.St) (ρ : Rho) (R : It → Hp → Prop), En T F σ ρ H → IPost T W F H σ ρ R (mi ρ) → wi σ H R
def ER.thenI (x : ER) (k : Rv → Rho → IR) : IR := match x with
  | .ok r ρ => k r ρ
  | .ex c w ρ => .ex c w ρ
  | .st => .st
theorem si_then {te : TE} {m : ME} (h : SE T W te m) (I : En T F σ ρ H) {R : It → Hp → Prop} {k : Rv → Rho → IR} {Q' : VK} (q : IPost T W F H σ ρ R ((m ρ).thenI k))
    (next : ∀ v r ρ1 F1 H1, m ρ = .ok r ρ1 → Fr F H σ ρ F1 H1 σ ρ1 → En T F1 σ ρ1 H1 → RR T H F1 H1 σ ρ1 v r → IPost T W F H σ ρ R (k r ρ1) → Q' v H1) : te σ H Q' := by
  refine h F H σ ρ Q' I ?_
  cases e : m ρ with
  | st => rw [e] at q; exact q
  | ex c w ρ' => rw [e] at q; exact q
  | ok r ρ1 =>
    rw [e] at q
    exact fun v F1 H1 f I1 rr => next v r ρ1 F1 H1 e f I1 rr q
/-- the items of a list, a tuple; a text's signs -/
def itemsOf : Py → Option (List Py)
  | .lst l => some l
  | .scr l => some l
  | .tup l => some l
  | .str z => some (z.cps.toList.map fun c => .str ⟨#[c]⟩)
  | _ => none
def iAny (m : ME) : MI := fun ρ => (m ρ).thenI fun r ρ1 => match dat ρ1 r with
  | some d => (match itemsOf d with
    | some items => .ok items (frzR ρ1 r)
    | none => .st)
  | none => .st
theorem it_list {a : Addr} {xs : List V} {l : List Py} (hs : ∀ H1, Same F H1 → SqL T.K H1 a xs) (r : RepL T F xs l) : ItOk T (Itl T.K a) F l := fun i F1 H1 e s =>
  ⟨fun d h => by
    obtain ⟨v, hv, rv⟩ := r.get h
    refine ⟨⟨xs, v, hs H1 (e.trans s), hv⟩, fun x H2 y => ?_⟩
    obtain ⟨eH, y⟩ := y
    subst eH
    have ex := (y xs (hs _ (e.trans s))).symm.trans hv
    cases ex
    exact ⟨F1, Gr.refl, s, rv.mono e⟩, fun hl => ⟨xs, hs H1 (e.trans s), by rw [r.length, hl]; exact Nat.le_refl _⟩⟩
theorem it_tup {a : Addr} {xs : List V} {l : List Py} (hs : SqT T.K F a xs) (r : RepL T F xs l) : ItOk T (Itt T.K a) F l := fun i F1 H1 e s =>
  ⟨fun d h => by
    obtain ⟨v, hv, rv⟩ := r.get h
    refine ⟨⟨xs, v, same_t (e.trans s) hs, hv⟩, fun x H2 y => ?_⟩
    obtain ⟨eH, y⟩ := y
    subst eH
    have ex := (y xs (same_t (e.trans s) hs)).symm.trans hv
    cases ex
    exact ⟨F1, Gr.refl, s, rv.mono e⟩, fun hl => ⟨xs, same_t (e.trans s) hs, by rw [r.length, hl]; exact Nat.le_refl _⟩⟩
end
end Mr
namespace Mr
open PySem PySem.Spec PyProof.Rows L2

theorem piOr {X : Cx} {tg e : Expr} {w w' : TI} (h : PI X tg e w) (h' : PI X tg e w') : PI X tg e (fun σ H R => w σ H R ∨ w' σ H R) :=
  ⟨fun pins s σ H R I q => q.elim (h.run pins s σ H R I) (h'.run pins s σ H R I)⟩
section
variable {T : Tb} {W : Wx} {F F1 F2 F0 H H0 H1 H2 : Hp} {σ σ0 σ1 : L2.St} {ρ ρ0 ρ1 ρ2 : Rho} {D : Ends} {v : V}
variable [NoSg T]
/-! ### what is walked: a list, a tuple, a text -/
def iSeq (K : PySem.W.Frag) (te : TE) : TI := fun σ H R => iList K te σ H R ∨ iTup K te σ H R ∨ iStr te σ H R
theorem pi_seq {X : Cx} {tg e : Expr} {te : TE} (h : PE X e te) : PI X tg e (iSeq X.K te) := piOr (pi_list h) (piOr (pi_tup h) (pi_str h))
theorem it_str {z : Str} : ItOk T (Its z) F (z.cps.toList.map fun c => .str ⟨#[c]⟩) := fun i F1 H1 e s =>
  ⟨fun d h => by
    rw [List.getElem?_map] at h
    cases hc : z.cps.toList[i]? with
    | none => rw [hc] at h; cases h
    | some c =>
      rw [hc] at h
      cases h
      have hc' : z.cps[i]? = some c := by simpa using hc
      refine ⟨(Array.getElem?_eq_some_iff.mp hc').1, fun x H2 y => ?_⟩
      obtain ⟨eH, c2, h2, ex⟩ := y
      subst eH ex
      rw [hc'] at h2
      cases h2
      exact ⟨F1, Gr.refl, s, .str _⟩, fun hl => by
    rw [List.length_map, Array.length_toList] at hl
    exact Nat.le_of_eq hl⟩
theorem si_any {te : TE} {m : ME} (h : SE T W te m) : SI T W (iSeq T.K te) (iAny m) := fun F H σ ρ R I q => by
  have use : ∀ {d : Py} {items : List Py} {Q' : VK}, (∀ r ρ1, m ρ = .ok r ρ1 → dat ρ1 r = some d) → itemsOf d = some items →
      (∀ v F1 H1, Same F1 H1 → Rep T F1 v d → (∀ J, ItOk T J F1 items → R J H1) → Q' v H1) → te σ H Q' := fun {d items Q'} hd hi next => by
    refine si_then h I (show IPost T W F H σ ρ R ((m ρ).thenI _) from q) fun v r ρ1 F1 H1 hm f1 I1 rr q1 => ?_
    rw [hd r ρ1 hm] at q1
    simp only [hi] at q1
    obtain ⟨F2, f2, I2, r2⟩ := frz_one f1 I1 rr (hd r ρ1 hm)
    exact next v F2 H1 I2.fh r2 fun J ok => q1 J F2 H1 f2 I2 ok
  have no : (∀ r ρ1, m ρ = .ok r ρ1 → False) → ∀ Q' : VK, te σ H Q' := fun hn Q' => by
    refine si_then h I (show IPost T W F H σ ρ R ((m ρ).thenI _) from q) fun v r ρ1 F1 H1 hm f1 I1 rr q1 => ?_
    exact (hn r ρ1 hm).elim
  cases hm : m ρ with
  | st => exact .inl (no (fun r ρ1 e => by rw [hm] at e; cases e) _)
  | ex c w ρ' => exact .inl (no (fun r ρ1 e => by rw [hm] at e; cases e) _)
  | ok r0 ρ0 =>
    have one : ∀ {d : Py}, dat ρ0 r0 = some d → ∀ r ρ1, m ρ = .ok r ρ1 → dat ρ1 r = some d := fun e r ρ1 e1 => by
      rw [hm] at e1
      cases e1
      exact e
    cases hd : dat ρ0 r0 with
    | none => unfold iAny at q; rw [hm] at q; have q : IPost T W F H σ ρ R (match dat ρ0 r0 with | some d => (match itemsOf d with | some items => .ok items (frzR ρ0 r0) | none => .st) | none => .st) := q; rw [hd] at q; exact q.elim
    | some d =>
      have bad : itemsOf d = none → False := fun hn => by
        unfold iAny at q
        rw [hm] at q
        have q : IPost T W F H σ ρ R (match dat ρ0 r0 with | some d => (match itemsOf d with | some items => .ok items (frzR ρ0 r0) | none => .st) | none => .st) := q
        rw [hd] at q
        simp only [hn] at q
        exact q
      cases d with
      | lst l =>
        refine .inl (use (one hd) rfl fun v F1 H1 fh r k => ?_)
        cases r with
        | lst hs rl => exact ⟨_, rfl, ⟨_, SqL.of (fh _ _ hs)⟩, k _ (it_list (fun H2 s2 => SqL.of (s2 _ _ hs)) rl)⟩
      | scr l =>
        refine .inl (use (one hd) rfl fun v F1 H1 fh r k => ?_)
        cases r with
        | scr hs rl => exact ⟨_, rfl, ⟨_, fh.seq hs⟩, k _ (it_list (fun H2 s2 => s2.seq hs) rl)⟩
      | tup l =>
        refine .inr (.inl (use (one hd) rfl fun v F1 H1 fh r k => ?_))
        cases r with
        | tup hs rl => exact ⟨_, rfl, ⟨_, same_t fh hs⟩, k _ (it_tup hs rl)⟩
      | str z =>
        refine .inr (.inr (use (one hd) rfl fun v F1 H1 fh r k => ?_))
        cases r
        exact ⟨z, rfl, k _ it_str⟩
      | _ => exact (bad rfl).elim

/-! ### enumerate -/
def enumL : Nat → List Py → List Py
  | _, [] => []
  | n, d :: ds => .tup [.int n, d] :: enumL (n + 1) ds
theorem enumL_len : ∀ (n : Nat) (l : List Py), (enumL n l).length = l.length
  | _, [] => rfl
  | n, _ :: ds => by
    show (enumL (n + 1) ds).length + 1 = ds.length + 1
    rw [enumL_len (n + 1) ds]
theorem enumL_get : ∀ (n : Nat) (l : List Py) (i : Nat) (d : Py), (enumL n l)[i]? = some d → ∃ e, l[i]? = some e ∧ d = .tup [.int ((n + i : Nat) : Int), e]
  | _, [], _, _, h => by cases h
  | n, e :: _, 0, _, h => ⟨e, rfl, (Option.some.inj h).symm⟩
  | n, _ :: ds, i + 1, d, h => by
    obtain ⟨e, h1, h2⟩ := enumL_get (n + 1) ds i d h
    exact ⟨e, h1, by rw [h2, show n + 1 + i = n + (i + 1) by omega]⟩
def AR.thenI (x : AR) (k : List Rv → Rho → IR) : IR := match x with
  | .ok rs ρ => k rs ρ
  | .ex c w ρ => .ex c w ρ
  | .st => .st
theorem sai_then {ta : TA} {m : MA} (h : SA T W ta m) (I : En T F σ ρ H) {R : It → Hp → Prop} {k : List Rv → Rho → IR} {Q' : List V → Hp → Prop} (q : IPost T W F H σ ρ R ((m ρ).thenI k))
    (next : ∀ vs rs ρ1 F1 H1, m ρ = .ok rs ρ1 → Fr F H σ ρ F1 H1 σ ρ1 → En T F1 σ ρ1 H1 → RSL T F1 σ vs rs → IPost T W F H σ ρ R (k rs ρ1) → Q' vs H1) : ta σ H Q' := by
  refine h F H σ ρ Q' I ?_
  cases e : m ρ with
  | st => rw [e] at q; exact q
  | ex c w ρ' => rw [e] at q; exact q
  | ok rs ρ1 =>
    rw [e] at q
    exact fun vs F1 H1 f I1 s => next vs rs ρ1 F1 H1 e f I1 s q
/-- an iterator over data that stay -/
def iOf (f : List Py → Option (List Py)) (m : MA) : MI := fun ρ => (m ρ).thenI fun rs ρ1 => match dats ρ1 rs with
  | some ds => (match f ds with
    | some items => .ok items (frz ρ1 rs)
    | none => .st)
  | none => .st
def RIok (T : Tb) (r : List V → Hp → (It → Hp → Prop) → Prop) (f : List Py → Option (List Py)) : Prop := ∀ (F H : Hp) (vs : List V) (ds items : List Py) (R : It → Hp → Prop), Same F H → RepL T F vs ds → f ds = some items → (∀ J, ItOk T J F items → R J H) → r vs H R
theorem si_of {r : List V → Hp → (It → Hp → Prop) → Prop} {f : List Py → Option (List Py)} {ta : TA} {m : MA} (hr : RIok T r f) (h : SA T W ta m) : SI T W (fun σ H R => ta σ H fun vs H1 => r vs H1 R) (iOf f m) := fun F H σ ρ R I q => by
  refine sai_then h I q fun vs rs ρ1 F1 H1 hm f1 I1 s1 q1 => ?_
  cases hd : dats ρ1 rs with
  | none => rw [hd] at q1; exact q1.elim
  | some ds =>
    rw [hd] at q1
    cases hi : f ds with
    | none => simp only [hi] at q1; exact q1.elim
    | some items =>
      simp only [hi] at q1
      obtain ⟨F2, f2, I2, r2⟩ := frz_all I1 s1 hd
      exact hr F2 H1 vs ds items R I2.fh r2 hi fun J ok => q1 J F2 H1 (f1.trans f2) I2 ok
def fEnum : List Py → Option (List Py)
  | [.lst l] => some (enumL 0 l)
  | [.scr l] => some (enumL 0 l)
  | [.tup l] => some (enumL 0 l)
  | _ => none
def rEnum (K : PySem.W.Frag) : List V → Hp → (It → Hp → Prop) → Prop := fun vs H R => (∃ a xs, vs = [.ref a] ∧ SqL K H a xs ∧ R (Ite K a) H) ∨ ∃ a xs, vs = [.ref a] ∧ SqT K H a xs ∧ R (Iet K a) H
def iEn (K : PySem.W.Frag) (ta : TA) : TI := fun σ H R => ta σ H fun vs H1 => rEnum K vs H1 R
theorem pa_or {X : Cx} {es : List Expr} {t : TA} (h : PA X es t) : PA X es t := h
theorem pi_en {X : Cx} {e : Expr} {ta : TA} {p pos tpos : Pos} {es : List Expr} {kk : Nat} (hg : Gl X "enumerate") (hm : X.mg "enumerate" = none) (ha : PA X [e] ta) (hs : starEach [e] X.env = [(false, eval e X.env)] := by rfl) :
    PI X (.Tuple es kk tpos) (.Call (.Name "enumerate" p) [e] [] pos) (iEn X.K ta) := ⟨fun pins s σ H R I h => by
  refine Call_ (ld_blt I hg hm boot_enumerate (PyProof.Rows.callWith_type1 (thn (ha.run pos pins s σ H _ I h) fun us s1 ⟨vs, H1, I1, r1, q1⟩ => ?_) hs rfl))
  rcases q1 with ⟨a, xs, ex, hq, q⟩ | ⟨a, xs, ex, hq, q⟩
  · subst ex
    cases r1 with
    | cons r rr =>
      cases rr
      cases r
      obtain ⟨its, rv, p', hz⟩ := I1.list hq
      refine call_enumerate_list p'.isList fun h' he hit hsz hk => wpAny_pyIter_enum he ?_
      have I2 : Inv X pins σ H1 { s1 with heap := h' } := I1.kept (t' := s1.toks) hk
      refine ⟨s1.heap.objs.size + 1, [s1.heap.objs.size + 1, s1.heap.objs.size], _, _, H1, rfl, I2, turn_enum a (s1.heap.objs.size + 1) s1.heap.objs.size, ⟨⟨.none, he⟩, hit, Nat.succ_ne_self _⟩, fun b hb => ?_, q⟩
      have lb : s1.heap.objs.size ≤ b := by
        rcases List.mem_cons.mp hb with z | z
        · exact z ▸ Nat.le_succ _
        · exact (List.mem_singleton.mp z) ▸ Nat.le_refl _
      exact I1.fpOk lb (I1.hok.fresh lb)
  · subst ex
    cases r1 with
    | cons r rr =>
      cases rr
      cases r
      obtain ⟨its, rv, p', hz⟩ := I1.tuple hq
      have pt : s1.heap.IsTuple a its.toArray := p'
      have la : a < s1.heap.objs.size := pt.elim fun _ q => Heap.lt_size q.1
      refine call_en_tup pt fun h' he hit hk => wpAny_pyIter_enum he ?_
      have I2 : Inv X pins σ H1 { s1 with heap := h' } := I1.kept (t' := s1.toks) hk
      refine ⟨s1.heap.objs.size + 1, [s1.heap.objs.size + 1, s1.heap.objs.size], _, _, H1, rfl, I2, turn_en_tup a (s1.heap.objs.size + 1) s1.heap.objs.size (Nat.ne_of_lt la) (Nat.ne_of_lt (Nat.lt_succ_of_lt la)), ⟨⟨.none, he⟩, hit, Nat.succ_ne_self _⟩, fun b hb => ?_, q⟩
      have lb : s1.heap.objs.size ≤ b := by
        rcases List.mem_cons.mp hb with z | z
        · exact z ▸ Nat.le_succ _
        · exact (List.mem_singleton.mp z) ▸ Nat.le_refl _
      exact I1.fpOk lb (I1.hok.fresh lb)⟩
theorem it_enL {a : Addr} {xs : List V} {l : List Py} (hs : ∀ H1, Same F H1 → SqL T.K H1 a xs) (r : RepL T F xs l) : ItOk T (Ite T.K a) F (enumL 0 l) := fun i F1 H1 e s =>
  ⟨fun d h => by
    obtain ⟨d2, h2, rfl⟩ := enumL_get 0 l i d h
    obtain ⟨v, hv, rv⟩ := r.get h2
    refine ⟨⟨xs, v, hs H1 (e.trans s), hv⟩, fun x H2 y => ?_⟩
    obtain ⟨p, x', rfl, hp, eH, y⟩ := y
    subst eH
    have ex := (y xs (hs _ (e.trans s))).symm.trans hv
    cases ex
    obtain ⟨g, sm⟩ := gr_add (o := .tup [.int (i : Nat), v]) s hp
    refine ⟨_, g, sm, .tup (SqT.of upd_same) (.cons ?_ (.cons ((rv.mono e).mono g.ex) .nil))⟩
    rw [Nat.zero_add]
    exact .int _, fun hl => ⟨xs, hs H1 (e.trans s), by rw [r.length, ← hl, enumL_len]; exact Nat.le_refl _⟩⟩
theorem it_enT {a : Addr} {xs : List V} {l : List Py} (hs : SqT T.K F a xs) (r : RepL T F xs l) : ItOk T (Iet T.K a) F (enumL 0 l) := fun i F1 H1 e s =>
  ⟨fun d h => by
    obtain ⟨d2, h2, rfl⟩ := enumL_get 0 l i d h
    obtain ⟨v, hv, rv⟩ := r.get h2
    refine ⟨⟨xs, v, same_t (e.trans s) hs, hv⟩, fun x H2 y => ?_⟩
    obtain ⟨p, x', rfl, hp, eH, y⟩ := y
    subst eH
    have ex := (y xs (same_t (e.trans s) hs)).symm.trans hv
    cases ex
    obtain ⟨g, sm⟩ := gr_add (o := .tup [.int (i : Nat), v]) s hp
    refine ⟨_, g, sm, .tup (SqT.of upd_same) (.cons ?_ (.cons ((rv.mono e).mono g.ex) .nil))⟩
    rw [Nat.zero_add]
    exact .int _, fun hl => ⟨xs, same_t (e.trans s) hs, by rw [r.length, ← hl, enumL_len]⟩⟩
theorem ri_enum : RIok T (rEnum T.K) fEnum := fun F H vs ds items R fh r hf k => by
  match ds, r, hf with
  | [d], .cons r .nil, hf =>
    cases d <;> try (cases hf; done)
    · cases hf
      cases r with
      | tup hs rl => exact .inr ⟨_, _, rfl, same_t fh hs, k _ (it_enT hs rl)⟩
    · cases hf
      cases r with
      | lst hs rl => exact .inl ⟨_, _, rfl, SqL.of (fh _ _ hs), k _ (it_enL (fun H2 s2 => SqL.of (s2 _ _ hs)) rl)⟩
    · cases hf
      cases r with
      | scr hs rl => exact .inl ⟨_, _, rfl, fh.seq hs, k _ (it_enL (fun H2 s2 => s2.seq hs) rl)⟩
  | [], _, hf => cases hf
  | d :: _ :: _, _, hf => cases d <;> cases hf
theorem si_enum {ta : TA} {m : MA} (h : SA T W ta m) : SI T W (iEn T.K ta) (iOf fEnum m) := si_of ri_enum h

/-! ### range -/
def rangeL (lo : Int) : Nat → List Py
  | 0 => []
  | n + 1 => .int lo :: rangeL (lo + 1) n
theorem rangeL_len : ∀ (lo : Int) (n : Nat), (rangeL lo n).length = n
  | _, 0 => rfl
  | lo, n + 1 => by
    show (rangeL (lo + 1) n).length + 1 = n + 1
    rw [rangeL_len (lo + 1) n]
theorem rangeL_get : ∀ (lo : Int) (n i : Nat) (d : Py), (rangeL lo n)[i]? = some d → i < n ∧ d = .int (lo + i)
  | _, 0, _, _, h => by cases h
  | lo, n + 1, 0, _, h => ⟨by omega, by rw [← Option.some.inj h]; simp⟩
  | lo, n + 1, i + 1, d, h => by
    obtain ⟨h1, h2⟩ := rangeL_get (lo + 1) n i d h
    exact ⟨by omega, by rw [h2]; congr 1; omega⟩
theorem it_range {lo : Int} {n : Nat} : ItOk T (Itr lo n) F (rangeL lo n) := fun i F1 H1 e s =>
  ⟨fun d h => by
    obtain ⟨hi, rfl⟩ := rangeL_get lo n i d h
    refine ⟨hi, fun x H2 y => ?_⟩
    obtain ⟨eH, ex⟩ := y
    subst eH ex
    exact ⟨F1, Gr.refl, s, .int _⟩, fun hl => by
    rw [rangeL_len] at hl
    exact Nat.le_of_eq hl⟩
def cRg (i : Int) : Bool := decide (-(2 ^ 62) ≤ i) && decide (i < 2 ^ 62)
theorem cRg_ok {i : Int} (h : cRg i = true) : -(2 ^ 62) ≤ i ∧ i < 2 ^ 62 := by
  have := Bool.and_eq_true_iff.mp h
  exact ⟨of_decide_eq_true this.1, of_decide_eq_true this.2⟩
def fRange1 : List Py → Option (List Py)
  | [.int j] => if cRg j = true then some (rangeL 0 j.toNat) else none
  | _ => none
def fRange2 : List Py → Option (List Py)
  | [.int i, .int j] => if (cRg i && cRg j) = true then some (rangeL i (j - i).toNat) else none
  | _ => none
def rRg1 : List V → Hp → (It → Hp → Prop) → Prop := fun vs H1 R => ∃ j : Int, vs = [.int j] ∧ -(2 ^ 62) ≤ j ∧ j < 2 ^ 62 ∧ R (Itr 0 j.toNat) H1
def rRg2 : List V → Hp → (It → Hp → Prop) → Prop := fun vs H1 R => ∃ i j : Int, vs = [.int i, .int j] ∧ (-(2 ^ 62) ≤ i ∧ i < 2 ^ 62 ∧ -(2 ^ 62) ≤ j ∧ j < 2 ^ 62) ∧ R (Itr i (j - i).toNat) H1
theorem ri_range1 : RIok T rRg1 fRange1 := fun F H vs ds items R fh r hf k => by
  match ds, r, hf with
  | [d], .cons r .nil, hf =>
    cases d <;> try (cases hf; done)
    rename_i j
    cases r
    have hf : (if cRg j = true then some (rangeL 0 j.toNat) else none) = some items := hf
    by_cases h : cRg j = true
    · rw [if_pos h] at hf
      cases hf
      exact ⟨j, rfl, (cRg_ok h).1, (cRg_ok h).2, k _ it_range⟩
    · rw [if_neg h] at hf; cases hf
  | [], _, hf => cases hf
  | d :: _ :: _, _, hf => cases d <;> cases hf
theorem ri_range2 : RIok T rRg2 fRange2 := fun F H vs ds items R fh r hf k => by
  match ds, r, hf with
  | [d, e], .cons r (.cons r2 .nil), hf =>
    cases d <;> cases e <;> try (cases hf; done)
    rename_i i j
    cases r
    cases r2
    have hf : (if (cRg i && cRg j) = true then some (rangeL i (j - i).toNat) else none) = some items := hf
    by_cases h : (cRg i && cRg j) = true
    · rw [if_pos h] at hf
      cases hf
      have h' := Bool.and_eq_true_iff.mp h
      exact ⟨i, j, rfl, ⟨(cRg_ok h'.1).1, (cRg_ok h'.1).2, (cRg_ok h'.2).1, (cRg_ok h'.2).2⟩, k _ it_range⟩
    · rw [if_neg h] at hf; cases hf
  | [], _, hf => cases hf
  | [d], _, hf => cases d <;> cases hf
  | d :: e :: _ :: _, _, hf => cases d <;> cases e <;> cases hf
theorem si_range1 {ta : TA} {m : MA} (h : SA T W ta m) : SI T W (iRng1 ta) (iOf fRange1 m) := si_of (r := rRg1) ri_range1 h
theorem si_range2 {ta : TA} {m : MA} (h : SA T W ta m) : SI T W (iRng2 ta) (iOf fRange2 m) := si_of (r := rRg2) ri_range2 h

/-! ### for -/
def forM (mg : Py → Rho → Option Rho) (mb : MS) : List Py → MS
  | [], ρ => .nx ρ
  | d :: ds, ρ => match mg d ρ with
    | none => .st
    | some ρ1 => match mb ρ1 with
      | .nx ρ2 => forM mg mb ds ρ2
      | .ct ρ2 => forM mg mb ds ρ2
      | .bk ρ2 => .nx ρ2
      | x => x
def mFor (mi : MI) (mg : Py → Rho → Option Rho) (mb : MS) : MS := fun ρ => match mi ρ with
  | .ok items ρ1 => forM mg mb items ρ1
  | .ex c w ρ1 => .ex c w ρ1
  | .st => .st
theorem ss_for {wi : TI} {g : TG} {tb : TS} {mi : MI} {mg : Py → Rho → Option Rho} {mb : MS} (hi : SI T W wi mi) (hg : SG T g mg) (hb : SS T W tb mb) : SS T W (tFor wi g tb) (mFor mi mg mb) := fun F H σ ρ D I q => by
  refine hi F H σ ρ _ I ?_
  unfold mFor at q
  cases e : mi ρ with
  | st => rw [e] at q; exact q
  | ex c w ρ' =>
    rw [e] at q
    exact fun d v F' H' f I rr hd hn hF => q d v σ F' H' f I rr hd hn hF
  | ok items ρ1 =>
    rw [e] at q
    intro J F1 H1 f1 I1 ok
    refine ⟨fun i m σ' H' => m = items.length - i ∧ i ≤ items.length ∧ ∃ F' ρ', En T F' σ' ρ' H' ∧ Same F1 F' ∧ SPost T W F' H' σ' ρ' D (forM mg mb (items.drop i) ρ'), ⟨items.length, by omega, by omega, F1, ρ1, I1, Same.refl _, SPost.fr f1 q⟩, ?_⟩
    rintro i m σ' H' ⟨rfl, hi, F', ρ', I', e', q'⟩
    by_cases hl : i < items.length
    · refine .inr ?_
      have hd : items[i]? = some items[i] := List.getElem?_eq_getElem hl
      have dr : items.drop i = items[i] :: items.drop (i + 1) := List.drop_eq_getElem_cons hl
      rw [dr] at q'
      obtain ⟨go, yl⟩ := (ok i F' H' e' I'.fh).1 _ hd
      refine ⟨go, fun σ2 H2 => ∃ F2 ρ2, En T F2 σ2 ρ2 H2 ∧ Same F1 F2 ∧ SPost T W F2 H2 σ2 ρ2 D (forM mg mb (items.drop (i + 1)) ρ2), fun σ2 H2 h => ⟨items.length - (i + 1), by omega, rfl, hl, h⟩, fun x H2 y => ?_⟩
      obtain ⟨F2, g2, s2, r2⟩ := yl x H2 y
      have I2 := I'.gr g2 s2
      have q2 : SPost T W F2 H2 σ' ρ' D (match mg items[i] ρ' with
        | none => .st
        | some ρ1 => match mb ρ1 with
          | .nx ρ2 => forM mg mb (items.drop (i + 1)) ρ2
          | .ct ρ2 => forM mg mb (items.drop (i + 1)) ρ2
          | .bk ρ2 => .nx ρ2
          | x => x) := SPost.fr g2.fr q'
      cases hgm : mg items[i] ρ' with
      | none => rw [hgm] at q2; exact q2.elim
      | some ρ3 =>
        rw [hgm] at q2
        refine hg F2 H2 σ' ρ' x _ ρ3 _ I2 r2 hgm fun σ3 F3 H3 f3 I3 => ?_
        have q3 := SPost.fr f3 q2
        refine hb F3 H3 σ3 ρ3 _ I3 ?_
        cases hbm : mb ρ3 with
        | st => simp only [hbm] at q3; exact q3
        | ex c w ρ4 => simp only [hbm] at q3; exact q3
        | rt r ρ4 => simp only [hbm] at q3; exact q3
        | bk ρ4 => simp only [hbm] at q3; exact q3
        | nx ρ4 =>
          simp only [hbm] at q3
          exact fun σ4 F4 H4 f4 I4 => ⟨F4, ρ4, I4, ((e'.trans g2.ex).trans f3.ex).trans f4.ex, SPost.fr f4 q3⟩
        | ct ρ4 =>
          simp only [hbm] at q3
          exact fun σ4 F4 H4 f4 I4 => ⟨F4, ρ4, I4, ((e'.trans g2.ex).trans f3.ex).trans f4.ex, SPost.fr f4 q3⟩
    · refine .inl ⟨(ok i F' H' e' I'.fh).2 (by omega), ?_⟩
      rw [List.drop_eq_nil_of_le (by omega)] at q'
      exact q' σ' F' H' Fr.refl I'

/-! ### while -/
def whileM (mt : ME) (mb : MS) : Nat → MS
  | 0, _ => .st
  | n + 1, ρ => (mt ρ).then fun r ρ1 => match r with
    | .im (.bl b) => if b = true then (match mb ρ1 with
      | .nx ρ2 => whileM mt mb n ρ2
      | .ct ρ2 => whileM mt mb n ρ2
      | .bk ρ2 => .nx ρ2
      | x => x) else .nx ρ1
    | _ => .st
theorem ss_while {tt : TT} {tb : TS} {mt : ME} {mb : MS} (n : Nat) (ht : ST T W tt mt) (hb : SS T W tb mb) : SS T W (tWhile tt tb) (whileM mt mb n) := fun F H σ ρ D I q => by
  refine ⟨fun m σ' H' => ∃ F' ρ', En T F' σ' ρ' H' ∧ SPost T W F' H' σ' ρ' D (whileM mt mb m ρ'), ⟨n, F, ρ, I, q⟩, ?_⟩
  rintro m σ' H' ⟨F', ρ', I', q'⟩
  cases m with
  | zero => exact q'.elim
  | succ m =>
    refine stt_then ht I' q' (fun r ρ1 hn => noBl r hn) fun b ρ1 F1 H1 f1 I1 q1 => ?_
    cases b with
    | false => exact q1 σ' F1 H1 Fr.refl I1
    | true =>
      refine ⟨fun σ2 H2 => ∃ F2 ρ2, En T F2 σ2 ρ2 H2 ∧ SPost T W F2 H2 σ2 ρ2 D (whileM mt mb m ρ2), fun σ2 H2 h => ⟨m, by omega, h⟩, ?_⟩
      have q2 : SPost T W F1 H1 σ' ρ1 D (match mb ρ1 with
        | .nx ρ2 => whileM mt mb m ρ2
        | .ct ρ2 => whileM mt mb m ρ2
        | .bk ρ2 => .nx ρ2
        | x => x) := q1
      refine hb F1 H1 σ' ρ1 _ I1 ?_
      cases hbm : mb ρ1 with
      | st => rw [hbm] at q2; exact q2
      | ex c w ρ4 => rw [hbm] at q2; exact q2
      | rt r ρ4 => rw [hbm] at q2; exact q2
      | bk ρ4 => rw [hbm] at q2; exact q2
      | nx ρ4 =>
        rw [hbm] at q2
        exact fun σ4 F4 H4 f4 I4 => ⟨F4, ρ4, I4, SPost.fr f4 q2⟩
      | ct ρ4 =>
        rw [hbm] at q2
        exact fun σ4 F4 H4 f4 I4 => ⟨F4, ρ4, I4, SPost.fr f4 q2⟩
end
end Mr
namespace Mr
open PySem PySem.Spec PyProof.Rows L2
section
variable {T : Tb} {W : Wx} {F F1 F2 F0 H H0 H1 H2 : Hp} {σ σ0 σ1 σ2 : L2.St} {ρ ρ0 ρ1 ρ2 ρe : Rho} {D : Ends} {v : V}
variable [NoSg T]
/-! ### the names of a comprehension -/
def wipeR : Rho → List Nat → Rho
  | ρ, [] => ρ
  | ρ, i :: vs => (wipeR ρ vs).set i .no
def Sl.free : Sl → Bool
  | .no => true
  | .im io _ => !io
  | .ow _ _ => false
def wipeOk (ρ : Rho) (vs : List Nat) : Bool := vs.all fun i => match ρ[i]? with
  | some s => s.free
  | none => false
theorem free_io {s : Sl} (h : s.free = true) : s.isIo = false := by
  cases s with
  | no => rfl
  | im io _ => exact (by simpa [Sl.free] using h : io = false)
  | ow _ _ => cases h
theorem ne_mem {i j : Nat} {vs : List Nat} (h : i ∉ j :: vs) : j ≠ i := fun z => h (by rw [z]; exact List.mem_cons_self)
theorem wipeR_len : ∀ {vs : List Nat}, (wipeR ρ vs).length = ρ.length
  | [] => rfl
  | i :: vs => by
    show ((wipeR ρ vs).set i .no).length = ρ.length
    rw [List.length_set, wipeR_len]
theorem wipeR_get : ∀ {vs : List Nat} {i : Nat}, i ∉ vs → (wipeR ρ vs)[i]? = ρ[i]?
  | [], _, _ => rfl
  | j :: vs, i, h => by
    show ((wipeR ρ vs).set j .no)[i]? = ρ[i]?
    rw [List.getElem?_set_ne (ne_mem h), wipeR_get fun z => h (List.mem_cons_of_mem _ z)]
theorem wipeR_in : ∀ {vs : List Nat} {i : Nat} {s : Sl}, i ∈ vs → (wipeR ρ vs)[i]? = some s → s = .no
  | j :: vs, i, s, h, e => by
    have e : ((wipeR ρ vs).set j .no)[i]? = some s := e
    rcases get_set_eq e with ⟨_, z⟩ | ⟨hk, e⟩
    · exact z
    · rcases List.mem_cons.mp h with z | z
      · exact absurd z.symm hk
      · exact wipeR_in z e
theorem wipe_get : ∀ {vs : List Nat} {i : Nat}, i ∉ vs → (wipe σ vs)[i]? = σ[i]?
  | [], _, _ => rfl
  | j :: vs, i, h => by
    show ((wipe σ vs).set j none)[i]? = σ[i]?
    rw [List.getElem?_set_ne (ne_mem h), wipe_get fun z => h (List.mem_cons_of_mem _ z)]
theorem wipe_in : ∀ {vs : List Nat} {i : Nat}, i ∈ vs → i < σ.length → (wipe σ vs)[i]? = some none
  | j :: vs, i, h, l => by
    show ((wipe σ vs).set j none)[i]? = some none
    by_cases hk : j = i
    · subst hk
      exact List.getElem?_set_self (by rw [wipe_length]; exact l)
    · rw [List.getElem?_set_ne hk]
      rcases List.mem_cons.mp h with z | z
      · exact absurd z.symm hk
      · exact wipe_in z l
/-- two rows of slots that agree but at vs are alike wiped -/
theorem wipe_ext {vs : List Nat} (hl : σ1.length = σ2.length) (h : ∀ i, i ∉ vs → σ1[i]? = σ2[i]?) : wipe σ1 vs = wipe σ2 vs := by
  apply List.ext_getElem?
  intro i
  by_cases hi : i ∈ vs
  · by_cases hli : i < σ1.length
    · rw [wipe_in hi hli, wipe_in hi (hl ▸ hli)]
    · rw [List.getElem?_eq_none (by rw [wipe_length]; omega), List.getElem?_eq_none (by rw [wipe_length]; omega)]
  · rw [wipe_get hi, wipe_get hi]
    exact h i hi
theorem wipe_set {vs : List Nat} {i : Nat} {x : Option V} (hi : i ∈ vs) : wipe (σ.set i x) vs = wipe σ vs :=
  wipe_ext (by rw [List.length_set]) fun j hj => by rw [List.getElem?_set_ne (fun z : i = j => hj (z ▸ hi))]
theorem wipe_wipe {vs : List Nat} : wipe (wipe σ vs) vs = wipe σ vs :=
  wipe_ext (by rw [wipe_length]) fun j hj => wipe_get hj
theorem wipeOk_at {vs : List Nat} (h : wipeOk ρ vs = true) {i : Nat} (hi : i ∈ vs) : ∃ s, ρ[i]? = some s ∧ s.free = true := by
  have q := List.all_eq_true.mp h i hi
  cases e : ρ[i]? with
  | none => rw [e] at q; cases q
  | some s => rw [e] at q; exact ⟨s, rfl, q⟩
theorem wipe_en {vs : List Nat} (I : En T F σ ρ H) (h : wipeOk ρ vs = true) : Fr F H σ ρ F H (wipe σ vs) (wipeR ρ vs) ∧ En T F (wipe σ vs) (wipeR ρ vs) H := by
  have back : ∀ {i : Nat} {io : Bool} {d : Py}, (wipeR ρ vs)[i]? = some (.ow io d) → i ∉ vs ∧ ρ[i]? = some (.ow io d) := fun {i io d} e => by
    by_cases hi : i ∈ vs
    · cases wipeR_in hi e
    · rw [wipeR_get hi] at e
      exact ⟨hi, e⟩
  have ownb : ∀ io b, OwnF io (wipe σ vs) (wipeR ρ vs) b → OwnF io σ ρ b := fun io b hb => by
    obtain ⟨i, d, e1, e2⟩ := hb
    obtain ⟨hi, e3⟩ := back e1
    rw [wipe_get hi] at e2
    exact ⟨i, d, e3, e2⟩
  refine ⟨⟨Same.refl _, fun _ _ h _ => h, fun _ _ h => .inl h, fun io b h => .inl (ownb io b h), fun _ o h => ⟨o, h⟩, fun i s e k => ?_⟩, ⟨I.fh, by rw [wipe_length, wipeR_len]; exact I.len, fun i s e => ?_, fun a c y z d1 d2 p h1 h2 g1 g2 => ?_, I.lo, fun s z => by rw [NoSg.h] at z; cases z⟩⟩
  · have hi : i ∉ vs := fun hi => by
      obtain ⟨s', e', f'⟩ := wipeOk_at h hi
      rw [e] at e'
      cases e'
      rw [free_io f'] at k
      cases k
    exact ⟨s, by rw [wipeR_get hi]; exact e, k, wipe_get hi⟩
  · by_cases hi : i ∈ vs
    · rw [wipeR_in hi e]
      trivial
    · rw [wipeR_get hi] at e
      have q := I.sl i s e
      cases s with
      | no => trivial
      | im io d =>
        obtain ⟨v, e1, r⟩ := q
        exact ⟨v, by rw [wipe_get hi]; exact e1, r⟩
      | ow io d =>
        obtain ⟨p, e1, r⟩ := q
        exact ⟨p, by rw [wipe_get hi]; exact e1, r⟩
  · obtain ⟨i1, h1⟩ := back h1
    obtain ⟨i2, h2⟩ := back h2
    rw [wipe_get i1] at g1
    rw [wipe_get i2] at g2
    exact I.uniq a c y z d1 d2 p h1 h2 g1 g2
/-- behind the comprehension the names are what they were -/
def restR (ρ1 ρe : Rho) : List Nat → Rho
  | [] => ρe
  | i :: vs => (restR ρ1 ρe vs).set i ((ρ1[i]?).getD .no)
theorem restR_len : ∀ {vs : List Nat}, (restR ρ1 ρe vs).length = ρe.length
  | [] => rfl
  | i :: vs => by
    show ((restR ρ1 ρe vs).set i _).length = ρe.length
    rw [List.length_set, restR_len]
theorem restR_get : ∀ {vs : List Nat} {i : Nat}, i ∉ vs → (restR ρ1 ρe vs)[i]? = ρe[i]?
  | [], _, _ => rfl
  | j :: vs, i, h => by
    show ((restR ρ1 ρe vs).set j _)[i]? = ρe[i]?
    rw [List.getElem?_set_ne (ne_mem h), restR_get fun z => h (List.mem_cons_of_mem _ z)]
theorem restR_in : ∀ {vs : List Nat} {i : Nat} {s : Sl}, i ∈ vs → (restR ρ1 ρe vs)[i]? = some s → s = (ρ1[i]?).getD .no
  | j :: vs, i, s, h, e => by
    have e : ((restR ρ1 ρe vs).set j ((ρ1[j]?).getD .no))[i]? = some s := e
    rcases get_set_eq e with ⟨hk, z⟩ | ⟨hk, e⟩
    · subst hk; exact z
    · rcases List.mem_cons.mp h with z | z
      · exact absurd z.symm hk
      · exact restR_in z e
theorem rest_en {vs : List Nat} (I1 : En T F1 σ ρ1 H1) (h : wipeOk ρ1 vs = true) (f : Fr F1 H1 σ ρ1 F H (wipe σ vs) ρe) (I : En T F (wipe σ vs) ρe H) : Fr F1 H1 σ ρ1 F H σ (restR ρ1 ρe vs) ∧ En T F σ (restR ρ1 ρe vs) H ∧ ∀ b, Own σ (restR ρ1 ρe vs) b → Own (wipe σ vs) ρe b := by
  have back : ∀ {i : Nat} {io : Bool} {d : Py}, (restR ρ1 ρe vs)[i]? = some (.ow io d) → i ∉ vs ∧ ρe[i]? = some (.ow io d) := fun {i io d} e => by
    by_cases hi : i ∈ vs
    · have q := restR_in hi e
      obtain ⟨s, e1, fr⟩ := wipeOk_at h hi
      rw [e1] at q
      have q : Sl.ow io d = s := q
      subst q
      cases fr
    · rw [restR_get hi] at e
      exact ⟨hi, e⟩
  have ownb : ∀ io b, OwnF io σ (restR ρ1 ρe vs) b → OwnF io (wipe σ vs) ρe b := fun io b hb => by
    obtain ⟨i, d, e1, e2⟩ := hb
    obtain ⟨hi, e3⟩ := back e1
    exact ⟨i, d, e3, by rw [wipe_get hi]; exact e2⟩
  have len : σ.length = ρe.length := by rw [← I.len, wipe_length]
  refine ⟨⟨f.ex, f.keep, f.new, fun io b hb => f.own io b (ownb io b hb), f.there, fun i s e k => ?_⟩, ⟨I.fh, by rw [restR_len]; exact len, fun i s e => ?_, fun a c y z d1 d2 p h1 h2 g1 g2 => ?_, I.lo, fun s z => by rw [NoSg.h] at z; cases z⟩, fun b hb => hb.mark.elim fun io h => (ownb io b h).any⟩
  · have hi : i ∉ vs := fun hi => by
      obtain ⟨s', e', f'⟩ := wipeOk_at h hi
      rw [e] at e'
      cases e'
      rw [free_io f'] at k
      cases k
    obtain ⟨s', e', k', _⟩ := f.io i s e k
    exact ⟨s', by rw [restR_get hi]; exact e', k', rfl⟩
  · by_cases hi : i ∈ vs
    · have q := restR_in hi e
      obtain ⟨s1, e1, fr⟩ := wipeOk_at h hi
      rw [e1] at q
      have q : s = s1 := q
      subst q
      have k := I1.sl i s e1
      cases s with
      | no => trivial
      | im io d =>
        obtain ⟨v, e2, r⟩ := k
        exact ⟨v, e2, r.mono f.ex⟩
      | ow io d => cases fr
    · rw [restR_get hi] at e
      have q := I.sl i s e
      cases s with
      | no => trivial
      | im io d =>
        obtain ⟨v, e1, r⟩ := q
        exact ⟨v, by rw [wipe_get hi] at e1; exact e1, r⟩
      | ow io d =>
        obtain ⟨p, e1, r⟩ := q
        exact ⟨p, by rw [wipe_get hi] at e1; exact e1, r⟩
  · obtain ⟨i1, h1⟩ := back h1
    obtain ⟨i2, h2⟩ := back h2
    exact I.uniq a c y z d1 d2 p h1 h2 (by rw [wipe_get i1]; exact g1) (by rw [wipe_get i2]; exact g2)

/-! ### a list that is made beside the slots -/
theorem Fr.updD {p : Addr} {o : HO} (f : Fr F1 H1 σ1 ρ1 F H σ ρ) (n : H1 p = Option.none) : Fr F1 H1 σ1 ρ1 F (upd H p o) σ ρ where
  ex := f.ex
  keep := fun b u h no => by rw [upd_ne (ne_of_none h n)]; exact f.keep b u h no
  new := f.new
  own := f.own
  there := fun b u h => by
    rw [upd_ne (ne_of_none h n)]
    exact f.there b u h
  io := f.io
theorem En.updD {p : Addr} {o : HO} (I : En T F σ ρ H) (n : F p = none) (no : ¬ Own σ ρ p) : En T F σ ρ (upd H p o) where
  lo := I.lo
  sg := I.sg
  fh := fun c u h => by rw [upd_ne (ne_of_none h n)]; exact I.fh c u h
  len := I.len
  sl := fun i s h => by
    have q := I.sl i s h
    cases s with
    | no => trivial
    | im io d => exact q
    | ow io d =>
      obtain ⟨a, e, nF, b⟩ := q
      refine ⟨a, e, nF, b.mono (Same.refl _) fun u z => ?_⟩
      rw [upd_ne]
      · exact z
      · intro w
        subst w
        exact no ⟨i, io, d, h, e⟩
  uniq := I.uniq
/-- an address beside the slots stays so -/
structure Bes (F H : Hp) (σ : L2.St) (ρ : Rho) (p : Addr) : Prop where
  nF : F p = none
  no : ¬ Own σ ρ p
theorem Bes.fr {p : Addr} {o : HO} (b : Bes F H σ ρ p) (hp : H p = some o) (f : Fr F H σ ρ F1 H1 σ1 ρ1) : Bes F1 H1 σ1 ρ1 p ∧ H1 p = some o := by
  refine ⟨⟨?_, fun w => ?_⟩, f.keep p o hp b.no⟩
  · cases z : F1 p with
    | none => rfl
    | some u =>
      rcases f.new p u z with y | y | y
      · rw [b.nF] at y; cases y
      · rw [hp] at y; cases y
      · exact absurd y b.no
  · rcases f.ownA p w with y | y
    · exact b.no y
    · rw [hp] at y; cases y

/-! ### comprehensions -/
/-- a target that stores at vs alone -/
def SGc (T : Tb) (vs : List Nat) (g : TG) (mg : Py → Rho → Option Rho) : Prop := ∀ (F H : Hp) (σ : L2.St) (ρ : Rho) (v : V) (d : Py) (ρ' : Rho) (Q : L2.St → Hp → Prop), En T F σ ρ H → Rep T F v d → mg d ρ = some ρ' →
  (∀ σ', wipe σ' vs = wipe σ vs → Fr F H σ ρ F H σ' ρ' → En T F σ' ρ' H → Q σ' H) → g v σ H Q
def SGcs (T : Tb) (vs : List Nat) (g : TGs) (mg : List Py → Rho → Option Rho) : Prop := ∀ (F H : Hp) (σ : L2.St) (ρ : Rho) (xs : List V) (ds : List Py) (ρ' : Rho) (Q : L2.St → Hp → Prop), En T F σ ρ H → RepL T F xs ds → mg ds ρ = some ρ' →
  (∀ σ', wipe σ' vs = wipe σ vs → Fr F H σ ρ F H σ' ρ' → En T F σ' ρ' H → Q σ' H) → g xs σ H Q
theorem sgc_name {vs : List Nat} (i : Nat) (hi : i ∈ vs) : SGc T vs (gName i) (gN i) := fun F H σ ρ v d ρ' Q I r e q => by
  obtain ⟨old, e0, hio, _, hl⟩ := setSl_some e
  obtain ⟨f2, I2⟩ := set_im (x := some v) (by intro _ _ z; cases z) I e (slOk_im (by rw [I.len]; exact hl) r)
  exact q _ (wipe_set hi) f2 I2
theorem sgcs_nil {vs : List Nat} : SGcs T vs gNil gs0 := fun F H σ ρ xs ds ρ' Q I r e q => by
  cases r with
  | nil =>
    cases e
    exact ⟨rfl, q σ rfl Fr.refl I⟩
  | cons _ _ => cases e
theorem sgcs_cons {vs : List Nat} {g : TG} {u : TGs} {mg : Py → Rho → Option Rho} {mu : List Py → Rho → Option Rho} (h : SGc T vs g mg) (k : SGcs T vs u mu) : SGcs T vs (gCons g u) (gs1 mg mu) := fun F H σ ρ xs ds ρ' Q I r e q => by
  cases r with
  | nil => cases e
  | cons r1 rr =>
    rename_i v xs d ds
    have e : (match mg d ρ with | some ρ1 => mu ds ρ1 | none => none) = some ρ' := e
    cases e1 : mg d ρ with
    | none => rw [e1] at e; cases e
    | some ρ1 =>
      rw [e1] at e
      exact ⟨v, xs, rfl, h F H σ ρ v d ρ1 _ I r1 e1 fun σ1 w1 f1 I1 => k F H σ1 ρ1 xs ds ρ' Q I1 rr e fun σ2 w2 f2 I2 => q σ2 (w2.trans w1) (f1.trans f2) I2⟩
theorem sgc_tup {vs : List Nat} {n : Nat} {g : TGs} {mg : List Py → Rho → Option Rho} (h : SGcs T vs g mg) : SGc T vs (gTup T.K n g) (gT n mg) := fun F H σ ρ v d ρ' Q I r e q => by
  cases d <;> try (cases e; done)
  rename_i l
  have e : (if l.length = n then mg l ρ else none) = some ρ' := e
  by_cases hn : l.length = n
  · rw [if_pos hn] at e
    obtain ⟨a, xs, rfl, hs, rl, _⟩ := Pk.tup I.fh (Or.inl r)
    exact ⟨a, xs, rfl, hs, by rw [rl.length]; exact hn, h F H σ ρ xs l ρ' Q I rl e q⟩
  · rw [if_neg hn] at e; cases e
/-- nothing is raised within a comprehension -/
abbrev W0 : Wx := fun _ _ _ _ => False
def Rv.bl? : Rv → Option Bool
  | .im (.bl b) => some b
  | _ => none
theorem Rv.bl_eq {r : Rv} {b : Bool} (h : r.bl? = some b) : r = .im (.bl b) := by
  cases r with
  | fr _ => cases h
  | bo _ => cases h
  | im d => cases d <;> first | (cases h; done) | (rw [Option.some.inj h])
def lcM (vs : List Nat) (mg : Py → Rho → Option Rho) (mt me : ME) : List Py → List Py → Rho → Option (List Py × Rho)
  | [], acc, ρ => some (acc, ρ)
  | d :: ds, acc, ρ => match mg d ρ with
    | none => none
    | some ρ1 => match mt ρ1 with
      | .ok b ρ2 => (match b.bl? with
        | some true => (match me ρ2 with
          | .ok r ρ3 => (match dat ρ3 r with
            | some e => if (wipeOk (frzR ρ3 r) vs && decide (acc.length < sizeLine)) = true then lcM vs mg mt me ds (acc ++ [e]) (wipeR (frzR ρ3 r) vs) else none
            | none => none)
          | _ => none)
        | some false => if wipeOk ρ2 vs = true then lcM vs mg mt me ds acc (wipeR ρ2 vs) else none
        | none => none)
      | _ => none
def mLc (vs : List Nat) (mi : MI) (mg : Py → Rho → Option Rho) (mt me : ME) : ME := fun ρ => match mi ρ with
  | .ok items ρ1 => if wipeOk ρ1 vs = true then (match lcM vs mg mt me items [] (wipeR ρ1 vs) with
    | some (acc, ρe) => .ok (.fr (.lst acc)) (restR ρ1 ρe vs)
    | none => .st) else .st
  | .ex c w ρ1 => .ex c w ρ1
  | .st => .st
theorem se_lc {wi : TI} {g : TG} {tt : TT} {te : TE} {vs : List Nat} {mi : MI} {mg : Py → Rho → Option Rho} {mt me : ME} (hi : SI T W wi mi) (hg : SGc T vs g mg) (ht : ST T W0 tt mt) (he : SE T W0 te me) : SE T W (tLc wi g tt te vs) (mLc vs mi mg mt me) := fun F H σ ρ Q I q => by
  refine hi F H σ ρ _ I ?_
  unfold mLc at q
  cases e : mi ρ with
  | st => rw [e] at q; exact q
  | ex c w ρ' => rw [e] at q; exact q
  | ok items ρ1 =>
    rw [e] at q
    have q : EPost T W F H σ ρ Q (if wipeOk ρ1 vs = true then (match lcM vs mg mt me items [] (wipeR ρ1 vs) with | some (acc, ρe) => .ok (.fr (.lst acc)) (restR ρ1 ρe vs) | none => .st) else .st) := q
    by_cases hw : wipeOk ρ1 vs = true
    · rw [if_pos hw] at q
      cases hlc : lcM vs mg mt me items [] (wipeR ρ1 vs) with
      | none => rw [hlc] at q; exact q.elim
      | some ae =>
        obtain ⟨accE, ρe⟩ := ae
        rw [hlc] at q
        have q : EPost T W F H σ ρ Q (.ok (.fr (.lst accE)) (restR ρ1 ρe vs)) := q
        intro J F1 H1 f1 I1 ok D hD
        obtain ⟨fw, Iw⟩ := wipe_en I1 hw
        have bes0 : Bes F1 H1 (wipe σ vs) (wipeR ρ1 vs) D := ⟨I1.fh.free hD, fun w => by
          obtain ⟨i, io, d, e1, e2⟩ := w
          obtain ⟨p', e3, _, b⟩ := Iw.sl i _ e1
          rw [e2] at e3
          cases e3
          obtain ⟨o, e4⟩ := b.some
          rw [hD] at e4
          cases e4⟩
        refine ⟨fun i m H' => m = items.length - i ∧ i ≤ items.length ∧ ∃ (F' : Hp) (ρ' : Rho) (acc : List Py) (xs : List V), En T F' (wipe σ vs) ρ' H' ∧ Fr F1 H1 σ ρ1 F' H' (wipe σ vs) ρ' ∧ Bes F' H' (wipe σ vs) ρ' D ∧ H' D = some (.lst xs) ∧ RepL T F' xs acc ∧ lcM vs mg mt me (items.drop i) acc ρ' = some (accE, ρe),
          ⟨items.length, by omega, by omega, F1, wipeR ρ1 vs, [], [], Iw.updD bes0.nF bes0.no, fw.updD hD, ⟨bes0.nF, bes0.no⟩, upd_same, .nil, hlc⟩, ?_⟩
        rintro i m H' ⟨rfl, hi, F', ρ', acc, xs, I', f', bs, hx, rx, el⟩
        by_cases hl : i < items.length
        · refine .inr ?_
          have hd : items[i]? = some items[i] := List.getElem?_eq_getElem hl
          rw [List.drop_eq_getElem_cons hl] at el
          obtain ⟨go, yl⟩ := (ok i F' H' f'.ex I'.fh).1 _ hd
          refine ⟨go, fun H2 => ∃ (F' : Hp) (ρ' : Rho) (acc : List Py) (xs : List V), En T F' (wipe σ vs) ρ' H2 ∧ Fr F1 H1 σ ρ1 F' H2 (wipe σ vs) ρ' ∧ Bes F' H2 (wipe σ vs) ρ' D ∧ H2 D = some (.lst xs) ∧ RepL T F' xs acc ∧ lcM vs mg mt me (items.drop (i + 1)) acc ρ' = some (accE, ρe), fun H2 h => ⟨items.length - (i + 1), by omega, rfl, hl, h⟩, fun x H2 y => ?_⟩
          obtain ⟨F2, g2, s2, r2⟩ := yl x H2 y
          have f2 : Fr F' H' (wipe σ vs) ρ' F2 H2 (wipe σ vs) ρ' := g2.fr
          have I2 := I'.gr g2 s2
          obtain ⟨bs2, hx2⟩ := bs.fr hx f2
          have el : (match mg items[i] ρ' with
            | none => none
            | some ρ1 => match mt ρ1 with
              | .ok b ρ2 => (match b.bl? with
                | some true => (match me ρ2 with
                  | .ok r ρ3 => (match dat ρ3 r with
                    | some e => if (wipeOk (frzR ρ3 r) vs && decide (acc.length < sizeLine)) = true then lcM vs mg mt me (items.drop (i + 1)) (acc ++ [e]) (wipeR (frzR ρ3 r) vs) else none
                    | none => none)
                  | _ => none)
                | some false => if wipeOk ρ2 vs = true then lcM vs mg mt me (items.drop (i + 1)) acc (wipeR ρ2 vs) else none
                | none => none)
              | _ => none) = some (accE, ρe) := el
          cases e1 : mg items[i] ρ' with
          | none => rw [e1] at el; cases el
          | some ρ3 =>
            rw [e1] at el
            refine hg F2 H2 (wipe σ vs) ρ' x _ ρ3 _ I2 r2 e1 fun σ3 w3 f3 I3 => ⟨w3.trans wipe_wipe, ?_⟩
            obtain ⟨bs3, hx3⟩ := bs2.fr hx2 f3
            refine ht F2 H2 σ3 ρ3 _ I3 ?_
            cases e2 : mt ρ3 with
            | st => simp only [e2] at el; cases el
            | ex c w ρ4 => simp only [e2] at el; cases el
            | ok b ρ4 =>
              simp only [e2] at el
              cases eb : b.bl? with
              | none => simp only [eb] at el; cases el
              | some bb =>
                have eb2 := Rv.bl_eq eb
                subst eb2
                intro F4 H4 f4 I4
                obtain ⟨bs4, hx4⟩ := bs3.fr hx3 f4
                cases bb with
                | false =>
                  simp only [eb] at el
                  by_cases hw4 : wipeOk ρ4 vs = true
                  · rw [if_pos hw4] at el
                    obtain ⟨fw4, Iw4⟩ := wipe_en I4 hw4
                    rw [w3.trans wipe_wipe] at fw4 Iw4
                    obtain ⟨bs5, hx5⟩ := bs4.fr hx4 fw4
                    exact ⟨F4, _, acc, xs, Iw4, (((f'.trans f2).trans f3).trans f4).trans fw4, bs5, hx5, rx.mono ((f2.ex.trans f3.ex).trans f4.ex), el⟩
                  · rw [if_neg hw4] at el; cases el
                | true =>
                  simp only [eb] at el
                  show te σ3 H4 _
                  refine he F4 H4 σ3 ρ4 _ I4 ?_
                  cases e5 : me ρ4 with
                  | st => simp only [e5] at el; cases el
                  | ex c w ρ5 => simp only [e5] at el; cases el
                  | ok r ρ5 =>
                    simp only [e5] at el
                    cases e6 : dat ρ5 r with
                    | none => simp only [e6] at el; cases el
                    | some ee =>
                      simp only [e6] at el
                      by_cases hw5 : (wipeOk (frzR ρ5 r) vs && decide (acc.length < sizeLine)) = true
                      · rw [if_pos hw5] at el
                        have hw6 := Bool.and_eq_true_iff.mp hw5
                        intro y F5 H5 f5 I5 rr
                        obtain ⟨F6, f6, I6, r6⟩ := frz_one f5 I5 rr e6
                        obtain ⟨bs6, hx6⟩ := bs4.fr hx4 f6
                        obtain ⟨fw6, Iw6⟩ := wipe_en I6 hw6.1
                        rw [w3.trans wipe_wipe] at fw6 Iw6
                        obtain ⟨bs7, hx7⟩ := bs6.fr hx6 fw6
                        exact ⟨xs, hx6, by rw [rx.length]; exact of_decide_eq_true hw6.2, F6, _, acc ++ [ee], xs ++ [y], Iw6.updD bs7.nF bs7.no, (((((f'.trans f2).trans f3).trans f4).trans f6).trans fw6).updD hD, ⟨bs7.nF, bs7.no⟩, upd_same,
                          (rx.mono (((f2.ex.trans f3.ex).trans f4.ex).trans f6.ex)).append (.cons r6 .nil), el⟩
                      · rw [if_neg hw5] at el; cases el
        · refine .inl ⟨(ok i F' H' f'.ex I'.fh).2 (by omega), ?_⟩
          rw [List.drop_eq_nil_of_le (by omega)] at el
          have el : some (acc, ρ') = some (accE, ρe) := el
          cases el
          obtain ⟨fr, Ir, ob⟩ := rest_en I1 hw f' I'
          exact q _ F' H' (f1.trans fr) Ir ⟨D, rfl, bs.nF, ⟨xs, hx, rx⟩, f1.none hD, fun w => bs.no (ob D w)⟩
    · rw [if_neg hw] at q; exact q.elim
theorem st_yes : ST T W tYes (mC (.bl true)) := fun F H σ ρ Q I q => q F H Fr.refl I
end
end Mr
namespace Mr
open PySem PySem.Spec PyProof.Rows L2
section
variable {T : Tb} {W : Wx} {F F1 F2 F0 H H0 H1 H2 : Hp} {σ σ0 σ1 σ2 : L2.St} {ρ ρ0 ρ1 ρ2 ρe : Rho} {D : Ends} {v : V}
variable [NoSg T]
/-! ### a def: its mirror, its promise -/
inductive DR where
  | ok (r : Rv) (os : List Sl)
  | ex (c : Nat) (w : Py) (os : List Sl)
  | st
/-- how many slots, which parameters the asker keeps, the body -/
structure DM where
  n : Nat
  ios : List Bool
  body : MS
def outsOf : List Sl → Rho → List Sl
  | [], _ => []
  | s :: ss, ρ => (if s.isIo = true then (ρ[0]?).getD .no else .no) :: outsOf ss (ρ.drop 1)
def DM.run (m : DM) (as : List Sl) : DR := match m.body (as ++ List.replicate (m.n - as.length) .no) with
  | .nx ρ => .ok (.im .non) (outsOf as ρ)
  | .rt r ρ => (match r with
    | .im d => .ok (.im d) (outsOf as ρ)
    | .fr d => .ok (.fr d) (outsOf as ρ)
    | .bo i => (match ρ[i]? with
      | some (.ow false d) => .ok (.fr d) (outsOf as ρ)
      | some (.ow true d) => .ok (.im d) (outsOf as (ρ.freeze i))
      | some (.im _ d) => .ok (.im d) (outsOf as ρ)
      | _ => .st))
  | .ex c w ρ => .ex c w (outsOf as ρ)
  | _ => .st
def DPost (T : Tb) (F H : Hp) (vs : List V) (as : List Sl) (Q : VK) (E : XK) : DR → Prop
  | .ok r os => (∀ i, r ≠ .bo i) ∧ ∀ v F' H', Fr F H (vs.map some) as F' H' (vs.map some) os → En T F' (vs.map some) os H' → RR T H F' H' (vs.map some) os v r → Q v H'
  | .ex c w os => ∀ d v F' H', Fr F H (vs.map some) as F' H' (vs.map some) os → En T F' (vs.map some) os H' → Rep T F' v w → H' d = some (.xd [("what", v)]) → H d = none → F' d = none → E (.ref (T.cls c)) (some d) H'
  | .st => False
/-- an argument's slot fits its mark: own ones are the asker's -/
def argFit (io : Bool) (s : Sl) : Bool := match s with
  | .no => false
  | .im b _ => b == io
  | .ow b _ => b && io
def argsFit : List Bool → List Sl → Bool
  | [], [] => true
  | io :: ios, s :: ss => argFit io s && argsFit ios ss
  | _, _ => false
def spM (T : Tb) (m : DM) : Sp := fun vs H Q E => vs.length = m.ios.length ∧ ∃ (F : Hp) (as : List Sl), argsFit m.ios as = true ∧ En T F (vs.map some) as H ∧ DPost T F H vs as Q E (m.run as)
theorem argsFit_len : ∀ {ios : List Bool} {as : List Sl}, argsFit ios as = true → ios.length = as.length
  | [], [], _ => rfl
  | io :: ios, s :: ss, h => by
    rw [List.length_cons, List.length_cons, argsFit_len (Bool.and_eq_true_iff.mp h).2]
  | [], _ :: _, h => by cases h
  | _ :: _, [], h => by cases h
theorem argsFit_at : ∀ {ios : List Bool} {as : List Sl}, argsFit ios as = true → ∀ {k : Nat} {s : Sl}, as[k]? = some s → ∀ d, s ≠ .ow false d
  | io :: ios, s :: ss, h, 0, s', e, d, z => by
    cases e
    subst z
    exact absurd (Bool.and_eq_true_iff.mp h).1 (by show ¬ (false && io) = true; simp)
  | io :: ios, s :: ss, h, k + 1, s', e, d, z => argsFit_at (Bool.and_eq_true_iff.mp h).2 (k := k) e d z
  | [], [], _, _, _, e, _, _ => by cases e
  | [], _ :: _, h, _, _, _, _, _ => by cases h
  | _ :: _, [], h, _, _, _, _, _ => by cases h
theorem outs_get : ∀ {as : List Sl} {ρ : Rho} {k : Nat} {s : Sl}, (outsOf as ρ)[k]? = some s → ∃ a, as[k]? = some a ∧ ((a.isIo = true ∧ s = (ρ[k]?).getD .no) ∨ (a.isIo = false ∧ s = .no))
  | a :: as, ρ, 0, s, e => by
    have e : some (if a.isIo = true then (ρ[0]?).getD .no else .no) = some s := e
    cases ha : a.isIo with
    | true => rw [ha, if_pos rfl] at e; exact ⟨a, rfl, .inl ⟨ha, (Option.some.inj e).symm⟩⟩
    | false => rw [ha, if_neg Bool.false_ne_true] at e; exact ⟨a, rfl, .inr ⟨ha, (Option.some.inj e).symm⟩⟩
  | a :: as, ρ, k + 1, s, e => by
    obtain ⟨a', e1, h⟩ := outs_get (as := as) (ρ := ρ.drop 1) (k := k) e
    rw [List.getElem?_drop, Nat.add_comm 1 k] at h
    exact ⟨a', e1, h⟩
theorem outs_len : ∀ {as : List Sl} {ρ : Rho}, (outsOf as ρ).length = as.length
  | [], _ => rfl
  | a :: as, ρ => by
    show (outsOf as (ρ.drop 1)).length + 1 = as.length + 1
    rw [outs_len]
theorem outs_at : ∀ {as : List Sl} {ρ : Rho} {k : Nat} {a : Sl}, as[k]? = some a → (outsOf as ρ)[k]? = some (if a.isIo = true then (ρ[k]?).getD .no else .no)
  | a :: as, ρ, 0, _, e => by cases e; rfl
  | a :: as, ρ, k + 1, b, e => by
    have h := outs_at (as := as) (ρ := ρ.drop 1) (k := k) e
    rw [List.getElem?_drop, Nat.add_comm 1 k] at h
    exact h
/-- the slots at a def's entry: the arguments, then nothing -/
theorem start_en {vs : List V} {as : List Sl} {N : List Str} {n : Nat} (hn : n = N.length) (hl : as.length ≤ N.length) (I : En T F (vs.map some) as H) : En T F (start N vs) (as ++ List.replicate (n - as.length) .no) H ∧
    (∀ {io : Bool} {b : Addr}, OwnF io (start N vs) (as ++ List.replicate (n - as.length) .no) b → OwnF io (vs.map some) as b) := by
  have len : vs.length = as.length := by rw [← I.len, List.length_map]
  have g1 : ∀ {i : Nat} {s : Sl}, (as ++ List.replicate (n - as.length) .no)[i]? = some s → as[i]? = some s ∨ s = .no := fun {i s} e => by
    by_cases h : i < as.length
    · rw [List.getElem?_append_left h] at e
      exact .inl e
    · rw [List.getElem?_append_right (by omega), List.getElem?_replicate] at e
      split at e
      · cases e; exact .inr rfl
      · cases e
  have g2 : ∀ {i : Nat}, i < as.length → (start N vs)[i]? = (vs.map some)[i]? := fun {i} h => by
    unfold L2.start
    rw [List.getElem?_append_left (by rw [List.length_map]; omega)]
  have lt : ∀ {i : Nat} {s : Sl}, as[i]? = some s → i < as.length := fun e => (List.getElem?_eq_some_iff.mp e).1
  refine ⟨⟨I.fh, ?_, fun i s e => ?_, fun i j a b d e p h1 h2 q1 q2 => ?_, I.lo, fun s z => by rw [NoSg.h] at z; cases z⟩, fun {io b} h => ?_⟩
  · unfold L2.start
    rw [List.length_append, List.length_append, List.length_map, List.length_replicate, List.length_replicate, len, hn]
  · rcases g1 e with e | e
    · have q := I.sl i s e
      cases s with
      | no => trivial
      | im io d =>
        obtain ⟨v, e1, r⟩ := q
        exact ⟨v, by rw [g2 (lt e)]; exact e1, r⟩
      | ow io d =>
        obtain ⟨p, e1, r⟩ := q
        exact ⟨p, by rw [g2 (lt e)]; exact e1, r⟩
    · subst e
      trivial
  · rcases g1 h1 with h1 | h1
    · rcases g1 h2 with h2 | h2
      · rw [g2 (lt h1)] at q1
        rw [g2 (lt h2)] at q2
        exact I.uniq i j a b d e p h1 h2 q1 q2
      · cases h2
    · cases h1
  · obtain ⟨i, d, e1, e2⟩ := h
    rcases g1 e1 with e1 | e1
    · rw [g2 (lt e1)] at e2
      exact ⟨i, d, e1, e2⟩
    · cases e1
theorem start_own {vs : List V} {as : List Sl} {N : List Str} {n : Nat} (len : vs.length = as.length) {io : Bool} {b : Addr} (h : OwnF io (vs.map some) as b) : OwnF io (start N vs) (as ++ List.replicate (n - as.length) .no) b := by
  obtain ⟨i, d, e1, e2⟩ := h
  have hl : i < as.length := (List.getElem?_eq_some_iff.mp e1).1
  refine ⟨i, d, by rw [List.getElem?_append_left hl]; exact e1, ?_⟩
  unfold L2.start
  rw [List.getElem?_append_left (by rw [List.length_map]; omega)]
  exact e2
/-- at a def's end: the parameters that the asker keeps -/
theorem outs_en {vs : List V} {as : List Sl} {N : List Str} {n : Nat} {F' H' : Hp} {σ' : L2.St} {ρ' : Rho} (hn : n = N.length) (hl : as.length ≤ N.length) (I : En T F (vs.map some) as H)
    (f : Fr F H (start N vs) (as ++ List.replicate (n - as.length) .no) F' H' σ' ρ') (I' : En T F' σ' ρ' H') :
    Fr F H (vs.map some) as F' H' (vs.map some) (outsOf as ρ') ∧ En T F' (vs.map some) (outsOf as ρ') H' ∧ (∀ b, Own (vs.map some) (outsOf as ρ') b → Own σ' ρ' b) := by
  have len : vs.length = as.length := by rw [← I.len, List.length_map]
  obtain ⟨_, sub⟩ := start_en hn hl I
  have back : ∀ {k : Nat} {s : Sl}, (outsOf as ρ')[k]? = some s → s = .no ∨ (ρ'[k]? = some s ∧ s.isIo = true ∧ σ'[k]? = (vs.map some)[k]?) := fun {k s} e => by
    obtain ⟨a, e1, h⟩ := outs_get e
    rcases h with ⟨ha, hs⟩ | ⟨_, hs⟩
    · have hk : k < as.length := (List.getElem?_eq_some_iff.mp e1).1
      obtain ⟨s', e2, k2, e3⟩ := f.io k a (by rw [List.getElem?_append_left hk]; exact e1) ha
      rw [e2] at hs
      have hs : s = s' := hs
      subst hs
      refine .inr ⟨e2, k2, e3.trans ?_⟩
      unfold L2.start
      rw [List.getElem?_append_left (by rw [List.length_map]; omega)]
    · exact .inl hs
  have ownb : ∀ io b, OwnF io (vs.map some) (outsOf as ρ') b → OwnF io σ' ρ' b := fun io b h => by
    obtain ⟨i, d, e1, e2⟩ := h
    rcases back e1 with z | ⟨e3, _, e4⟩
    · cases z
    · exact ⟨i, d, e3, e4.trans e2⟩
  refine ⟨⟨f.ex, fun b o h no => f.keep b o h fun w => no ?_, fun b o h => ?_, fun io b h => ?_, f.there, fun i s e k => ?_⟩, ⟨I'.fh, by rw [outs_len, List.length_map, len], fun i s e => ?_, fun i j a b d e p h1 h2 q1 q2 => ?_, I'.lo, fun s z => by rw [NoSg.h] at z; cases z⟩, fun b h => h.mark.elim fun io h => (ownb io b h).any⟩
  · exact w.mark.elim fun io h => (sub h).any
  · rcases f.new b o h with h | h | h
    · exact .inl h
    · exact .inr (.inl h)
    · exact .inr (.inr (h.mark.elim fun io h => (sub h).any))
  · rcases f.own io b (ownb io b h) with h | h
    · exact .inl (sub h)
    · exact .inr h
  · have hk : i < as.length := (List.getElem?_eq_some_iff.mp e).1
    obtain ⟨s', e2, k2, e3⟩ := f.io i s (by rw [List.getElem?_append_left hk]; exact e) k
    exact ⟨s', by rw [outs_at e, if_pos k, e2]; rfl, k2, rfl⟩
  · rcases back e with z | ⟨e1, _, e2⟩
    · subst z; trivial
    · have q := I'.sl i s e1
      cases s with
      | no => trivial
      | im io d =>
        obtain ⟨v, e3, r⟩ := q
        exact ⟨v, e2.symm.trans e3, r⟩
      | ow io d =>
        obtain ⟨p, e3, r⟩ := q
        exact ⟨p, e2.symm.trans e3, r⟩
  · rcases back h1 with z | ⟨e1, _, g1⟩
    · cases z
    · rcases back h2 with z | ⟨e2, _, g2⟩
      · cases z
      · exact I'.uniq i j a b d e p e1 e2 (g1.trans q1) (g2.trans q2)
/-- THE RULE: a body that its mirror tells keeps the mirror's promise -/
theorem body_ok {ts : TS} {m : DM} {N : List Str} {vs : List V} {Q : VK} {E : XK} (hn : m.n = N.length) (hk : m.ios.length ≤ N.length) (h : SS T (fun c d _ H => E c d H) ts m.body) (sp : spM T m vs H Q E) : ts { nx := fun _ H' => Q .non H', rt := Q } (start N vs) H := by
  obtain ⟨hlen, F, as, fit, I, post⟩ := sp
  have hl : as.length ≤ N.length := by rw [← argsFit_len fit]; exact hk
  have len : vs.length = as.length := by rw [← I.len, List.length_map]
  obtain ⟨I0, sub⟩ := start_en hn hl I
  refine h F H (start N vs) (as ++ List.replicate (m.n - as.length) .no) _ I0 ?_
  unfold DM.run at post
  cases e : m.body (as ++ List.replicate (m.n - as.length) .no) with
  | st => rw [e] at post; exact post
  | bk ρ' => rw [e] at post; exact post.elim
  | ct ρ' => rw [e] at post; exact post.elim
  | nx ρ' =>
    rw [e] at post
    intro σ' F' H' f I'
    obtain ⟨f2, I2, _⟩ := outs_en hn hl I f I'
    exact post.2 .non F' H' f2 I2 .non
  | ex c w ρ' =>
    rw [e] at post
    intro d v σ' F' H' f I' r hd hn' hF
    obtain ⟨f2, I2, _⟩ := outs_en hn hl I f I'
    exact post d v F' H' f2 I2 r hd hn' hF
  | rt r ρ' =>
    rw [e] at post
    intro v σ' F' H' f I' rr
    obtain ⟨f2, I2, ob⟩ := outs_en hn hl I f I'
    cases r with
    | im d => exact post.2 v F' H' f2 I2 rr
    | fr d =>
      obtain ⟨p, ev, n, b, hi, ho⟩ := rr
      exact post.2 v F' H' f2 I2 ⟨p, ev, n, b, hi, fun w => ho (ob p w)⟩
    | bo i =>
      have post : DPost T F H vs as Q E (match ρ'[i]? with
        | some (.ow false d) => .ok (.fr d) (outsOf as ρ')
        | some (.ow true d) => .ok (.im d) (outsOf as (ρ'.freeze i))
        | some (.im _ d) => .ok (.im d) (outsOf as ρ')
        | _ => .st) := post
      have hv : σ'[i]? = some (some v) := rr
      cases es : ρ'[i]? with
      | none => rw [es] at post; exact post.elim
      | some s =>
        rw [es] at post
        have q := I'.sl i s es
        cases s with
        | no => exact post.elim
        | im io d =>
          obtain ⟨v', e1, r⟩ := q
          rw [hv] at e1
          cases e1
          exact post.2 v F' H' f2 I2 r
        | ow io d =>
          obtain ⟨p, e1, n, b⟩ := q
          rw [hv] at e1
          cases e1
          cases io with
          | false =>
            refine post.2 _ F' H' f2 I2 ⟨p, rfl, n, b, ?_, fun w => ?_⟩
            · rcases f.own false p ⟨i, d, es, hv⟩ with w | w
              · obtain ⟨k, d', e2, _⟩ := sub w
                exact absurd rfl (argsFit_at fit e2 d')
              · exact w
            · obtain ⟨j, io, d', e2, e3⟩ := w
              obtain ⟨a, e4, h5⟩ := outs_get e2
              rcases h5 with ⟨ha, hs⟩ | ⟨_, hs⟩
              · have hj : j < as.length := (List.getElem?_eq_some_iff.mp e4).1
                obtain ⟨s', e6, k6, e7⟩ := f.io j a (by rw [List.getElem?_append_left hj]; exact e4) ha
                rw [e6] at hs
                have hs : Sl.ow io d' = s' := hs
                subst hs
                have e8 : σ'[j]? = some (some (.ref p)) := by
                  rw [e7]
                  unfold L2.start
                  rw [List.getElem?_append_left (by rw [List.length_map]; omega)]
                  exact e3
                have hij := I'.uniq i j false io d d' p es e6 hv e8
                subst hij
                rw [es] at e6
                cases e6
                cases k6
              · cases hs
          | true =>
            have post : DPost T F H vs as Q E (.ok (.im d) (outsOf as (ρ'.freeze i))) := post
            obtain ⟨F3, f3, I3, r3⟩ := I'.freeze (i := i) hv (by show (match ρ'[i]? with | some s => s.dat | none => none) = some d; rw [es]; rfl)
            obtain ⟨f4, I4, _⟩ := outs_en hn hl I (f.trans f3) I3
            exact post.2 _ F3 H' f4 I4 r3

/-! ### a call -/
def frzI (ρ : Rho) : List Bool → List Rv → Rho
  | false :: ios, r :: rs => frzI (frzR ρ r) ios rs
  | true :: ios, _ :: rs => frzI ρ ios rs
  | _, _ => ρ
def argSl (ρ : Rho) (io : Bool) (r : Rv) : Option Sl := match io, r with
  | false, r => (dat ρ r).map (.im false)
  | true, .im d => some (.im true d)
  | true, .fr _ => none
  | true, .bo i => match ρ[i]? with
    | some (.ow _ d) => some (.ow true d)
    | some (.im _ d) => some (.im true d)
    | _ => none
def argSls (ρ : Rho) : List Bool → List Rv → Option (List Sl)
  | [], [] => some []
  | io :: ios, r :: rs => match argSl ρ io r, argSls ρ ios rs with
    | some s, some ss => some (s :: ss)
    | _, _ => none
  | _, _ => none
/-- the slots that are handed to the callee to be changed -/
def ioIx : List Bool → List Rv → List Nat
  | true :: ios, .bo i :: rs => i :: ioIx ios rs
  | _ :: ios, _ :: rs => ioIx ios rs
  | _, _ => []
def put1 (ρ : Rho) (i : Nat) (s : Sl) : Rho := match ρ[i]?, s with
  | some (.ow io _), .ow _ d => ρ.set i (.ow io d)
  | some (.ow io _), .im _ d => ρ.set i (.im io d)
  | _, _ => ρ
def ups : List Bool → List Rv → List Sl → List (Nat × Sl)
  | io :: ios, r :: rs, s :: os => (match io, r with
    | true, .bo i => (i, s) :: ups ios rs os
    | _, _ => ups ios rs os)
  | _, _, _ => []
def putU (ρ : Rho) : List (Nat × Sl) → Rho
  | [] => ρ
  | u :: us => putU (put1 ρ u.1 u.2) us
def ioIxs : List Bool → List Rv → List Nat
  | io :: ios, r :: rs => (match io, r with
    | true, .bo i => i :: ioIxs ios rs
    | _, _ => ioIxs ios rs)
  | _, _ => []
def callR (m : DM) (ρ : Rho) (rs : List Rv) : ER := match argSls (frzI ρ m.ios rs) m.ios rs with
  | none => .st
  | some as => if (ioIxs m.ios rs).Nodup then (match m.run as with
    | .ok r os => .ok r (putU (frzI ρ m.ios rs) (ups m.ios rs os))
    | .ex c w os => .ex c w (putU (frzI ρ m.ios rs) (ups m.ios rs os))
    | .st => .st) else .st
theorem argSls_at : ∀ {ios : List Bool} {rs : List Rv} {as : List Sl}, argSls ρ ios rs = some as → ios.length = as.length ∧ rs.length = as.length ∧ ∀ {k : Nat} {s : Sl}, as[k]? = some s → ∃ io r, ios[k]? = some io ∧ rs[k]? = some r ∧ argSl ρ io r = some s
  | [], [], as, h => by
    cases h
    exact ⟨rfl, rfl, fun {k s} e => by cases e⟩
  | io :: ios, r :: rs, as, h => by
    have h : (match argSl ρ io r, argSls ρ ios rs with | some s, some ss => some (s :: ss) | _, _ => none) = some as := h
    cases h1 : argSl ρ io r with
    | none => rw [h1] at h; cases h
    | some s =>
      cases h2 : argSls ρ ios rs with
      | none => rw [h1, h2] at h; cases h
      | some ss =>
        rw [h1, h2] at h
        cases h
        obtain ⟨l1, l2, g⟩ := argSls_at h2
        refine ⟨by rw [List.length_cons, List.length_cons, l1], by rw [List.length_cons, List.length_cons, l2], fun {k s'} e => ?_⟩
        cases k with
        | zero => cases e; exact ⟨io, r, rfl, rfl, h1⟩
        | succ k => exact g (k := k) e
  | [], _ :: _, _, h => by cases h
  | _ :: _, [], _, h => by cases h
theorem argSl_true {r : Rv} {s : Sl} (h : argSl ρ true r = some s) : (∃ d, r = .im d ∧ s = .im true d) ∨ ∃ i, r = .bo i ∧ ((∃ io d, ρ[i]? = some (.ow io d) ∧ s = .ow true d) ∨ ∃ io d, ρ[i]? = some (.im io d) ∧ s = .im true d) := by
  cases r with
  | im d => cases h; exact .inl ⟨d, rfl, rfl⟩
  | fr d => cases h
  | bo i =>
    have h : (match ρ[i]? with | some (.ow _ d) => some (.ow true d) | some (.im _ d) => some (.im true d) | _ => none) = some s := h
    refine .inr ⟨i, rfl, ?_⟩
    cases he : ρ[i]? with
    | none => rw [he] at h; cases h
    | some s0 =>
      rw [he] at h
      cases s0 with
      | no => cases h
      | im io d => cases h; exact .inr ⟨io, d, rfl, rfl⟩
      | ow io d => cases h; exact .inl ⟨io, d, rfl, rfl⟩
theorem argSl_false {r : Rv} {s : Sl} (h : argSl ρ false r = some s) : ∃ d, dat ρ r = some d ∧ s = .im false d := by
  have h : (dat ρ r).map (Sl.im false) = some s := by cases r <;> exact h
  cases hd : dat ρ r with
  | none => rw [hd] at h; cases h
  | some d => rw [hd] at h; cases h; exact ⟨d, rfl, rfl⟩
theorem argSls_fit : ∀ {ios : List Bool} {rs : List Rv} {as : List Sl}, argSls ρ ios rs = some as → argsFit ios as = true
  | [], [], as, h => by cases h; rfl
  | io :: ios, r :: rs, as, h => by
    have h : (match argSl ρ io r, argSls ρ ios rs with | some s, some ss => some (s :: ss) | _, _ => none) = some as := h
    cases h1 : argSl ρ io r with
    | none => rw [h1] at h; cases h
    | some s =>
      cases h2 : argSls ρ ios rs with
      | none => rw [h1, h2] at h; cases h
      | some ss =>
        rw [h1, h2] at h
        cases h
        refine Bool.and_eq_true_iff.mpr ⟨?_, argSls_fit h2⟩
        cases io with
        | false =>
          obtain ⟨d, _, rfl⟩ := argSl_false h1
          rfl
        | true =>
          rcases argSl_true h1 with ⟨d, _, rfl⟩ | ⟨i, _, ⟨io, d, _, rfl⟩ | ⟨io, d, _, rfl⟩⟩ <;> rfl
  | [], _ :: _, _, h => by cases h
  | _ :: _, [], _, h => by cases h
theorem put1_self {i : Nat} {s : Sl} : (put1 ρ i s)[i]? = (match ρ[i]?, s with
    | some (.ow io _), .ow _ d => some (.ow io d)
    | some (.ow io _), .im _ d => some (.im io d)
    | o, _ => o) := by
  unfold put1
  cases e : ρ[i]? with
  | none => exact e
  | some old =>
    have hl : i < ρ.length := (List.getElem?_eq_some_iff.mp e).1
    cases old with
    | no => exact e
    | im _ _ => exact e
    | ow io d0 =>
      cases s with
      | no => exact e
      | im b d => exact List.getElem?_set_self hl
      | ow b d => exact List.getElem?_set_self hl
theorem put1_ne {i j : Nat} {s : Sl} (h : i ≠ j) : (put1 ρ i s)[j]? = ρ[j]? := by
  unfold put1
  split
  · exact List.getElem?_set_ne h
  · exact List.getElem?_set_ne h
  · rfl
theorem put1_len {i : Nat} {s : Sl} : (put1 ρ i s).length = ρ.length := by
  unfold put1
  split
  · rw [List.length_set]
  · rw [List.length_set]
  · rfl
theorem putU_len : ∀ {us : List (Nat × Sl)} {ρ : Rho}, (putU ρ us).length = ρ.length
  | [], _ => rfl
  | u :: us, ρ => by
    show (putU (put1 ρ u.1 u.2) us).length = ρ.length
    rw [putU_len, put1_len]
theorem putU_get : ∀ {us : List (Nat × Sl)} {ρ : Rho} {j : Nat}, (us.map (·.1)).Nodup → ((putU ρ us)[j]? = ρ[j]? ∧ j ∉ us.map (·.1)) ∨ ∃ s, (j, s) ∈ us ∧ (putU ρ us)[j]? = (put1 ρ j s)[j]?
  | [], _, _, _ => .inl ⟨rfl, by simp⟩
  | u :: us, ρ, j, nd => by
    have nd := List.nodup_cons.mp (show (u.1 :: us.map (·.1)).Nodup from nd)
    have e : putU ρ (u :: us) = putU (put1 ρ u.1 u.2) us := rfl
    rw [e]
    by_cases hj : u.1 = j
    · subst hj
      rcases putU_get (us := us) (ρ := put1 ρ u.1 u.2) (j := u.1) nd.2 with ⟨h, _⟩ | ⟨s, hm, _⟩
      · exact .inr ⟨u.2, List.mem_cons_self, h⟩
      · exact absurd (List.mem_map.mpr ⟨_, hm, rfl⟩) nd.1
    · rcases putU_get (us := us) (ρ := put1 ρ u.1 u.2) (j := j) nd.2 with ⟨h, hn⟩ | ⟨s, hm, h⟩
      · refine .inl ⟨by rw [h, put1_ne hj], fun hm => ?_⟩
        rcases List.mem_cons.mp hm with z | z
        · exact hj z.symm
        · exact hn z
      · refine .inr ⟨s, List.mem_cons_of_mem _ hm, ?_⟩
        rw [h, put1_self, put1_self, put1_ne hj]
theorem ups_mem : ∀ {ios : List Bool} {rs : List Rv} {os : List Sl} {j : Nat} {s : Sl}, (j, s) ∈ ups ios rs os → ∃ k : Nat, ios[k]? = some true ∧ rs[k]? = some (.bo j) ∧ os[k]? = some s
  | [], _, _, _, _, h => by cases h
  | _ :: _, [], _, _, _, h => by cases h
  | _ :: _, _ :: _, [], _, _, h => by cases h
  | io :: ios, r :: rs, o :: os, j, s, h => by
    have rest : (j, s) ∈ ups ios rs os → ∃ k : Nat, (io :: ios)[k]? = some true ∧ (r :: rs)[k]? = some (.bo j) ∧ (o :: os)[k]? = some s := fun h => by
      obtain ⟨k, h1, h2, h3⟩ := ups_mem h
      exact ⟨k + 1, h1, h2, h3⟩
    cases io with
    | false => exact rest (by cases r <;> exact h)
    | true =>
      cases r with
      | im d => exact rest h
      | fr d => exact rest h
      | bo i =>
        rcases List.mem_cons.mp (show (j, s) ∈ (i, o) :: ups ios rs os from h) with z | z
        · cases z
          exact ⟨0, rfl, rfl, rfl⟩
        · exact rest z
theorem ups_has : ∀ {ios : List Bool} {rs : List Rv} {os : List Sl} {j k : Nat} {s : Sl}, ios[k]? = some true → rs[k]? = some (.bo j) → os[k]? = some s → j ∈ (ups ios rs os).map (·.1)
  | [], _, _, _, _, _, h, _, _ => by cases h
  | _ :: _, [], _, _, _, _, _, h, _ => by cases h
  | _ :: _, _ :: _, [], _, _, _, _, _, h => by cases h
  | io :: ios, r :: rs, o :: os, j, 0, s, h1, h2, h3 => by
    cases h1
    cases h2
    exact List.mem_cons_self
  | io :: ios, r :: rs, o :: os, j, k + 1, s, h1, h2, h3 => by
    have h := ups_has (ios := ios) (rs := rs) (os := os) h1 h2 h3
    cases io with
    | false => cases r <;> exact h
    | true =>
      cases r with
      | im d => exact h
      | fr d => exact h
      | bo i => exact List.mem_cons_of_mem _ h
theorem ups_sub : ∀ {ios : List Bool} {rs : List Rv} {os : List Sl}, ((ups ios rs os).map (·.1)).Sublist (ioIxs ios rs)
  | [], _, _ => List.nil_sublist _
  | _ :: _, [], _ => List.nil_sublist _
  | _ :: _, _ :: _, [] => List.nil_sublist _
  | io :: ios, r :: rs, o :: os => by
    have h := ups_sub (ios := ios) (rs := rs) (os := os)
    cases io with
    | false => cases r <;> exact h
    | true =>
      cases r with
      | im d => exact h
      | fr d => exact h
      | bo i => exact List.Sublist.cons_cons i h
/-- two arguments that hand on the same slot are one -/
theorem ioIxs_mem : ∀ {ios : List Bool} {rs : List Rv} {j k : Nat}, ios[k]? = some true → rs[k]? = some (.bo j) → j ∈ ioIxs ios rs
  | [], _, _, _, h, _ => by cases h
  | _ :: _, [], _, _, _, h => by cases h
  | io :: ios, r :: rs, j, 0, h1, h2 => by
    cases h1
    cases h2
    exact List.mem_cons_self
  | io :: ios, r :: rs, j, k + 1, h1, h2 => by
    have h := ioIxs_mem (ios := ios) (rs := rs) h1 h2
    cases io with
    | false => cases r <;> exact h
    | true =>
      cases r with
      | im d => exact h
      | fr d => exact h
      | bo i => exact List.mem_cons_of_mem _ h
theorem ioIxs_one : ∀ {ios : List Bool} {rs : List Rv} {j k l : Nat}, (ioIxs ios rs).Nodup → ios[k]? = some true → rs[k]? = some (.bo j) → ios[l]? = some true → rs[l]? = some (.bo j) → k = l
  | [], _, _, _, _, _, h, _, _, _ => by cases h
  | _ :: _, [], _, _, _, _, _, h, _, _ => by cases h
  | io :: ios, r :: rs, j, 0, 0, _, _, _, _, _ => rfl
  | io :: ios, r :: rs, j, 0, l + 1, nd, h1, h2, h3, h4 => by
    cases h1
    cases h2
    exact absurd (ioIxs_mem (ios := ios) (rs := rs) h3 h4) (List.nodup_cons.mp nd).1
  | io :: ios, r :: rs, j, k + 1, 0, nd, h1, h2, h3, h4 => by
    cases h3
    cases h4
    exact absurd (ioIxs_mem (ios := ios) (rs := rs) h1 h2) (List.nodup_cons.mp nd).1
  | io :: ios, r :: rs, j, k + 1, l + 1, nd, h1, h2, h3, h4 => by
    have nd' : (ioIxs ios rs).Nodup := by
      cases io with
      | false => cases r <;> exact nd
      | true =>
        cases r with
        | im d => exact nd
        | fr d => exact nd
        | bo i => exact (List.nodup_cons.mp nd).2
    rw [ioIxs_one (ios := ios) (rs := rs) nd' h1 h2 h3 h4]
/-- the arguments that are looked at alone stay from then on -/
theorem frzI_ok : ∀ {ios : List Bool} {rs : List Rv} {vs : List V} {ρ : Rho} {F : Hp}, En T F σ ρ H → RSL T F σ vs rs → (∀ (k : Nat) (r : Rv), ios[k]? = some false → rs[k]? = some r → (dat ρ r).isSome = true) → ∃ F', Fr F H σ ρ F' H σ (frzI ρ ios rs) ∧ En T F' σ (frzI ρ ios rs) H ∧ ∀ (k : Nat) (r : Rv) (v : V) (d : Py), ios[k]? = some false → rs[k]? = some r → vs[k]? = some v → dat ρ r = some d → Rep T F' v d := by
  intro ios
  induction ios with
  | nil => intro rs vs ρ F I s hd; exact ⟨F, Fr.refl, I, fun k r v d h => by cases h⟩
  | cons io ios ih =>
    intro rs vs ρ F I s hd
    cases s with
    | nil => exact ⟨F, by cases io <;> exact Fr.refl, by cases io <;> exact I, fun k r v d _ h => by cases h⟩
    | cons h t =>
      rename_i v0 r0 vs rs
      cases io with
      | true =>
        obtain ⟨F', f, I', g⟩ := ih I t fun k r a b => hd (k + 1) r a b
        refine ⟨F', f, I', fun k r v d a b c e => ?_⟩
        cases k with
        | zero => cases a
        | succ k => exact g k r v d a b c e
      | false =>
        have h0 := hd 0 r0 rfl rfl
        cases hd0 : dat ρ r0 with
        | none => rw [hd0] at h0; cases h0
        | some d0 =>
          have fz : ∃ F1, Fr F H σ ρ F1 H σ (frzR ρ r0) ∧ En T F1 σ (frzR ρ r0) H ∧ Rep T F1 v0 d0 := by
            cases r0 with
            | im d' => cases hd0; exact ⟨F, Fr.refl, I, h⟩
            | fr d' => exact h.elim
            | bo i => exact I.freeze h hd0
          obtain ⟨F1, f1, I1, r1⟩ := fz
          have same : ∀ r, dat (frzR ρ r0) r = dat ρ r := fun r => by
            cases r0 with
            | im _ => rfl
            | fr _ => rfl
            | bo i => exact dat_freeze
          obtain ⟨F', f, I', g⟩ := ih I1 (t.mono f1.ex) fun k r a b => by rw [same]; exact hd (k + 1) r a b
          refine ⟨F', f1.trans f, I', fun k r v d a b c e => ?_⟩
          cases k with
          | zero =>
            cases b
            cases c
            rw [hd0] at e
            cases e
            exact r1.mono f.ex
          | succ k => exact g k r v d a b c (by rw [same]; exact e)
theorem frzI_dat : ∀ {ios : List Bool} {rs : List Rv} {ρ : Rho} {r : Rv}, dat (frzI ρ ios rs) r = dat ρ r
  | [], _, _, _ => rfl
  | true :: ios, [], _, _ => rfl
  | false :: ios, [], _, _ => rfl
  | true :: ios, _ :: rs, ρ, r => frzI_dat (ios := ios) (rs := rs)
  | false :: ios, r0 :: rs, ρ, r => by
    show dat (frzI (frzR ρ r0) ios rs) r = dat ρ r
    rw [frzI_dat (ios := ios)]
    cases r0 with
    | im _ => rfl
    | fr _ => rfl
    | bo i => exact dat_freeze
theorem RSL.length {vs : List V} {rs : List Rv} (h : RSL T F σ vs rs) : vs.length = rs.length := by
  induction h with
  | nil => rfl
  | cons _ _ ih => rw [List.length_cons, List.length_cons, ih]
theorem RSL.at {vs : List V} {rs : List Rv} (h : RSL T F σ vs rs) : ∀ {k : Nat} {r : Rv}, rs[k]? = some r → ∃ v, vs[k]? = some v ∧ RS T F σ v r := by
  induction h with
  | nil => intro k r e; cases e
  | cons h _ ih =>
    intro k r e
    cases k with
    | zero => cases e; exact ⟨_, rfl, h⟩
    | succ k => exact ih (k := k) e
theorem Sl.io_cases {s : Sl} (h : s.isIo = true) : (∃ d, s = .ow true d) ∨ ∃ d, s = .im true d := by
  cases s with
  | no => cases h
  | im io d => have h : io = true := h; subst h; exact .inr ⟨d, rfl⟩
  | ow io d => have h : io = true := h; subst h; exact .inl ⟨d, rfl⟩
theorem run_nobo {m : DM} {as : List Sl} {r : Rv} {os : List Sl} (h : m.run as = .ok r os) : ∀ i, r ≠ .bo i := fun i z => by
  subst z
  unfold DM.run at h
  cases e : m.body (as ++ List.replicate (m.n - as.length) .no) with
  | st => rw [e] at h; cases h
  | bk ρ' => rw [e] at h; cases h
  | ct ρ' => rw [e] at h; cases h
  | nx ρ' => rw [e] at h; cases h
  | ex c w ρ' => rw [e] at h; cases h
  | rt r ρ' =>
    rw [e] at h
    cases r with
    | im d => cases h
    | fr d => cases h
    | bo j =>
      have h : (match ρ'[j]? with
        | some (.ow false d) => DR.ok (.fr d) (outsOf as ρ')
        | some (.ow true d) => .ok (.im d) (outsOf as (ρ'.freeze j))
        | some (.im _ d) => .ok (.im d) (outsOf as ρ')
        | _ => .st) = .ok (.bo i) os := h
      cases e2 : ρ'[j]? with
      | none => rw [e2] at h; cases h
      | some s =>
        rw [e2] at h
        cases s with
        | no => cases h
        | im _ _ => cases h
        | ow b _ => cases b <;> cases h
/-- THE RULE of a call, from its arguments on -/
theorem call_core {m : DM} {rs : List Rv} {vs : List V} {Q : VK} {E : XK} (hE : ∀ c d H', W c d σ H' → E c d H') (I : En T F σ ρ H) (s : RSL T F σ vs rs) (q : EPost T W F H σ ρ Q (callR m ρ rs)) : spM T m vs H Q E := by
  unfold callR at q
  cases ha : argSls (frzI ρ m.ios rs) m.ios rs with
  | none => rw [ha] at q; exact q.elim
  | some as =>
    rw [ha] at q
    have q : EPost T W F H σ ρ Q (if (ioIxs m.ios rs).Nodup then (match m.run as with
      | .ok r os => .ok r (putU (frzI ρ m.ios rs) (ups m.ios rs os))
      | .ex c w os => .ex c w (putU (frzI ρ m.ios rs) (ups m.ios rs os))
      | .st => .st) else .st) := q
    by_cases nd : (ioIxs m.ios rs).Nodup
    · rw [if_pos nd] at q
      obtain ⟨l1, l2, at_⟩ := argSls_at ha
      have hsome : ∀ (k : Nat) (r : Rv), m.ios[k]? = some false → rs[k]? = some r → (dat ρ r).isSome = true := fun k r h1 h2 => by
        have hk : k < as.length := by rw [← l1]; exact (List.getElem?_eq_some_iff.mp h1).1
        obtain ⟨io, r', e1, e2, e3⟩ := at_ (k := k) (List.getElem?_eq_getElem hk)
        rw [h1] at e1
        rw [h2] at e2
        cases e1
        cases e2
        obtain ⟨d, e4, _⟩ := argSl_false e3
        rw [frzI_dat] at e4
        rw [e4]
        rfl
      obtain ⟨F2, f2, I2, rep⟩ := frzI_ok I s hsome
      generalize hρ2 : frzI ρ m.ios rs = ρ2 at q ha f2 I2 at_
      have s2 := s.mono f2.ex
      have lv : vs.length = as.length := by rw [s.length, l2]
      -- an argument's slot, back to the asker's
      have ow_at : ∀ {k : Nat} {io : Bool} {d : Py}, as[k]? = some (.ow io d) → io = true ∧ m.ios[k]? = some true ∧ ∃ i b, rs[k]? = some (.bo i) ∧ ρ2[i]? = some (.ow b d) ∧ ∃ p, vs[k]? = some (.ref p) ∧ σ[i]? = some (some (.ref p)) := fun {k io d} e => by
        obtain ⟨io', r, e1, e2, e3⟩ := at_ e
        cases io' with
        | false =>
          obtain ⟨d', _, z⟩ := argSl_false e3
          cases z
        | true =>
          rcases argSl_true e3 with ⟨d', _, z⟩ | ⟨i, hr, ⟨b, d', e4, z⟩ | ⟨b, d', _, z⟩⟩
          · cases z
          · cases z
            subst hr
            obtain ⟨v, e5, rv⟩ := s2.at e2
            obtain ⟨p, e6, _⟩ := I2.sl i _ e4
            have rv : σ[i]? = some (some v) := rv
            rw [rv] at e6
            cases e6
            exact ⟨rfl, e1, i, b, e2, e4, p, e5, rv⟩
          · cases z
      have mapv : ∀ {k : Nat} {v : V}, vs[k]? = some v → (vs.map some)[k]? = some (some v) := fun {k v} e => by rw [List.getElem?_map, e]; rfl
      have mapv' : ∀ {k : Nat} {v : V}, (vs.map some)[k]? = some (some v) → vs[k]? = some v := fun {k v} e => by
        rw [List.getElem?_map] at e
        cases h : vs[k]? with
        | none => rw [h] at e; cases e
        | some w => rw [h] at e; cases e; rfl
      have own_up : ∀ b, Own (vs.map some) as b → Own σ ρ2 b := fun b h => by
        obtain ⟨k, io, d, e1, e2⟩ := h
        obtain ⟨_, _, i, io', e3, e4, p, e5, e6⟩ := ow_at e1
        rw [mapv e5] at e2
        cases e2
        exact ⟨i, io', d, e4, e6⟩
      have Ia : En T F2 (vs.map some) as H := by
        refine ⟨I2.fh, by rw [List.length_map]; exact lv, fun k sl e => ?_, fun k l a b d e p h1 h2 g1 g2 => ?_, I2.lo, fun s z => by rw [NoSg.h] at z; cases z⟩
        · cases sl with
          | no => trivial
          | im io d =>
            obtain ⟨io', r, e1, e2, e3⟩ := at_ e
            obtain ⟨v, e5, rv⟩ := s2.at e2
            refine ⟨v, mapv e5, ?_⟩
            cases io' with
            | false =>
              obtain ⟨d', e4, z⟩ := argSl_false e3
              cases z
              rw [← hρ2, frzI_dat] at e4
              exact rep k r v d e1 e2 e5 e4
            | true =>
              rcases argSl_true e3 with ⟨d', hr, z⟩ | ⟨i, hr, ⟨b, d', e4, z⟩ | ⟨b, d', e4, z⟩⟩
              · cases z
                subst hr
                exact rv
              · cases z
              · cases z
                subst hr
                obtain ⟨v', e6, r'⟩ := I2.sl i _ e4
                have rv : σ[i]? = some (some v) := rv
                rw [rv] at e6
                cases e6
                exact r'
          | ow io d =>
            obtain ⟨_, _, i, io', e3, e4, p, e5, e6⟩ := ow_at e
            obtain ⟨p', e7, nF, b⟩ := I2.sl i _ e4
            rw [e6] at e7
            cases e7
            exact ⟨p, mapv e5, nF, b⟩
        · obtain ⟨_, c1, i1, io1, a1, b1, p1, u1, w1⟩ := ow_at h1
          obtain ⟨_, c2, i2, io2, a2, b2, p2, u2, w2⟩ := ow_at h2
          rw [mapv u1] at g1
          rw [mapv u2] at g2
          cases g1
          cases g2
          have e12 := I2.uniq i1 i2 io1 io2 d e p b1 b2 w1 w2
          subst e12
          exact ioIxs_one nd c1 a1 c2 a2
      have fit := argSls_fit ha
      -- behind the callee
      have behind : ∀ {os : List Sl} {F' H' : Hp}, Fr F2 H (vs.map some) as F' H' (vs.map some) os → En T F' (vs.map some) os H' → Fr F2 H σ ρ2 F' H' σ (putU ρ2 (ups m.ios rs os)) ∧ En T F' σ (putU ρ2 (ups m.ios rs os)) H' ∧ (∀ b, Own σ (putU ρ2 (ups m.ios rs os)) b → Own σ ρ2 b) := by
        intro os F' H' fc Ic
        have ndu : ((ups m.ios rs os).map (·.1)).Nodup := List.Sublist.nodup ups_sub nd
        have los : os.length = as.length := by rw [← Ic.len, List.length_map, lv]
        -- a slot behind: as it was and not handed on, or what the callee left
        have look : ∀ {j : Nat} {sl : Sl}, (putU ρ2 (ups m.ios rs os))[j]? = some sl → (ρ2[j]? = some sl ∧ ((∀ io d, sl ≠ .ow io d) ∨ ∀ k : Nat, m.ios[k]? = some true → rs[k]? ≠ some (Rv.bo j))) ∨
            ∃ (k : Nat) (io : Bool) (d0 : Py), m.ios[k]? = some true ∧ rs[k]? = some (.bo j) ∧ ρ2[j]? = some (.ow io d0) ∧ ((∃ d, os[k]? = some (.ow true d) ∧ sl = .ow io d) ∨ ∃ d, os[k]? = some (.im true d) ∧ sl = .im io d) := fun {j sl} e => by
          rcases putU_get (us := ups m.ios rs os) (ρ := ρ2) (j := j) ndu with ⟨h, hn⟩ | ⟨s, hm, h⟩
          · rw [h] at e
            refine .inl ⟨e, .inr fun k h1 h2 => ?_⟩
            have hk : k < os.length := by rw [los, ← l1]; exact (List.getElem?_eq_some_iff.mp h1).1
            exact hn (ups_has h1 h2 (List.getElem?_eq_getElem hk))
          · rw [h, put1_self] at e
            obtain ⟨k, h1, h2, h3⟩ := ups_mem hm
            cases hj : ρ2[j]? with
            | none => rw [hj] at e; cases e
            | some old =>
              rw [hj] at e
              cases old with
              | no => cases e; exact .inl ⟨rfl, .inl fun _ _ z => by cases z⟩
              | im io d0 => cases e; exact .inl ⟨rfl, .inl fun _ _ z => by cases z⟩
              | ow io d0 =>
                refine .inr ⟨k, io, d0, h1, h2, rfl, ?_⟩
                -- the callee's slot k is the asker's
                have hk : k < as.length := by rw [← l1]; exact (List.getElem?_eq_some_iff.mp h1).1
                obtain ⟨io', r', e1, e2, e3⟩ := at_ (k := k) (List.getElem?_eq_getElem hk)
                rw [h1] at e1
                rw [h2] at e2
                cases e1
                cases e2
                have isio : as[k].isIo = true := by
                  rcases argSl_true e3 with ⟨d', _, z⟩ | ⟨i, _, ⟨b, d', _, z⟩ | ⟨b, d', _, z⟩⟩ <;> (rw [z]; rfl)
                obtain ⟨s', e4, k4, _⟩ := fc.io k _ (List.getElem?_eq_getElem hk) isio
                rw [h3] at e4
                cases e4
                rcases Sl.io_cases k4 with ⟨d, z⟩ | ⟨d, z⟩
                · subst z
                  cases e
                  exact .inl ⟨d, h3, rfl⟩
                · subst z
                  cases e
                  exact .inr ⟨d, h3, rfl⟩
        have ownb : ∀ io b, OwnF io σ (putU ρ2 (ups m.ios rs os)) b → OwnF io σ ρ2 b := fun io b h => by
          obtain ⟨j, d, e1, e2⟩ := h
          rcases look e1 with ⟨e3, _⟩ | ⟨k, io', d0, _, _, e3, ⟨d', _, z⟩ | ⟨d', _, z⟩⟩
          · exact ⟨j, d, e3, e2⟩
          · cases z
            exact ⟨j, d0, e3, e2⟩
          · cases z
        refine ⟨⟨fc.ex, fun b o h no => fc.keep b o h fun w => no (own_up b w), fun b o h => ?_, fun io b h => .inl (ownb io b h), fc.there, fun j sl e k => ?_⟩, ⟨Ic.fh, by rw [putU_len]; exact I2.len, fun j sl e => ?_, fun a c x y d1 d2 p h1 h2 g1 g2 => ?_, Ic.lo, fun s z => by rw [NoSg.h] at z; cases z⟩, fun b h => h.mark.elim fun io h => (ownb io b h).any⟩
        · rcases fc.new b o h with h | h | h
          · exact .inl h
          · exact .inr (.inl h)
          · exact .inr (.inr (own_up b h))
        · have hl : j < (putU ρ2 (ups m.ios rs os)).length := by rw [putU_len]; exact (List.getElem?_eq_some_iff.mp e).1
          refine ⟨_, List.getElem?_eq_getElem hl, ?_, rfl⟩
          rcases look (List.getElem?_eq_getElem hl) with ⟨e3, _⟩ | ⟨k', io', d0, _, _, e3, ⟨d', _, z⟩ | ⟨d', _, z⟩⟩
          · rw [e] at e3
            rw [← Option.some.inj e3]
            exact k
          · rw [e] at e3
            cases e3
            rw [z]
            exact k
          · rw [e] at e3
            cases e3
            rw [z]
            exact k
        · rcases look e with ⟨e3, hno⟩ | ⟨k, io', d0, h1, h2, e3, ⟨d', h3, z⟩ | ⟨d', h3, z⟩⟩
          · have qq := I2.sl j sl e3
            cases sl with
            | no => trivial
            | im io d =>
              obtain ⟨v, e4, r⟩ := qq
              exact ⟨v, e4, r.mono fc.ex⟩
            | ow io d =>
              rcases hno with hno | hno
              · exact absurd rfl (hno io d)
              · obtain ⟨p, e4, nF, b⟩ := qq
                obtain ⟨o, ho⟩ := b.some
                have nown : ¬ Own (vs.map some) as p := fun w => by
                  obtain ⟨k, io2, d2, a1, a2⟩ := w
                  obtain ⟨_, c1, i, io3, b1, b2, p2, u2, w2⟩ := ow_at a1
                  rw [mapv u2] at a2
                  cases a2
                  have hij := I2.uniq i j io3 io d2 d p b2 e3 w2 e4
                  subst hij
                  exact hno k c1 b1
                refine ⟨p, e4, ?_, b.mono fc.ex fun u z => fc.keep p u z nown⟩
                cases z : F' p with
                | none => rfl
                | some u =>
                  rcases fc.new p u z with y | y | y
                  · rw [nF] at y; cases y
                  · rw [ho] at y; cases y
                  · exact absurd y nown
          · subst z
            obtain ⟨p, e4, nF, b⟩ := Ic.sl k _ h3
            obtain ⟨v, e5, rv⟩ := s2.at h2
            have rv : σ[j]? = some (some v) := rv
            rw [mapv e5] at e4
            cases e4
            exact ⟨p, rv, nF, b⟩
          · subst z
            obtain ⟨v', e4, r⟩ := Ic.sl k _ h3
            obtain ⟨v, e5, rv⟩ := s2.at h2
            have rv : σ[j]? = some (some v) := rv
            rw [mapv e5] at e4
            cases e4
            exact ⟨_, rv, r⟩
        · obtain ⟨d3, o1⟩ : ∃ d3, ρ2[a]? = some (.ow x d3) := by
            rcases look h1 with ⟨e3, _⟩ | ⟨k', io', d0, _, _, e3, ⟨d', _, z⟩ | ⟨d', _, z⟩⟩
            · exact ⟨_, e3⟩
            · cases z; exact ⟨_, e3⟩
            · cases z
          obtain ⟨d4, o2⟩ : ∃ d4, ρ2[c]? = some (.ow y d4) := by
            rcases look h2 with ⟨e3, _⟩ | ⟨k', io', d0, _, _, e3, ⟨d', _, z⟩ | ⟨d', _, z⟩⟩
            · exact ⟨_, e3⟩
            · cases z; exact ⟨_, e3⟩
            · cases z
          exact I2.uniq a c x y d3 d4 p o1 o2 g1 g2
      refine ⟨by rw [lv, ← l1], F2, as, fit, Ia, ?_⟩
      have q2 := EPost.fr f2 q
      cases hr : m.run as with
      | st => rw [hr] at q2; exact q2
      | ex c w os =>
        rw [hr] at q2
        intro d v F' H' fc Ic r hd hn hF
        obtain ⟨f3, I3, _⟩ := behind fc Ic
        exact hE _ _ _ (q2 d v F' H' f3 I3 r hd hn hF)
      | ok r os =>
        rw [hr] at q2
        refine ⟨run_nobo hr, fun v F' H' fc Ic rr => ?_⟩
        obtain ⟨f3, I3, ob⟩ := behind fc Ic
        refine q2 v F' H' f3 I3 ?_
        cases r with
        | im d => exact rr
        | bo i => exact absurd rfl (run_nobo hr i)
        | fr d =>
          obtain ⟨p, e, nF, b, hi, _⟩ := rr
          refine ⟨p, e, nF, b, hi, fun w => ?_⟩
          obtain ⟨j, io, d', e1, e2⟩ := ob p w
          obtain ⟨p', e3, _, b'⟩ := I2.sl j _ e1
          rw [e2] at e3
          cases e3
          obtain ⟨o, ho⟩ := b'.some
          rw [hi] at ho
          cases ho
    · rw [if_neg nd] at q; exact q.elim
def mCall (m : DM) (ma : MA) : ME := fun ρ => aBind (ma ρ) fun rs ρ1 => callR m ρ1 rs
/-- .. with defaults behind -/
def aDef (ds : List Py) (ma : MA) : MA := fun ρ => match ma ρ with
  | .ok rs ρ1 => .ok (rs ++ ds.map .im) ρ1
  | x => x
inductive Dfl (T : Tb) : List V → List Py → Prop
  | nil : Dfl T [] []
  | cons {v : V} {d : Py} {vs : List V} {ds : List Py} : (∀ F, Rep T F v d) → Dfl T vs ds → Dfl T (v :: vs) (d :: ds)
theorem RSL.dfl {vs : List V} {rs : List Rv} (h : RSL T F σ vs rs) : ∀ {dvs : List V} {ds : List Py}, Dfl T dvs ds → RSL T F σ (vs ++ dvs) (rs ++ ds.map .im) := by
  induction h with
  | nil =>
    intro dvs ds hd
    induction hd with
    | nil => exact .nil
    | cons h _ ih => exact .cons (h F) ih
  | cons h _ ih => exact fun hd => .cons h (ih hd)
theorem se_call {m : DM} {ta : TA} {ma : MA} {dvs : List V} {ds : List Py} {E : XK} (hE : ∀ c d σ H', W c d σ H' → E c d H') (hd : Dfl T dvs ds) (h : SA T W ta ma) : SE T W (tCall (spM T m) dvs E ta) (mCall m (aDef ds ma)) := fun F H σ ρ Q I q => by
  unfold mCall aDef at q
  have q : EPost T W F H σ ρ Q (aBind (ma ρ) fun rs ρ1 => callR m ρ1 (rs ++ ds.map .im)) := by
    cases e : ma ρ with
    | st => rw [e] at q; exact q
    | ex c w ρ' => rw [e] at q; exact q
    | ok rs ρ' => rw [e] at q; exact q
  refine sa_then h I q fun vs rs ρ1 F1 H1 e f1 I1 s1 q1 => ?_
  exact call_core (fun c d H' => hE c d σ H') I1 (s1.dfl hd) q1
/-- .. what is raised is wished at the slots -/
theorem se_callS {m : DM} {ta : TA} {ma : MA} {E : L2.St → XK} (hE : ∀ c d σ H', W c d σ H' → E σ c d H') (h : SA T W ta ma) : SE T W (tCallS (spM T m) E ta) (mCall m ma) := fun F H σ ρ Q I q => by
  refine sa_then h I q fun vs rs ρ1 F1 H1 e f1 I1 s1 q1 => ?_
  exact call_core (fun c d H' => hE c d σ H') I1 s1 q1
/-- .. with keywords: the values as the parameters stand -/
def aKw (arr : List Rv → List Rv → List Rv) (ma mk : MA) : MA := fun ρ => match ma ρ with
  | .ok rs ρ1 => (match mk ρ1 with
    | .ok ss ρ2 => .ok (arr rs ss) ρ2
    | x => x)
  | x => x
theorem se_callN {n k : Nat} {m : DM} {ta tk : TA} {ma mk : MA} {E : XK} {gV : List V → List V → List V} {arr : List Rv → List Rv → List Rv} (hE : ∀ c d σ H', W c d σ H' → E c d H')
    (hg : ∀ (F : Hp) (σ : L2.St) (vs zs : List V) (rs ss : List Rv), RSL T F σ vs rs → RSL T F σ zs ss → rs.length = n → ss.length = k → RSL T F σ (gV vs zs) (arr rs ss))
    (ha : SA T W ta ma) (hk : SA T W tk mk) (l1 : ∀ ρ rs ρ', ma ρ = .ok rs ρ' → rs.length = n) (l2 : ∀ ρ rs ρ', mk ρ = .ok rs ρ' → rs.length = k) : SE T W (tCallN n k (spM T m) gV E ta tk) (mCall m (aKw arr ma mk)) := fun F H σ ρ Q I q => by
  unfold mCall aKw at q
  refine ha F H σ ρ _ I ?_
  cases e : ma ρ with
  | st => rw [e] at q; exact q
  | ex c w ρ' => rw [e] at q; exact q
  | ok rs ρ1 =>
    rw [e] at q
    intro vs F1 H1 f1 I1 s1
    refine hk F1 H1 σ ρ1 _ I1 ?_
    cases e2 : mk ρ1 with
    | st => simp only [e2] at q; exact q
    | ex c w ρ' =>
      simp only [e2] at q
      exact fun d v F' H' f2 I2 rw hd hn hF => q d v F' H' (f1.trans f2) I2 rw hd (f1.none hn) hF
    | ok ss ρ2 =>
      simp only [e2] at q
      intro zs F2 H2 f2 I2 s2
      have q2 : EPost T W F2 H2 σ ρ2 Q (callR m ρ2 (arr rs ss)) := EPost.fr (f1.trans f2) q
      refine ⟨s1.length.trans (l1 _ _ _ e), s2.length.trans (l2 _ _ _ e2), ?_⟩
      exact call_core (fun c d H' => hE c d σ H') I2 (hg F2 σ vs zs rs ss (s1.mono f2.ex) s2 (l1 _ _ _ e) (l2 _ _ _ e2)) q2
/-- how many arguments are written -/
theorem aNil_len (ρ : Rho) (rs : List Rv) (ρ' : Rho) (h : aNil ρ = .ok rs ρ') : rs.length = 0 := by cases h; rfl
theorem aCons_len {me : ME} {mr : MA} {n : Nat} (hr : ∀ ρ rs ρ', mr ρ = .ok rs ρ' → rs.length = n) (ρ : Rho) (rs : List Rv) (ρ' : Rho) (h : aCons me mr ρ = .ok rs ρ') : rs.length = n + 1 := by
  unfold aCons at h
  cases e : me ρ with
  | st => rw [e] at h; cases h
  | ex c w ρ1 => rw [e] at h; cases h
  | ok r ρ1 =>
    rw [e] at h
    have h : (match mr ρ1 with | .ok rs ρ2 => AR.ok (r.settled :: rs) ρ2 | .ex c w ρ2 => .ex c w ρ2 | .st => .st) = .ok rs ρ' := h
    cases e2 : mr ρ1 with
    | st => rw [e2] at h; cases h
    | ex c w ρ2 => rw [e2] at h; cases h
    | ok rs2 ρ2 =>
      rw [e2] at h
      cases h
      rw [List.length_cons, hr _ _ _ e2]
end
end Mr
namespace Mr
open PySem PySem.Spec PyProof.Rows L2
section
variable {T : Tb} {W : Wx} {F F1 F2 F0 H H0 H1 H2 Hi : Hp} {σ σ0 σ1 σ2 : L2.St} {ρ ρ0 ρ1 ρ2 ρe : Rho} {D : Ends} {v w : V}
variable [NoSg T]
/-! ### two names at once -/
/-- what it holds stays -/
def Rv.own (ρ : Rho) : Rv → Option Rv
  | .bo k => (dat ρ (.bo k)).map .im
  | r => some r
theorem frz_keep {r r' : Rv} (I : En T F σ ρ H) (h : RR T Hi F H σ ρ v r) (e : r.own ρ = some r') : ∃ F', Fr F H σ ρ F' H σ (frzR ρ r) ∧ En T F' σ (frzR ρ r) H ∧ RR T Hi F' H σ (frzR ρ r) v r' ∧ ∀ k, r' ≠ .bo k := by
  cases r with
  | im d => cases e; exact ⟨F, Fr.refl, I, h, fun k z => by cases z⟩
  | fr d => cases e; exact ⟨F, Fr.refl, I, h, fun k z => by cases z⟩
  | bo k =>
    have e : (dat ρ (.bo k)).map Rv.im = some r' := e
    cases hd : dat ρ (.bo k) with
    | none => rw [hd] at e; cases e
    | some d =>
      rw [hd] at e
      cases e
      obtain ⟨F1, f1, I1, r1⟩ := I.freeze h hd
      exact ⟨F1, f1, I1, r1, fun k z => by cases z⟩
def store2 (i j : Nat) (r s : Rv) (ρ : Rho) : Option Rho := match r.own ρ with
  | some r' => (match s.own (frzR ρ r) with
    | some s' => (match setRv i r' (frzR (frzR ρ r) s) with
      | some ρ1 => setRv j s' ρ1
      | none => none)
    | none => none)
  | none => none
theorem set_rv_own {i : Nat} {r : Rv} (I : En T F σ ρ H) (hb : ∀ k, r ≠ .bo k) (rr : RR T H0 F H σ ρ v r) (e : setRv i r ρ = some ρ1) (b : Addr) (h : Own (σ.set i (some v)) ρ1 b) : Own σ ρ b ∨ v = .ref b := by
  have go : ∀ {s : Sl}, setSl ρ i s = some ρ1 → Own σ ρ b ∨ v = .ref b := fun {s} e => by
    obtain ⟨old, e0, hio, rfl, hl⟩ := setSl_some e
    obtain ⟨k, io, d, e1, e2⟩ := h
    rcases get_set_eq e1 with ⟨hk, _⟩ | ⟨hk, e1⟩
    · subst hk
      rw [List.getElem?_set_self (by rw [I.len]; exact hl)] at e2
      exact .inr (Option.some.inj (Option.some.inj e2))
    · rw [List.getElem?_set_ne hk] at e2
      exact .inl ⟨k, io, d, e1, e2⟩
  cases r with
  | im d => exact go (s := .im false d) e
  | fr d => exact go (s := .ow false d) e
  | bo k => exact absurd rfl (hb k)
def mPar2 (i j : Nat) (ma mb : ME) : MS := fun ρ => (ma ρ).then fun r ρ1 => (mb ρ1).then fun s ρ2 => optS (store2 i j r s ρ2)
theorem ss_par2 {ta tb : TE} {ma mb : ME} (i j : Nat) (ha : SE T W ta ma) (hb : SE T W tb mb) : SS T W (tPar i j (tCons ta (tCons tb tNil))) (mPar2 i j ma mb) := fun F H σ ρ D I q => by
  refine ss_then ha I q fun v r ρ1 F1 H1 f1 I1 rr q1 => ?_
  refine hb F1 H1 σ ρ1 _ I1 ?_
  cases eb : mb ρ1 with
  | st => rw [eb] at q1; exact q1
  | ex c x ρ' =>
    rw [eb] at q1
    exact fun d u F' H' f2 I2 ru hd hn hF => q1 d u σ F' H' (f1.trans f2) I2 ru hd (f1.none hn) hF
  | ok s ρ2 =>
    rw [eb] at q1
    have q1 : SPost T W F H σ ρ D (optS (store2 i j r s ρ2)) := q1
    intro w F2 H2 f2 I2 rs
    show ∃ a b, [v, w] = [a, b] ∧ D.nx ((σ.set i (some a)).set j (some b)) H2
    refine ⟨v, w, rfl, ?_⟩
    have rr2 : RR T H F2 H2 σ ρ2 v r := rr.fr2 f2 I1
    -- two new objects are two
    have two : ∀ d e, r = .fr d → s = .fr e → v ≠ w := fun d e h1 h2 hvw => by
      subst h1 h2
      obtain ⟨p, e1, _, b, _, _⟩ := rr
      obtain ⟨p', e2, _, _, hi, _⟩ := rs
      rw [e1, e2] at hvw
      cases hvw
      obtain ⟨o, ho⟩ := b.some
      rw [hi] at ho
      cases ho
    have rs2 : RR T H F2 H2 σ ρ2 w s := rs.later fun _ => f1.none
    have f12 := f1.trans f2
    unfold store2 at q1
    cases e1 : r.own ρ2 with
    | none => rw [e1] at q1; exact q1.elim
    | some r' =>
      rw [e1] at q1
      obtain ⟨F3, f3, I3, rr3, nb3⟩ := frz_keep I2 rr2 e1
      have rs3 : RR T H F3 H2 σ (frzR ρ2 r) w s := rs2.fr2 f3 I2
      cases e2 : s.own (frzR ρ2 r) with
      | none => simp only [e2] at q1; exact q1.elim
      | some s' =>
        simp only [e2] at q1
        obtain ⟨F4, f4, I4, rs4, nb4⟩ := frz_keep I3 rs3 e2
        have rr4 : RR T H F4 H2 σ (frzR (frzR ρ2 r) s) v r' := rr3.fr2 f4 I3
        have fr4 := (f12.trans f3).trans f4
        cases e3 : setRv i r' (frzR (frzR ρ2 r) s) with
        | none => simp only [e3] at q1; exact q1.elim
        | some ρ5 =>
          simp only [e3] at q1
          obtain ⟨F5, f5, I5⟩ := set_rv fr4 I4 rr4 e3
          have own5 := set_rv_own I4 nb3 rr4 e3
          cases e5 : setRv j s' ρ5 with
          | none => rw [e5] at q1; exact q1.elim
          | some ρ6 =>
            rw [e5] at q1
            have q1 : SPost T W F H σ ρ D (.nx ρ6) := q1
            -- F5 is F4: nothing was frozen
            have fin : ∀ F5', F5' = F4 → Fr F H σ ρ F5' H2 (σ.set i (some v)) ρ5 → En T F5' (σ.set i (some v)) ρ5 H2 → D.nx ((σ.set i (some v)).set j (some w)) H2 := fun F5' hF f5 I5 => by
              subst hF
              have rs5 : RR T H F5' H2 (σ.set i (some v)) ρ5 w s' := by
                cases s' with
                | im d => exact rs4
                | bo k => exact absurd rfl (nb4 k)
                | fr d =>
                  obtain ⟨p, ew, n, b, hi, ho⟩ := rs4
                  refine ⟨p, ew, n, b, hi, fun hw => ?_⟩
                  rcases own5 p hw with h | h
                  · exact ho h
                  · -- v is the same new object: no
                    cases r' with
                    | bo k => exact absurd rfl (nb3 k)
                    | fr d1 =>
                      have h1 : r = .fr d1 := by
                        cases r with
                        | im _ => cases e1
                        | fr _ => cases e1; rfl
                        | bo k =>
                          have e1 : (dat ρ2 (.bo k)).map Rv.im = some (.fr d1) := e1
                          cases hk : dat ρ2 (.bo k) with
                          | none => rw [hk] at e1; cases e1
                          | some _ => rw [hk] at e1; cases e1
                      have h2 : s = .fr d := by
                        cases s with
                        | im _ => cases e2
                        | fr _ => cases e2; rfl
                        | bo k =>
                          have e2 : (dat (frzR ρ2 r) (.bo k)).map Rv.im = some (.fr d) := e2
                          cases hk : dat (frzR ρ2 r) (.bo k) with
                          | none => rw [hk] at e2; cases e2
                          | some _ => rw [hk] at e2; cases e2
                      exact two d1 d h1 h2 (h.trans ew.symm)
                    | im d1 =>
                      -- the slot i is of what stays: then p is no own object of the new slots
                      obtain ⟨k, io, d2, g1, g2⟩ := hw
                      have e3' : setSl (frzR (frzR ρ2 r) s) i (.im false d1) = some ρ5 := e3
                      obtain ⟨old, _, _, rfl, hl⟩ := setSl_some e3'
                      rcases get_set_eq g1 with ⟨_, z⟩ | ⟨hk, g1⟩
                      · cases z
                      · rw [List.getElem?_set_ne hk] at g2
                        exact ho ⟨k, io, d2, g1, g2⟩
              obtain ⟨F6, f6, I6⟩ := set_rv f5 I5 rs5 e5
              exact q1 _ F6 H2 f6 I6
            cases r' with
            | bo k => exact absurd rfl (nb3 k)
            | im d1 =>
              obtain ⟨old, _, _, _, hl⟩ := setSl_some (show setSl _ i (.im false d1) = some ρ5 from e3)
              obtain ⟨g, J⟩ := set_im (x := some v) (by intro _ _ z; cases z) I4 e3 (slOk_im (by rw [I4.len]; exact hl) rr4)
              exact fin F4 rfl (fr4.trans g) J
            | fr d1 =>
              obtain ⟨p, rfl, n, b, hi, ho⟩ := rr4
              obtain ⟨g, J⟩ := set_ow fr4 I4 e3 n b hi ho
              exact fin F4 rfl g J
/-! ### calls as the printed texts have them -/
theorem se_callSD {m : DM} {ta : TA} {ma : MA} {dvs : List V} {ds : List Py} {E : L2.St → XK} (hE : ∀ c d σ H', W c d σ H' → E σ c d H') (hd : Dfl T dvs ds) (h : SA T W ta ma) : SE T W (tCallSD (spM T m) dvs E ta) (mCall m (aDef ds ma)) := fun F H σ ρ Q I q => by
  unfold mCall aDef at q
  have q : EPost T W F H σ ρ Q (aBind (ma ρ) fun rs ρ1 => callR m ρ1 (rs ++ ds.map .im)) := by
    cases e : ma ρ with
    | st => rw [e] at q; exact q
    | ex c w ρ' => rw [e] at q; exact q
    | ok rs ρ' => rw [e] at q; exact q
  refine sa_then h I q fun vs rs ρ1 F1 H1 e f1 I1 s1 q1 => ?_
  exact call_core (fun c d H' => hE c d σ H') I1 (s1.dfl hd) q1
/-- .. without defaults -/
theorem se_callS0 {m : DM} {ta : TA} {ma : MA} {E : L2.St → XK} (hE : ∀ c d σ H', W c d σ H' → E σ c d H') (h : SA T W ta ma) : SE T W (tCallSD (spM T m) [] E ta) (mCall m ma) := fun F H σ ρ Q I q => by
  refine sa_then h I q fun vs rs ρ1 F1 H1 e f1 I1 s1 q1 => ?_
  have z : spM T m vs H1 Q (E σ) := call_core (fun c d H' => hE c d σ H') I1 s1 q1
  exact (List.append_nil vs).symm ▸ z
theorem passN {X : Cx} (σ : L2.St) : PassesAt (L2.CX X.prog X.w) X σ E0 := fun pins H s e s' I c => passL pins σ H s e s' I c
/-! ### in place -/
def pyAddI : Py → Py → OV
  | .int i, .int j => .im (.int (i + j))
  | .str a, .str b => if a.length + b.length ≤ sizeLine then .im (.str (a ++ b)) else .st
  | _, _ => .st
def rAddI : R2 := fun x y H Q => rI0 (fun i j => .int (i + j)) x y H Q ∨ (∃ i j, x = .str i ∧ y = .str j ∧ i.length + j.length ≤ sizeLine ∧ Q (.str (i ++ j)) H)
theorem ip_addA {X : Cx} : PIp X .Add rAddI := OpR.or (f := inplaceOp .Add) iop_add iop_add_str
theorem r2_addI : R2ok T rAddI pyAddI := fun F H x y d e Q fh px py q => by
  cases d <;> cases e <;> try exact q.elim
  · rename_i i j
    exact .inl ⟨i, j, px.int, py.int, q.int fh⟩
  · rename_i a b
    have q : Give T F H Q (if a.length + b.length ≤ sizeLine then .im (.str (a ++ b)) else .st) := q
    by_cases h : a.length + b.length ≤ sizeLine
    · rw [if_pos h] at q
      exact .inr ⟨a, b, px.str, py.str, h, q.str fh⟩
    · rw [if_neg h] at q; exact q.elim
theorem ip_subA {X : Cx} : PIp X .Sub (rI0 fun i j => .int (i - j)) := iop_sub
theorem ip_divA {X : Cx} : PIp X .FloorDiv (rI CDiv fun i j => .int (i / j)) := iop_fdiv
theorem ip_modA {X : Cx} : PIp X .Mod (rI (fun _ j => 0 < j) fun i j => .int (i % j)) := iop_mod
theorem ip_mulA {X : Cx} : PIp X .Mult (rI CMul fun i j => .int (i * j)) := iop_mul
def pyMulI := pyII cMul fun i j => .int (i * j)
theorem r2_mulI : R2ok T (rI CMul fun i j => .int (i * j)) pyMulI := r2_ii (fun i j h => cMul_ok h) fun F i j => .int _
/-! ### a law's own end -/
def spLaw (K : PySem.W.Frag) : Sp := fun vs H Q _ => ∃ (a : Addr) (ns : List Int), vs = [.ref a] ∧ SqL K H a (ns.map V.int) ∧ ns.length ≤ 63 ∧ ∀ H', Q (.bl true) H'
theorem repInts (F : Hp) : ∀ ns : List Int, RepL T F (ns.map V.int) (ns.map Py.int)
  | [] => .nil
  | n :: ns => .cons (.int n) (repInts F ns)
theorem law_imp {m : DM} (hi : m.ios = [false]) (h0 : T.lo = fun _ => none) (run : ∀ ns : List Int, ns.length ≤ 63 → ∃ os, m.run [.im false (.scr (ns.map Py.int))] = .ok (.im (.bl true)) os) (vs : List V) (H : Hp) (Q : VK) (E : XK) (h : spLaw T.K vs H Q E) : spM T m vs H Q E := by
  obtain ⟨a, ns, rfl, hS, hl, k⟩ := h
  obtain ⟨os, e⟩ := run ns hl
  refine ⟨by rw [hi]; rfl, H, [.im false (.scr (ns.map Py.int))], by rw [hi]; rfl, ⟨Same.refl _, rfl, fun i s e => ?_, fun i j a b d e p h1 => ?_, fun b o z => (by rw [h0] at z; cases z), fun s z => (by rw [NoSg.h] at z; cases z)⟩, ?_⟩
  · cases i with
    | zero => cases e; exact ⟨.ref a, rfl, .scr hS (repInts H ns)⟩
    | succ i => cases e
  · cases i with
    | zero => cases h1
    | succ i => cases h1
  · rw [e]
    exact ⟨fun i z => (by cases z), fun v F' H' _ _ rr => (by cases rr; exact k H')⟩
theorem noCX {P : Program} {w : World} {H : Hp} {s : Shared} {e : Value} {s' : Shared} (h : L2.CX P w [] H s (fun _ _ _ => False) e s') : False := by
  obtain ⟨_, _, _, _, _, _, _, _, _, _, _, _, z⟩ := h
  exact z
/-- how often a while may turn -/
def whileFuel : Nat := 1000000
end
end Mr
/-! Mr: calls by keywords, the values picked by their places -/
namespace Mr
open PySem PySem.Spec PyProof.Rows L2
def pick {α : Type} : List Nat → List α → List α
  | [], _ => []
  | i :: is, l => (match l[i]? with
    | some a => a :: pick is l
    | none => pick is l)
def arrP (ix : List Nat) (ds : List Py) (rs ss : List Rv) : List Rv := pick ix (rs ++ ss ++ ds.map .im)
theorem pick_vals {vs : List V} {us : List Value} (h : Vals vs us) : ∀ ix : List Nat, Vals (pick ix vs) (pick ix us)
  | [] => .nil
  | i :: ix => by
    have t := pick_vals h ix
    cases e : vs[i]? with
    | some v =>
      obtain ⟨u, e2, r⟩ := h.get e
      simp only [pick, e, e2]
      exact .cons r t
    | none =>
      have l := h.length
      have e2 : us[i]? = none := by
        rw [List.getElem?_eq_none_iff] at e ⊢
        omega
      simp only [pick, e, e2]
      exact t
section
variable {T : Tb} {F : Hp} {σ : L2.St}
variable [NoSg T]
theorem pick_rsl {vs : List V} {rs : List Rv} (h : RSL T F σ vs rs) : ∀ ix : List Nat, RSL T F σ (pick ix vs) (pick ix rs)
  | [] => .nil
  | i :: ix => by
    have t := pick_rsl h ix
    cases e : rs[i]? with
    | some r =>
      obtain ⟨v, e2, s⟩ := h.at e
      simp only [pick, e, e2]
      exact .cons s t
    | none =>
      have l := h.length
      have e2 : vs[i]? = none := by
        rw [List.getElem?_eq_none_iff] at e ⊢
        omega
      simp only [pick, e, e2]
      exact t
theorem rsl_app {vs : List V} {rs : List Rv} (h : RSL T F σ vs rs) {zs : List V} {ss : List Rv} (k : RSL T F σ zs ss) : RSL T F σ (vs ++ zs) (rs ++ ss) := by
  induction h with
  | nil => exact k
  | cons h _ ih => exact .cons h ih
theorem hg_pick {n k : Nat} (ix : List Nat) {dvs : List V} {ds : List Py} (hd : Dfl T dvs ds) (F : Hp) (σ : L2.St) (vs zs : List V) (rs ss : List Rv) (h1 : RSL T F σ vs rs) (h2 : RSL T F σ zs ss) (_ : rs.length = n) (_ : ss.length = k) : RSL T F σ (pick ix (vs ++ zs ++ dvs)) (arrP ix ds rs ss) :=
  pick_rsl ((rsl_app h1 h2).dfl hd) ix
end
/-- a def with defaults and no parameters by keyword alone, called by keywords -/
theorem kbn {K : PySem.W.Frag} {x qual : Str} {params : Arguments} {body : List Stmt} {scope : Scope} {dvs : List V} {kws : List (Str × V)} {f : Addr} {fd : FuncData} {ps : List Str}
    (F : FunD K x qual params body scope dvs kws f fd) (n : Nat) (ks : List Str) (ix : List Nat) (hd : dvs ≠ [])
    (h : ∀ (T : Addr) (kV doc pm : Value) (an : Option Addr) (cdv ct : Value) (us its ws : List Value), us.length = n → its.length = dvs.length → ws.length = ks.length →
      ∃ k, bindArgs (PySem.W.fnOf x qual params body scope (.ref T) kV doc pm an cdv ct) ⟨us, ks.zip ws⟩ = seqItems? (.ref T) >>= k ∧ k (some its.toArray) = pure (ps.zip (pick ix (us ++ ws ++ its)))) :
    ∃ its : List Value, KBn K fd ps n ks (fun us ws => pick ix (us ++ ws ++ its)) (fun vs zs => pick ix (vs ++ zs ++ dvs)) := by
  obtain ⟨oc, od, dV, kV, doc, pm, an, cdv, ct, osl, rfl, lk, hcd, hD, hK⟩ := F.ex
  rcases hD with ⟨e, _⟩ | ⟨_, T, o, its, m, rfl, lT, oT, rT⟩
  · exact (hd e).elim
  · refine ⟨its, ⟨fun s us ws X l1 l2 => ?_, fun r1 r2 => pick_vals ((r1.append r2).append rT) ix⟩⟩
    obtain ⟨k, e1, e2⟩ := h T kV doc pm an cdv ct us its ws l1 rT.length.symm l2
    refine BindsTo.of_looks fun M => ?_
    rw [e1]
    exact looks_items X lT oT (.of_pure e2)
end Mr
/-! Mr: how a mirror is reckoned: one row for each word. -/
namespace Mr
open PySem L2
section
variable {ρ ρ1 ρ2 : Rho} {f : Py → Py → OV} {g : Py → OV} {ma mb mc mt me : ME} {a b : MS} {i j : Nat} {r s : Rv} {d e : Py} {io : Bool}
/-! ### the ends -/
theorem eb_ok {k : Rv → Rho → ER} : ER.bind (.ok r ρ) k = k r ρ := rfl
theorem eb_st {k : Rv → Rho → ER} : ER.bind .st k = .st := rfl
theorem eb_ex {c : Nat} {w : Py} {k : Rv → Rho → ER} : ER.bind (.ex c w ρ) k = .ex c w ρ := rfl
theorem et_ok {k : Rv → Rho → SR} : ER.then (.ok r ρ) k = k r ρ := rfl
theorem et_st {k : Rv → Rho → SR} : ER.then .st k = .st := rfl
theorem et_ex {c : Nat} {w : Py} {k : Rv → Rho → SR} : ER.then (.ex c w ρ) k = .ex c w ρ := rfl
theorem sb_nx {k : MS} : SR.bind (.nx ρ) k = k ρ := rfl
theorem sb_rt {k : MS} : SR.bind (.rt r ρ) k = .rt r ρ := rfl
theorem sb_bk {k : MS} : SR.bind (.bk ρ) k = .bk ρ := rfl
theorem sb_ct {k : MS} : SR.bind (.ct ρ) k = .ct ρ := rfl
theorem sb_ex {c : Nat} {w : Py} {k : MS} : SR.bind (.ex c w ρ) k = .ex c w ρ := rfl
theorem sb_st {k : MS} : SR.bind .st k = .st := rfl
theorem ov_im : OV.er (.im d) ρ = .ok (.im d) ρ := rfl
theorem ov_fr : OV.er (.fr d) ρ = .ok (.fr d) ρ := rfl
theorem ov_st : OV.er .st ρ = .st := rfl
/-! ### data of a value -/
def slDat : Option Sl → Option Py
  | some s => s.dat
  | none => none
theorem dat_im : dat ρ (.im d) = some d := rfl
theorem dat_fr : dat ρ (.fr d) = some d := rfl
theorem dat_bo : dat ρ (.bo i) = slDat ρ[i]? := rfl
theorem slDat_im : slDat (some (.im io d)) = some d := rfl
theorem slDat_ow : slDat (some (.ow io d)) = some d := rfl
/-! ### expressions -/
def varR (i : Nat) (ρ : Rho) : Option Sl → ER
  | some (.im _ d) => .ok (.im d) ρ
  | some (.ow _ _) => .ok (.bo i) ρ
  | _ => .st
theorem ev_var : mVar i ρ = varR i ρ ρ[i]? := rfl
theorem varR_im : varR i ρ (some (.im io d)) = .ok (.im d) ρ := rfl
theorem varR_ow : varR i ρ (some (.ow io d)) = .ok (.bo i) ρ := rfl
theorem ev_c : mC d ρ = .ok (.im d) ρ := rfl
def op2 (f : Py → Py → OV) (ρ : Rho) : Option Py → Option Py → ER
  | some d, some e => (f d e).er ρ
  | _, _ => .st
theorem ev_op : mOp f ma mb ρ = (ma ρ).bind fun x ρ1 => (mb ρ1).bind fun y ρ2 => op2 f ρ2 (dat ρ2 x) (dat ρ2 y) := by
  rfl
theorem op2_some : op2 f ρ (some d) (some e) = (f d e).er ρ := rfl
def op1 (g : Py → OV) (ρ : Rho) : Option Py → ER
  | some d => (g d).er ρ
  | none => .st
theorem ev_un : mUn g ma ρ = (ma ρ).bind fun x ρ1 => op1 g ρ1 (dat ρ1 x) := by
  rfl
theorem op1_some : op1 g ρ (some d) = (g d).er ρ := rfl
/-! ### arguments -/
def aCons2 (r : Rv) : AR → AR
  | .ok rs ρ => .ok (r.settled :: rs) ρ
  | x => x
def aCons1 (mr : MA) : ER → AR
  | .ok r ρ => aCons2 r (mr ρ)
  | .ex c w ρ => .ex c w ρ
  | .st => .st
theorem ev_anil : aNil ρ = .ok [] ρ := rfl
theorem ev_acons {mr : MA} : aCons me mr ρ = aCons1 mr (me ρ) := by
  unfold aCons
  cases me ρ with
  | ok r ρ1 => show _ = aCons2 r (mr ρ1); cases h : mr ρ1 <;> (show (match mr ρ1 with | .ok rs ρ2 => AR.ok (r.settled :: rs) ρ2 | .ex c w ρ2 => .ex c w ρ2 | .st => .st) = _; rw [h]; rfl)
  | _ => rfl
theorem ac1_ok {mr : MA} : aCons1 mr (.ok r ρ) = aCons2 r (mr ρ) := rfl
theorem ac2_ok {rs : List Rv} : aCons2 r (.ok rs ρ) = .ok (r.settled :: rs) ρ := rfl
theorem set_im' : Rv.settled (.im d) = .im d := rfl
theorem set_fr' : Rv.settled (.fr d) = .im d := rfl
theorem set_bo' : Rv.settled (.bo i) = .bo i := rfl
theorem ab_ok {rs : List Rv} {k : List Rv → Rho → ER} : aBind (.ok rs ρ) k = k rs ρ := rfl
theorem dats_nil : dats ρ [] = some [] := rfl
def dats2 : Option Py → Option (List Py) → Option (List Py)
  | some d, some ds => some (d :: ds)
  | _, _ => none
theorem dats_cons {rs : List Rv} : dats ρ (r :: rs) = dats2 (dat ρ r) (dats ρ rs) := by
  show (match dat ρ r, dats ρ rs with | some d, some ds => some (d :: ds) | _, _ => none) = _
  cases dat ρ r <;> cases dats ρ rs <;> rfl
theorem dats2_some {ds : List Py} : dats2 (some d) (some ds) = some (d :: ds) := rfl
/-- the objects that are put to what stays -/
theorem frz_nil : frz ρ [] = ρ := rfl
theorem frz_im {rs : List Rv} : frz ρ (.im d :: rs) = frz ρ rs := rfl
theorem frz_bo {rs : List Rv} : frz ρ (.bo i :: rs) = frz (ρ.freeze i) rs := rfl
def freezeS (ρ : Rho) (i : Nat) : Option Sl → Rho
  | some (.ow io d) => ρ.set i (.im io d)
  | _ => ρ
theorem ev_freeze : ρ.freeze i = freezeS ρ i ρ[i]? := by
  unfold Rho.freeze
  cases ρ[i]? with
  | none => rfl
  | some s => cases s <;> rfl
theorem freezeS_ow : freezeS ρ i (some (.ow io d)) = ρ.set i (.im io d) := rfl
theorem freezeS_im : freezeS ρ i (some (.im io d)) = ρ := rfl
theorem frzR_im : frzR ρ (.im d) = ρ := rfl
theorem frzR_fr : frzR ρ (.fr d) = ρ := rfl
theorem frzR_bo : frzR ρ (.bo i) = ρ.freeze i := rfl
def its2 (k : List Py → OV) (ρ : Rho) : Option (List Py) → ER
  | some ds => (k ds).er ρ
  | none => .st
theorem ev_its {m : MA} {k : List Py → OV} : mIts m k ρ = aBind (m ρ) fun rs ρ1 => its2 k (frz ρ1 rs) (dats ρ1 rs) := by
  rfl
theorem its2_some {k : List Py → OV} {ds : List Py} : its2 k ρ (some ds) = (k ds).er ρ := rfl
theorem ev_tup {m : MA} : mTup m = mIts m fun ds => if ds.length ≤ sizeLine then .im (.tup ds) else .st := rfl
theorem ev_lst {m : MA} : mLst m = mIts m fun ds => if ds.length ≤ sizeLine then .fr (.lst ds) else .st := rfl
theorem ev_cb {m : MA} {k : List Py → OV} : mCB k m ρ = aBind (m ρ) fun rs ρ1 => its2 k ρ1 (dats ρ1 rs) := by
  rfl
theorem one_1 : one g [d] = g d := rfl
theorem two_2 : two f [d, e] = f d e := rfl
/-! ### tests -/
def bR (ρ : Rho) : Option Bool → ER
  | some b => .ok (.im (.bl b)) ρ
  | none => .st
theorem bl_im {c : Bool} : Rv.bl? (.im (.bl c)) = some c := rfl
theorem ev_B : mB me ρ = (me ρ).bind fun r ρ1 => bR ρ1 r.bl? := by
  unfold mB
  congr; funext r ρ1
  cases r with
  | im d => cases d <;> rfl
  | _ => rfl
theorem bR_some {c : Bool} : bR ρ (some c) = .ok (.im (.bl c)) ρ := rfl
def truR (ρ : Rho) : Option Py → ER
  | some d => bR ρ (pyTruth d)
  | none => .st
theorem ev_tru : mTru me ρ = (me ρ).bind fun r ρ1 => truR ρ1 (dat ρ1 r) := by
  rfl
theorem truR_some : truR ρ (some d) = bR ρ (pyTruth d) := rfl
theorem tru_bl {c : Bool} : pyTruth (.bl c) = some c := rfl
theorem tru_int {n : Int} : pyTruth (.int n) = some (n != 0) := rfl
theorem tru_lst {l : List Py} : pyTruth (.lst l) = some (!l.isEmpty) := rfl
theorem tru_tup {l : List Py} : pyTruth (.tup l) = some (!l.isEmpty) := rfl
theorem tru_non : pyTruth .non = some false := rfl
/-- two ways -/
def ifE (ma mb : ME) (ρ : Rho) : Option Bool → ER
  | some true => ma ρ
  | some false => mb ρ
  | none => .st
theorem ev_if : mIf mt ma mb ρ = (mt ρ).bind fun r ρ1 => ifE ma mb ρ1 r.bl? := by
  unfold mIf
  congr; funext r ρ1
  cases r with
  | im d => cases d <;> first | rfl | (rename_i b; cases b <;> rfl)
  | _ => rfl
theorem ifE_t : ifE ma mb ρ (some true) = ma ρ := rfl
theorem ifE_f : ifE ma mb ρ (some false) = mb ρ := rfl
theorem ev_andT : mAndT ma mb ρ = (ma ρ).bind fun r ρ1 => ifE mb (mC (.bl false)) ρ1 r.bl? := by
  unfold mAndT
  congr; funext r ρ1
  cases r with
  | im d => cases d <;> first | rfl | (rename_i b; cases b <;> rfl)
  | _ => rfl
theorem ev_orT : mOrT ma mb ρ = (ma ρ).bind fun r ρ1 => ifE (mC (.bl true)) mb ρ1 r.bl? := by
  unfold mOrT
  congr; funext r ρ1
  cases r with
  | im d => cases d <;> first | rfl | (rename_i b; cases b <;> rfl)
  | _ => rfl
theorem ev_notT : mNotT ma ρ = (ma ρ).bind fun r ρ1 => bR ρ1 (r.bl?.map not) := by
  unfold mNotT
  congr; funext r ρ1
  cases r with
  | im d => cases d <;> rfl
  | _ => rfl
theorem ev_and : mAnd ma mb ρ = (ma ρ).bind fun r ρ1 => ifE mb (mC (.bl false)) ρ1 r.bl? := ev_andT
theorem ev_or : mOr ma mb ρ = (ma ρ).bind fun r ρ1 => ifE (mC (.bl true)) mb ρ1 r.bl? := ev_orT
theorem ev_not : mNot ma ρ = (ma ρ).bind fun r ρ1 => bR ρ1 (r.bl?.map not) := ev_notT
/-! ### slices -/
theorem int_im {n : Int} : Rv.int? (.im (.int n)) = some n := rfl
def intR (ρ : Rho) : Option Int → ER
  | some n => .ok (.im (.int n)) ρ
  | none => .st
theorem ev_int : mInt me ρ = (me ρ).bind fun r ρ1 => intR ρ1 r.int? := by
  rfl
theorem intR_some {n : Int} : intR ρ (some n) = .ok (.im (.int n)) ρ := rfl
theorem pb_non {k : Option Int → Rho → ER} : pBind (.ok (.im .non) ρ) k = k none ρ := rfl
theorem pb_int {n : Int} {k : Option Int → Rho → ER} : pBind (.ok (.im (.int n)) ρ) k = k (some n) ρ := rfl
def slR (l h : Option Int) (ρ : Rho) : Option Py → ER
  | some d => (pySl d l h).er ρ
  | none => .st
theorem ev_sl {ml mh : ME} : mSl me ml mh ρ = (me ρ).bind fun x ρ1 => pBind (ml ρ1) fun l ρ2 => pBind (mh ρ2) fun h ρ3 => slR l h ρ3 (dat ρ3 x) := by
  rfl
theorem slR_some {l h : Option Int} : slR l h ρ (some d) = (pySl d l h).er ρ := rfl
/-! ### statements -/
theorem ev_seq : mSeq a b ρ = (a ρ).bind b := rfl
theorem ev_next : mNext ρ = .nx ρ := rfl
theorem ev_brk : mBreak ρ = .bk ρ := rfl
theorem ev_cont : mCont ρ = .ct ρ := rfl
theorem ev_drop : mDrop me ρ = (me ρ).then fun _ ρ1 => .nx ρ1 := rfl
theorem ev_ret : mRet me ρ = (me ρ).then fun r ρ1 => .rt r ρ1 := rfl
theorem ev_retN : mRetN ρ = .rt (.im .non) ρ := rfl
theorem ev_set : mSet i me ρ = (me ρ).then fun r ρ1 => optS (setRv i r ρ1) := rfl
theorem ev_aug : mAug i f me ρ = (mOp f (mVar i) me ρ).then fun r ρ1 => optS (setRv i r ρ1) := rfl
theorem optS_some : optS (some ρ) = .nx ρ := rfl
theorem optS_none : optS none = .st := rfl
def ifS (a b : MS) (ρ : Rho) : Option Bool → SR
  | some true => a ρ
  | some false => b ρ
  | none => .st
theorem ev_ifS : mIfS mt a b ρ = (mt ρ).then fun r ρ1 => ifS a b ρ1 r.bl? := by
  unfold mIfS
  congr; funext r ρ1
  cases r with
  | im d => cases d <;> first | rfl | (rename_i b; cases b <;> rfl)
  | _ => rfl
theorem ifS_t : ifS a b ρ (some true) = a ρ := rfl
theorem ifS_f : ifS a b ρ (some false) = b ρ := rfl
/-- a store into a slot that nobody keeps -/
def setSl' (ρ : Rho) (i : Nat) (s : Sl) : Option Sl → Option Rho
  | some old => if old.isIo = true then none else some (ρ.set i s)
  | none => none
theorem ev_setSl {s : Sl} : setSl ρ i s = setSl' ρ i s ρ[i]? := by
  unfold setSl
  cases ρ[i]? <;> rfl
theorem setSl_no {s : Sl} : setSl' ρ i s (some .no) = some (ρ.set i s) := rfl
theorem setSl_im {s : Sl} : setSl' ρ i s (some (.im false d)) = some (ρ.set i s) := rfl
theorem setSl_ow {s : Sl} : setSl' ρ i s (some (.ow false d)) = some (ρ.set i s) := rfl
theorem setSl_of {s t : Sl} (h : t.isIo = false) : setSl' ρ i s (some t) = some (ρ.set i s) := by
  show (if t.isIo = true then none else some (ρ.set i s)) = _
  rw [h]
  rfl
theorem setRv_im : setRv i (.im d) ρ = setSl ρ i (.im false d) := rfl
theorem setRv_fr : setRv i (.fr d) ρ = setSl ρ i (.ow false d) := rfl
def setRv2 (i j : Nat) (ρ : Rho) : Option Py → Option Rho
  | some d => setSl (ρ.freeze j) i (.im false d)
  | none => none
theorem setRv_bo : setRv i (.bo j) ρ = setRv2 i j ρ (dat ρ (.bo j)) := by
  show (match dat ρ (.bo j) with | some d => setSl (ρ.freeze j) i (.im false d) | none => none) = _
  cases dat ρ (.bo j) <;> rfl
theorem setRv2_some : setRv2 i j ρ (some d) = setSl (ρ.freeze j) i (.im false d) := rfl
/-! ### own objects -/
def owR : Option Sl → Option (Bool × Py)
  | some (.ow io d) => some (io, d)
  | _ => none
theorem ev_owS : owS ρ i = owR ρ[i]? := by
  unfold owS
  cases ρ[i]? with
  | none => rfl
  | some s => cases s <;> rfl
theorem owR_ow : owR (some (.ow io d)) = some (io, d) := rfl
def mut3 (ρ : Rho) (i : Nat) (io : Bool) : Option (Py × Py) → ER
  | some (d', res) => .ok (.im res) (ρ.set i (.ow io d'))
  | none => .st
def mut2 (h : Py → List Py → Option (Py × Py)) (ρ : Rho) (i : Nat) : Option (List Py) → Option (Bool × Py) → ER
  | some ds, some (io, d) => mut3 ρ i io (h d ds)
  | _, _ => .st
def mut1 (ty : String) (h : Py → List Py → Option (Py × Py)) (i : Nat) (x : AR) : Option (Bool × Py) → ER
  | some (_, d0) => if tyOf d0 ty = true then aBind x fun rs ρ1 => mut2 h (frz ρ1 rs) i (dats ρ1 rs) (owS (frz ρ1 rs) i) else .st
  | none => .st
theorem ev_mut {ty : String} {h : Py → List Py → Option (Py × Py)} {m : MA} : mMut ty h i m ρ = mut1 ty h i (m ρ) (owS ρ i) := by
  unfold mMut
  cases owS ρ i with
  | none => rfl
  | some iod =>
    obtain ⟨io, d0⟩ := iod
    show (if tyOf d0 ty = true then _ else ER.st) = (if tyOf d0 ty = true then _ else ER.st)
    congr 1
    congr; funext rs ρ1
    cases dats ρ1 rs with
    | none => rfl
    | some ds =>
      show (match owS (frz ρ1 rs) i with | some (io, d) => (match h d ds with | some (d', res) => ER.ok (.im res) ((frz ρ1 rs).set i (.ow io d')) | none => .st) | none => .st) = mut2 h (frz ρ1 rs) i (some ds) (owS (frz ρ1 rs) i)
      cases owS (frz ρ1 rs) i with
      | none => rfl
      | some x =>
        obtain ⟨io, d⟩ := x
        show (match h d ds with | some (d', res) => ER.ok (.im res) ((frz ρ1 rs).set i (.ow io d')) | none => .st) = mut3 (frz ρ1 rs) i io (h d ds)
        cases h d ds <;> rfl
theorem mut1_some {ty : String} {h : Py → List Py → Option (Py × Py)} {x : AR} (ht : tyOf d ty = true) : mut1 ty h i x (some (io, d)) = aBind x fun rs ρ1 => mut2 h (frz ρ1 rs) i (dats ρ1 rs) (owS (frz ρ1 rs) i) := by
  show (if tyOf d ty = true then _ else _) = _
  rw [if_pos ht]
theorem ty_lst {l : List Py} : tyOf (.lst l) "list" = true := rfl
theorem mut2_some {h : Py → List Py → Option (Py × Py)} {ds : List Py} : mut2 h ρ i (some ds) (some (io, d)) = mut3 ρ i io (h d ds) := rfl
theorem mut3_some {d' res : Py} : mut3 ρ i io (some (d', res)) = .ok (.im res) (ρ.set i (.ow io d')) := rfl
/-- x[j] = e -/
def put3 (ρ : Rho) (i : Nat) (io : Bool) : Option Py → SR
  | some d' => .nx (ρ.set i (.ow io d'))
  | none => .st
def put2 (d : Py) (ρ : Rho) (i : Nat) : Option Int → Option (Bool × Py) → SR
  | some j, some (io, .lst l) => put3 ρ i io (fSetL l j d)
  | _, _ => .st
def put1' (mi : ME) (ρ : Rho) (i : Nat) : Option Py → Option (Bool × Py) → SR
  | some d, some _ => (mi ρ).then fun s ρ2 => put2 d ρ2 i s.int? (owS ρ2 i)
  | _, _ => .st
theorem ev_putL {mi m : ME} : mPutL i mi m ρ = (m ρ).then fun r ρ1 => put1' mi (frzR ρ1 r) i (dat ρ1 r) (owS (frzR ρ1 r) i) := by
  rfl
theorem put1_some {mi : ME} {x : Bool × Py} : put1' mi ρ i (some d) (some x) = (mi ρ).then fun s ρ2 => put2 d ρ2 i s.int? (owS ρ2 i) := rfl
theorem put2_some {l : List Py} {n : Int} : put2 d ρ i (some n) (some (io, .lst l)) = put3 ρ i io (fSetL l n d) := rfl
theorem put3_some {d' : Py} : put3 ρ i io (some d') = .nx (ρ.set i (.ow io d')) := rfl
/-! ### targets -/
theorem gN_eq : gN i d ρ = setSl ρ i (.im false d) := rfl
theorem gT_eq {n : Nat} {gs : List Py → Rho → Option Rho} {l : List Py} : gT n gs (.tup l) ρ = if l.length = n then gs l ρ else none := rfl
theorem gs0_eq : gs0 [] ρ = some ρ := rfl
def gs2 (gs : List Py → Rho → Option Rho) (ds : List Py) : Option Rho → Option Rho
  | some ρ => gs ds ρ
  | none => none
theorem gs1_eq {g : Py → Rho → Option Rho} {gs : List Py → Rho → Option Rho} {ds : List Py} : gs1 g gs (d :: ds) ρ = gs2 gs ds (g d ρ) := by
  show (match g d ρ with | some ρ1 => gs ds ρ1 | none => none) = _
  cases g d ρ <;> rfl
theorem gs2_some {gs : List Py → Rho → Option Rho} {ds : List Py} : gs2 gs ds (some ρ) = gs ds ρ := rfl
def asg2 (g : Py → Rho → Option Rho) (ρ : Rho) : Option Py → SR
  | some d => optS (g d ρ)
  | none => .st
theorem ev_asg {g : Py → Rho → Option Rho} : mAsg g me ρ = (me ρ).then fun r ρ1 => asg2 g (frzR ρ1 r) (dat ρ1 r) := by
  rfl
theorem asg2_some {g : Py → Rho → Option Rho} : asg2 g ρ (some d) = optS (g d ρ) := rfl
theorem ev_par2 : mPar2 i j ma mb ρ = (ma ρ).then fun r ρ1 => (mb ρ1).then fun s ρ2 => optS (store2 i j r s ρ2) := rfl
/-! ### calls -/
theorem ev_call {m : DM} {mm : MA} : mCall m mm ρ = aBind (mm ρ) fun rs ρ1 => callR m ρ1 rs := rfl
/-- a def that looks at its arguments alone: its answer, whatever stands around -/
theorem frzI_pure : ∀ {args : List Py} {rs : List Rv}, dats ρ rs = some args → frzI ρ (args.map fun _ => false) rs = frz ρ rs := by
  intro args rs h
  have go : ∀ (rs : List Rv) (ρ : Rho) (n : Nat), rs.length = n → frzI ρ (List.replicate n false) rs = frz ρ rs := by
    intro rs
    induction rs with
    | nil => intro ρ n hn; subst hn; rfl
    | cons r rs ih =>
      intro ρ n hn
      subst hn
      show frzI (frzR ρ r) (List.replicate rs.length false) rs = frz ρ (r :: rs)
      rw [ih _ _ rfl]
      cases r <;> rfl
  have len : ∀ (rs : List Rv) (args : List Py), dats ρ rs = some args → rs.length = args.length := by
    intro rs
    induction rs with
    | nil => intro args h; cases h; rfl
    | cons r rs ih =>
      intro args h
      rw [dats_cons] at h
      cases h1 : dat ρ r with
      | none => rw [h1] at h; cases dats ρ rs <;> cases h
      | some d =>
        cases h2 : dats ρ rs with
        | none => rw [h1, h2] at h; cases h
        | some ds =>
          rw [h1, h2] at h
          cases h
          rw [List.length_cons, List.length_cons, ih ds h2]
  have e : (args.map fun _ => false) = List.replicate args.length false := List.map_const' ..
  rw [e]
  exact go rs ρ _ (len rs args h)
def Pure (m : DM) (args : List Py) (r : Rv) : Prop := m.ios = (args.map fun _ => false) ∧ m.run (args.map (Sl.im false)) = .ok r (args.map fun _ => .no)
theorem dats_frz {l : List Rv} : ∀ {rs : List Rv} {ρ : Rho}, dats (frz ρ l) rs = dats ρ rs := by
  have d1 : ∀ (l : List Rv) (ρ : Rho) (r : Rv), dat (frz ρ l) r = dat ρ r := by
    intro l
    induction l with
    | nil => intro ρ r; rfl
    | cons a l ih =>
      intro ρ r
      cases a with
      | im d => exact ih ρ r
      | fr d => exact ih ρ r
      | bo i => exact (ih (ρ.freeze i) r).trans dat_freeze
  intro rs
  induction rs with
  | nil => intro ρ; rfl
  | cons r rs ih => intro ρ; rw [dats_cons, dats_cons, ih, d1]
theorem argSls_pure : ∀ {rs : List Rv} {args : List Py}, dats ρ rs = some args → argSls ρ (args.map fun _ => false) rs = some (args.map (Sl.im false)) := by
  intro rs
  induction rs with
  | nil => intro args h; cases h; rfl
  | cons r rs ih =>
    intro args h
    rw [dats_cons] at h
    cases h1 : dat ρ r with
    | none => rw [h1] at h; cases dats ρ rs <;> cases h
    | some d =>
      cases h2 : dats ρ rs with
      | none => rw [h1, h2] at h; cases h
      | some ds =>
        rw [h1, h2] at h
        cases h
        show (match argSl ρ false r, argSls ρ (ds.map fun _ => false) rs with | some s, some ss => some (s :: ss) | _, _ => none) = _
        have e : argSl ρ false r = some (.im false d) := by
          have : argSl ρ false r = (dat ρ r).map (.im false) := by cases r <;> rfl
          rw [this, h1]
          rfl
        rw [e, ih h2]
        rfl
theorem ioIxs_pure : ∀ (args : List Py) (rs : List Rv), ioIxs (args.map fun _ => false) rs = []
  | [], _ => rfl
  | _ :: _, [] => rfl
  | _ :: as, r :: rs => by
    show ioIxs (as.map fun _ => false) rs = []
    exact ioIxs_pure as rs
theorem ups_pure : ∀ (args : List Py) (rs : List Rv) (os : List Sl), ups (args.map fun _ => false) rs os = []
  | [], _, _ => rfl
  | _ :: _, [], _ => rfl
  | _ :: _, _ :: _, [] => rfl
  | _ :: as, r :: rs, _ :: os => by
    show ups (as.map fun _ => false) rs os = []
    exact ups_pure as rs os
theorem call_pure {m : DM} {args : List Py} {x : Rv} {rs : List Rv} (h : Pure m args x) (hd : dats ρ rs = some args) : callR m ρ rs = .ok x (frz ρ rs) := by
  unfold callR
  rw [h.1, frzI_pure hd]
  have hd2 : dats (frz ρ rs) rs = some args := dats_frz.trans hd
  rw [argSls_pure hd2]
  show (if (ioIxs (args.map fun _ => false) rs).Nodup then (match m.run (args.map (Sl.im false)) with | .ok r os => ER.ok r (putU (frz ρ rs) (ups (args.map fun _ => false) rs os)) | .ex c w os => .ex c w (putU (frz ρ rs) (ups (args.map fun _ => false) rs os)) | .st => .st) else .st) = _
  rw [h.2, ioIxs_pure, if_pos List.nodup_nil]
  show ER.ok x (putU (frz ρ rs) (ups (args.map fun _ => false) rs _)) = _
  rw [ups_pure]
  rfl
/-- the first argument is the asker's own object, the others are looked at -/
def Turns (m : DM) (d : Py) (args : List Py) (r : Rv) (d' : Py) : Prop := m.ios = true :: (args.map fun _ => false) ∧ m.run (.ow true d :: args.map (Sl.im false)) = .ok r (.ow true d' :: args.map fun _ => .no)
theorem call_turns {m : DM} {d d' : Py} {args : List Py} {x : Rv} {rs : List Rv} {i : Nat} {io : Bool} (h : Turns m d args x d') (hd : dats ρ rs = some args) (hi : (frz ρ rs)[i]? = some (.ow io d)) : callR m ρ (.bo i :: rs) = .ok x ((frz ρ rs).set i (.ow io d')) := by
  unfold callR
  rw [h.1]
  show (match argSls (frzI ρ (args.map fun _ => false) rs) (true :: (args.map fun _ => false)) (.bo i :: rs) with | none => ER.st | some as => if (ioIxs (true :: (args.map fun _ => false)) (.bo i :: rs)).Nodup then (match m.run as with | .ok r os => ER.ok r (putU (frzI ρ (args.map fun _ => false) rs) (ups (true :: (args.map fun _ => false)) (.bo i :: rs) os)) | .ex c w os => .ex c w (putU (frzI ρ (args.map fun _ => false) rs) (ups (true :: (args.map fun _ => false)) (.bo i :: rs) os)) | .st => .st) else .st) = _
  rw [frzI_pure hd]
  have hd2 : dats (frz ρ rs) rs = some args := dats_frz.trans hd
  have e1 : argSl (frz ρ rs) true (.bo i) = some (.ow true d) := by
    show (match (frz ρ rs)[i]? with | some (.ow _ d) => some (Sl.ow true d) | some (.im _ d) => some (.im true d) | _ => none) = _
    rw [hi]
  have e2 : argSls (frz ρ rs) (true :: (args.map fun _ => false)) (.bo i :: rs) = some (.ow true d :: args.map (Sl.im false)) := by
    show (match argSl (frz ρ rs) true (.bo i), argSls (frz ρ rs) (args.map fun _ => false) rs with | some s, some ss => some (s :: ss) | _, _ => none) = _
    rw [e1, argSls_pure hd2]
  rw [e2]
  have e3 : ioIxs (true :: (args.map fun _ => false)) (.bo i :: rs) = [i] := by
    show i :: ioIxs (args.map fun _ => false) rs = [i]
    rw [ioIxs_pure]
  show (if (ioIxs (true :: (args.map fun _ => false)) (.bo i :: rs)).Nodup then (match m.run (.ow true d :: args.map (Sl.im false)) with | .ok r os => ER.ok r (putU (frz ρ rs) (ups (true :: (args.map fun _ => false)) (.bo i :: rs) os)) | .ex c w os => .ex c w (putU (frz ρ rs) (ups (true :: (args.map fun _ => false)) (.bo i :: rs) os)) | .st => .st) else .st) = _
  rw [e3, h.2, if_pos (List.nodup_cons.mpr ⟨by simp, List.nodup_nil⟩)]
  show ER.ok x (putU (frz ρ rs) ((i, .ow true d') :: ups (args.map fun _ => false) rs _)) = _
  rw [ups_pure]
  show ER.ok x (put1 (frz ρ rs) i (.ow true d')) = _
  have e4 : put1 (frz ρ rs) i (.ow true d') = (frz ρ rs).set i (.ow io d') := by
    unfold put1
    rw [hi]
  rw [e4]
end
end Mr
/-! Mr: a mirror is run step by step: what runs stands ahead, what waits stands behind it as a name with its parts. -/
namespace Mr
open PySem L2
def WE (e : ER) (K : ER → Prop) : Prop := K e
def WA (e : AR) (K : AR → Prop) : Prop := K e
def WS (e : SR) (K : SR → Prop) : Prop := K e
section
variable {ρ ρ1 ρ2 : Rho} {f : Py → Py → OV} {g : Py → OV} {ma mb mc mt me ml mh : ME} {mm mr : MA} {a b : MS} {i j : Nat} {r s : Rv} {d e : Py} {io : Bool} {K : ER → Prop} {KA : AR → Prop} {KS : SR → Prop} {rs : List Rv} {c : Nat} {w : Py}
/-! ### what waits for a value -/
def kBind (k : Rv → Rho → ER) (K : ER → Prop) : ER → Prop := fun e => K (e.bind k)
def kOp1 (f : Py → Py → OV) (mb : ME) (K : ER → Prop) : ER → Prop := fun e => K (e.bind fun x ρ1 => (mb ρ1).bind fun y ρ2 => op2 f ρ2 (dat ρ2 x) (dat ρ2 y))
def kOp2 (f : Py → Py → OV) (x : Rv) (K : ER → Prop) : ER → Prop := fun e => K (e.bind fun y ρ2 => op2 f ρ2 (dat ρ2 x) (dat ρ2 y))
def kUn (g : Py → OV) (K : ER → Prop) : ER → Prop := fun e => K (e.bind fun x ρ1 => op1 g ρ1 (dat ρ1 x))
def kB (K : ER → Prop) : ER → Prop := fun e => K (e.bind fun r ρ1 => bR ρ1 r.bl?)
def kTru (K : ER → Prop) : ER → Prop := fun e => K (e.bind fun r ρ1 => truR ρ1 (dat ρ1 r))
def kIf (ma mb : ME) (K : ER → Prop) : ER → Prop := fun e => K (e.bind fun r ρ1 => ifE ma mb ρ1 r.bl?)
def kNot (K : ER → Prop) : ER → Prop := fun e => K (e.bind fun r ρ1 => bR ρ1 (r.bl?.map not))
def kInt (K : ER → Prop) : ER → Prop := fun e => K (e.bind fun r ρ1 => intR ρ1 r.int?)
def kSl1 (ml mh : ME) (K : ER → Prop) : ER → Prop := fun e => K (e.bind fun x ρ1 => pBind (ml ρ1) fun l ρ2 => pBind (mh ρ2) fun h ρ3 => slR l h ρ3 (dat ρ3 x))
def kSl2 (x : Rv) (mh : ME) (K : ER → Prop) : ER → Prop := fun e => K (pBind e fun l ρ2 => pBind (mh ρ2) fun h ρ3 => slR l h ρ3 (dat ρ3 x))
def kSl3 (x : Rv) (l : Option Int) (K : ER → Prop) : ER → Prop := fun e => K (pBind e fun h ρ3 => slR l h ρ3 (dat ρ3 x))
def kA1 (mr : MA) (K : AR → Prop) : ER → Prop := fun e => K (aCons1 mr e)
def kA2 (r : Rv) (K : AR → Prop) : AR → Prop := fun e => K (aCons2 r e)
def kIts (k : List Py → OV) (K : ER → Prop) : AR → Prop := fun e => K (aBind e fun rs ρ1 => its2 k (frz ρ1 rs) (dats ρ1 rs))
def kCb (k : List Py → OV) (K : ER → Prop) : AR → Prop := fun e => K (aBind e fun rs ρ1 => its2 k ρ1 (dats ρ1 rs))
def kCall (m : DM) (K : ER → Prop) : AR → Prop := fun e => K (aBind e fun rs ρ1 => callR m ρ1 rs)
def kSeq (b : MS) (K : SR → Prop) : SR → Prop := fun e => K (e.bind b)
def kSet (i : Nat) (K : SR → Prop) : ER → Prop := fun e => K (e.then fun r ρ1 => optS (setRv i r ρ1))
def kDrop (K : SR → Prop) : ER → Prop := fun e => K (e.then fun _ ρ1 => .nx ρ1)
def kRet (K : SR → Prop) : ER → Prop := fun e => K (e.then fun r ρ1 => .rt r ρ1)
def kIfS (a b : MS) (K : SR → Prop) : ER → Prop := fun e => K (e.then fun r ρ1 => ifS a b ρ1 r.bl?)
def kAsg (g : Py → Rho → Option Rho) (K : SR → Prop) : ER → Prop := fun e => K (e.then fun r ρ1 => asg2 g (frzR ρ1 r) (dat ρ1 r))
def kPut1 (mi : ME) (i : Nat) (K : SR → Prop) : ER → Prop := fun e => K (e.then fun r ρ1 => put1' mi (frzR ρ1 r) i (dat ρ1 r) (owS (frzR ρ1 r) i))
def kPut2 (d : Py) (i : Nat) (K : SR → Prop) : ER → Prop := fun e => K (e.then fun s ρ2 => put2 d ρ2 i s.int? (owS ρ2 i))
def kPar1 (i j : Nat) (mb : ME) (K : SR → Prop) : ER → Prop := fun e => K (e.then fun r ρ1 => (mb ρ1).then fun s ρ2 => optS (store2 i j r s ρ2))
def kPar2 (i j : Nat) (r : Rv) (K : SR → Prop) : ER → Prop := fun e => K (e.then fun s ρ2 => optS (store2 i j r s ρ2))
def kMut (h : Py → List Py → Option (Py × Py)) (i : Nat) (K : ER → Prop) : AR → Prop := fun e => K (aBind e fun rs ρ1 => mut2 h (frz ρ1 rs) i (dats ρ1 rs) (owS (frz ρ1 rs) i))
/-! ### one step of each word -/
theorem wm_var : WE (mVar i ρ) K = WE (varR i ρ ρ[i]?) K := rfl
theorem wm_c : WE (mC d ρ) K = WE (.ok (.im d) ρ) K := rfl
theorem wm_op : WE (mOp f ma mb ρ) K = WE (ma ρ) (kOp1 f mb K) := by rw [ev_op]; rfl
theorem wm_op1 : WE (.ok r ρ) (kOp1 f mb K) = WE (mb ρ) (kOp2 f r K) := rfl
theorem wm_op2 : WE (.ok s ρ) (kOp2 f r K) = WE (op2 f ρ (dat ρ r) (dat ρ s)) K := rfl
theorem wm_un : WE (mUn g ma ρ) K = WE (ma ρ) (kUn g K) := by rw [ev_un]; rfl
theorem wm_un1 : WE (.ok r ρ) (kUn g K) = WE (op1 g ρ (dat ρ r)) K := rfl
theorem wm_B : WE (mB ma ρ) K = WE (ma ρ) (kB K) := by rw [ev_B]; rfl
theorem wm_B1 : WE (.ok r ρ) (kB K) = WE (bR ρ r.bl?) K := rfl
theorem wm_tru : WE (mTru ma ρ) K = WE (ma ρ) (kTru K) := by rw [ev_tru]; rfl
theorem wm_tru1 : WE (.ok r ρ) (kTru K) = WE (truR ρ (dat ρ r)) K := rfl
theorem wm_if : WE (mIf mt ma mb ρ) K = WE (mt ρ) (kIf ma mb K) := by rw [ev_if]; rfl
theorem wm_andT : WE (mAndT ma mb ρ) K = WE (ma ρ) (kIf mb (mC (.bl false)) K) := by rw [ev_andT]; rfl
theorem wm_orT : WE (mOrT ma mb ρ) K = WE (ma ρ) (kIf (mC (.bl true)) mb K) := by rw [ev_orT]; rfl
theorem wm_and : WE (mAnd ma mb ρ) K = WE (ma ρ) (kIf mb (mC (.bl false)) K) := by rw [ev_and]; rfl
theorem wm_or : WE (mOr ma mb ρ) K = WE (ma ρ) (kIf (mC (.bl true)) mb K) := by rw [ev_or]; rfl
theorem wm_if1 : WE (.ok r ρ) (kIf ma mb K) = WE (ifE ma mb ρ r.bl?) K := rfl
theorem wm_notT : WE (mNotT ma ρ) K = WE (ma ρ) (kNot K) := by rw [ev_notT]; rfl
theorem wm_not : WE (mNot ma ρ) K = WE (ma ρ) (kNot K) := by rw [ev_not]; rfl
theorem wm_not1 : WE (.ok r ρ) (kNot K) = WE (bR ρ (r.bl?.map not)) K := rfl
theorem wm_int : WE (mInt ma ρ) K = WE (ma ρ) (kInt K) := by rw [ev_int]; rfl
theorem wm_int1 : WE (.ok r ρ) (kInt K) = WE (intR ρ r.int?) K := rfl
theorem wm_sl : WE (mSl me ml mh ρ) K = WE (me ρ) (kSl1 ml mh K) := by rw [ev_sl]; rfl
theorem wm_sl1 : WE (.ok r ρ) (kSl1 ml mh K) = WE (ml ρ) (kSl2 r mh K) := rfl
theorem wm_sl2n : WE (.ok (.im .non) ρ) (kSl2 r mh K) = WE (mh ρ) (kSl3 r none K) := rfl
theorem wm_sl2i {n : Int} : WE (.ok (.im (.int n)) ρ) (kSl2 r mh K) = WE (mh ρ) (kSl3 r (some n) K) := rfl
theorem wm_sl3n {l : Option Int} : WE (.ok (.im .non) ρ) (kSl3 r l K) = WE (slR l none ρ (dat ρ r)) K := rfl
theorem wm_sl3i {l : Option Int} {n : Int} : WE (.ok (.im (.int n)) ρ) (kSl3 r l K) = WE (slR l (some n) ρ (dat ρ r)) K := rfl
theorem wm_anil : WA (aNil ρ) KA = WA (.ok [] ρ) KA := rfl
theorem wm_acons : WA (aCons me mr ρ) KA = WE (me ρ) (kA1 mr KA) := by rw [ev_acons]; rfl
theorem wm_a1 : WE (.ok r ρ) (kA1 mr KA) = WA (mr ρ) (kA2 r KA) := rfl
theorem wm_a2 : WA (.ok rs ρ) (kA2 r KA) = WA (.ok (r.settled :: rs) ρ) KA := rfl
theorem wm_its {k : List Py → OV} : WE (mIts mm k ρ) K = WA (mm ρ) (kIts k K) := by rw [ev_its]; rfl
theorem wm_its1 {k : List Py → OV} : WA (.ok rs ρ) (kIts k K) = WE (its2 k (frz ρ rs) (dats ρ rs)) K := rfl
def oTup (ds : List Py) : OV := if ds.length ≤ sizeLine then .im (.tup ds) else .st
def oLst (ds : List Py) : OV := if ds.length ≤ sizeLine then .fr (.lst ds) else .st
theorem oTup_ok {ds : List Py} (h : ds.length ≤ 16777216) : oTup ds = .im (.tup ds) := if_pos h
theorem oLst_ok {ds : List Py} (h : ds.length ≤ 16777216) : oLst ds = .fr (.lst ds) := if_pos h
theorem wm_tup : WE (mTup mm ρ) K = WA (mm ρ) (kIts oTup K) := wm_its
theorem wm_lst : WE (mLst mm ρ) K = WA (mm ρ) (kIts oLst K) := wm_its
theorem wm_cb {k : List Py → OV} : WE (mCB k mm ρ) K = WA (mm ρ) (kCb k K) := by rw [ev_cb]; rfl
theorem wm_cb1 {k : List Py → OV} : WA (.ok rs ρ) (kCb k K) = WE (its2 k ρ (dats ρ rs)) K := rfl
theorem wm_call {m : DM} : WE (mCall m mm ρ) K = WA (mm ρ) (kCall m K) := rfl
theorem wm_call1 {m : DM} : WA (.ok rs ρ) (kCall m K) = WE (callR m ρ rs) K := rfl
theorem wm_mut {ty : String} {h : Py → List Py → Option (Py × Py)} : WE (mMut ty h i mm ρ) K = WE (mut1 ty h i (mm ρ) (owS ρ i)) K := by rw [ev_mut]
theorem wm_mutL {l : List Py} {h : Py → List Py → Option (Py × Py)} : WE (mut1 "list" h i (mm ρ) (some (io, .lst l))) K = WA (mm ρ) (kMut h i K) := rfl
theorem wm_mut1 {h : Py → List Py → Option (Py × Py)} : WA (.ok rs ρ) (kMut h i K) = WE (mut2 h (frz ρ rs) i (dats ρ rs) (owS (frz ρ rs) i)) K := rfl
/-! ### defaults, keywords -/
def kDef (ds : List Py) (K : AR → Prop) : AR → Prop := fun e => K (match e with
  | .ok rs ρ1 => .ok (rs ++ ds.map .im) ρ1
  | x => x)
theorem wm_def {ds : List Py} : WA (aDef ds mm ρ) KA = WA (mm ρ) (kDef ds KA) := rfl
theorem wm_def1 {ds : List Py} : WA (.ok rs ρ) (kDef ds KA) = WA (.ok (rs ++ ds.map .im) ρ) KA := rfl
def kwA (arr : List Rv → List Rv → List Rv) (mk : MA) : AR → AR
  | .ok rs ρ => (match mk ρ with
    | .ok ss ρ2 => .ok (arr rs ss) ρ2
    | x => x)
  | x => x
def kKw1 (arr : List Rv → List Rv → List Rv) (mk : MA) (K : AR → Prop) : AR → Prop := fun e => K (kwA arr mk e)
def kKw2 (arr : List Rv → List Rv → List Rv) (rs : List Rv) (K : AR → Prop) : AR → Prop := fun e => K (match e with
  | .ok ss ρ2 => .ok (arr rs ss) ρ2
  | x => x)
theorem wm_kw {arr : List Rv → List Rv → List Rv} : WA (aKw arr mm mr ρ) KA = WA (mm ρ) (kKw1 arr mr KA) := by
  show KA (aKw arr mm mr ρ) = KA (kwA arr mr (mm ρ))
  congr 1
theorem wm_kw1 {arr : List Rv → List Rv → List Rv} : WA (.ok rs ρ) (kKw1 arr mr KA) = WA (mr ρ) (kKw2 arr rs KA) := rfl
theorem wm_kw2 {arr : List Rv → List Rv → List Rv} {ss : List Rv} : WA (.ok ss ρ) (kKw2 arr rs KA) = WA (.ok (arr rs ss) ρ) KA := rfl
theorem pick_nil {α : Type} {l : List α} : pick [] l = [] := rfl
def pick2 {α : Type} (is : List Nat) (l : List α) : Option α → List α
  | some a => a :: pick is l
  | none => pick is l
theorem pick_cons {α : Type} {i : Nat} {is : List Nat} {l : List α} : pick (i :: is) l = pick2 is l l[i]? := by
  show (match l[i]? with | some a => a :: pick is l | none => pick is l) = _
  cases l[i]? <;> rfl
theorem pick2_some {α : Type} {is : List Nat} {l : List α} {a : α} : pick2 is l (some a) = a :: pick is l := rfl
theorem p0 {α : Type} {a : α} {l : List α} : (a :: l)[0]? = some a := rfl
theorem pS {α : Type} {a : α} {l : List α} {n : Nat} : (a :: l)[n + 1]? = l[n]? := rfl
theorem mapIm_cons {ds : List Py} : (d :: ds).map Rv.im = .im d :: ds.map Rv.im := rfl
theorem mapIm_nil : ([] : List Py).map Rv.im = [] := rfl
/-! ### statements -/
theorem wm_seq : WS (mSeq a b ρ) KS = WS (a ρ) (kSeq b KS) := rfl
theorem wm_seqN : WS (.nx ρ) (kSeq b KS) = WS (b ρ) KS := rfl
theorem wm_seqR : WS (.rt r ρ) (kSeq b KS) = WS (.rt r ρ) KS := rfl
theorem wm_seqB : WS (.bk ρ) (kSeq b KS) = WS (.bk ρ) KS := rfl
theorem wm_seqC : WS (.ct ρ) (kSeq b KS) = WS (.ct ρ) KS := rfl
theorem wm_seqX : WS (.ex c w ρ) (kSeq b KS) = WS (.ex c w ρ) KS := rfl
theorem wm_next : WS (mNext ρ) KS = WS (.nx ρ) KS := rfl
theorem wm_brk : WS (mBreak ρ) KS = WS (.bk ρ) KS := rfl
theorem wm_cont : WS (mCont ρ) KS = WS (.ct ρ) KS := rfl
theorem wm_drop : WS (mDrop me ρ) KS = WE (me ρ) (kDrop KS) := rfl
theorem wm_drop1 : WE (.ok r ρ) (kDrop KS) = WS (.nx ρ) KS := rfl
theorem wm_ret : WS (mRet me ρ) KS = WE (me ρ) (kRet KS) := rfl
theorem wm_ret1 : WE (.ok r ρ) (kRet KS) = WS (.rt r ρ) KS := rfl
theorem wm_retN : WS (mRetN ρ) KS = WS (.rt (.im .non) ρ) KS := rfl
theorem wm_set : WS (mSet i me ρ) KS = WE (me ρ) (kSet i KS) := rfl
theorem wm_aug : WS (mAug i f me ρ) KS = WE (mOp f (mVar i) me ρ) (kSet i KS) := rfl
theorem wm_set1 : WE (.ok r ρ) (kSet i KS) = WS (optS (setRv i r ρ)) KS := rfl
theorem wm_ifS : WS (mIfS mt a b ρ) KS = WE (mt ρ) (kIfS a b KS) := by rw [ev_ifS]; rfl
theorem wm_ifS1 : WE (.ok r ρ) (kIfS a b KS) = WS (ifS a b ρ r.bl?) KS := rfl
theorem wm_asg {g : Py → Rho → Option Rho} : WS (mAsg g me ρ) KS = WE (me ρ) (kAsg g KS) := by rw [ev_asg]; rfl
theorem wm_asg1 {g : Py → Rho → Option Rho} : WE (.ok r ρ) (kAsg g KS) = WS (asg2 g (frzR ρ r) (dat ρ r)) KS := rfl
theorem wm_putL : WS (mPutL i ma me ρ) KS = WE (me ρ) (kPut1 ma i KS) := by rw [ev_putL]; rfl
theorem wm_put1 : WE (.ok r ρ) (kPut1 ma i KS) = WS (put1' ma (frzR ρ r) i (dat ρ r) (owS (frzR ρ r) i)) KS := rfl
theorem wm_putS {x : Bool × Py} : WS (put1' ma ρ i (some d) (some x)) KS = WE (ma ρ) (kPut2 d i KS) := rfl
theorem wm_put2 : WE (.ok s ρ) (kPut2 d i KS) = WS (put2 d ρ i s.int? (owS ρ i)) KS := rfl
theorem wm_par : WS (mPar2 i j ma mb ρ) KS = WE (ma ρ) (kPar1 i j mb KS) := rfl
theorem wm_par1 : WE (.ok r ρ) (kPar1 i j mb KS) = WE (mb ρ) (kPar2 i j r KS) := rfl
theorem wm_par2 : WE (.ok s ρ) (kPar2 i j r KS) = WS (optS (store2 i j r s ρ)) KS := rfl
theorem ow_own : Rv.own ρ (.im d) = some (.im d) := rfl
theorem fr_own : Rv.own ρ (.fr d) = some (.fr d) := rfl
theorem bo_own : Rv.own ρ (.bo i) = (dat ρ (.bo i)).map .im := rfl
theorem st2 {r' s' : Rv} (h1 : r.own ρ = some r') (h2 : s.own (frzR ρ r) = some s') (h3 : setRv i r' (frzR (frzR ρ r) s) = some ρ1) : store2 i j r s ρ = setRv j s' ρ1 := by
  unfold store2; rw [h1]; show (match s.own (frzR ρ r) with | some s' => (match setRv i r' (frzR (frzR ρ r) s) with | some ρ1 => setRv j s' ρ1 | none => none) | none => none) = _
  rw [h2]; show (match setRv i r' (frzR (frzR ρ r) s) with | some ρ1 => setRv j s' ρ1 | none => none) = _
  rw [h3]
/-! ### values -/
section
variable {m n : Int} {l k : List Py} {x y : Bool}
theorem v_add : pyAdd (.int m) (.int n) = .im (.int (m + n)) := rfl
theorem v_addT (h : l.length + k.length ≤ 16777216) : pyAdd (.tup l) (.tup k) = .im (.tup (l ++ k)) := if_pos h
theorem v_addL (h : l.length + k.length ≤ 16777216) : pyAdd (.lst l) (.lst k) = .fr (.lst (l ++ k)) := if_pos h
theorem v_addI : pyAddI (.int m) (.int n) = .im (.int (m + n)) := rfl
theorem v_sub : pySub (.int m) (.int n) = .im (.int (m - n)) := rfl
theorem v_mul (h : cMul m n = true) : pyMul (.int m) (.int n) = .im (.int (m * n)) := if_pos h
theorem v_mulI (h : cMul m n = true) : pyMulI (.int m) (.int n) = .im (.int (m * n)) := if_pos h
theorem cMul_l (h1 : -(2 ^ 64) < m) (h2 : m < 2 ^ 64) : cMul m n = true := by
  unfold cMul; rw [decide_eq_true h1, decide_eq_true h2]; rfl
theorem cMul_r (h1 : -(2 ^ 64) < n) (h2 : n < 2 ^ 64) : cMul m n = true := by
  unfold cMul; rw [decide_eq_true h1, decide_eq_true h2, Bool.or_eq_true]; exact .inr rfl
theorem v_div (h1 : 0 < n) (h2 : n < 1073741824) : pyDiv (.int m) (.int n) = .im (.int (m / n)) := if_pos (by unfold cDiv; rw [decide_eq_true h1, decide_eq_true h2]; rfl)
theorem v_mod (h1 : 0 < n) : pyMod (.int m) (.int n) = .im (.int (m % n)) := if_pos (by unfold cMod; rw [decide_eq_true h1])
theorem v_neg : pyNeg (.int m) = .im (.int (-m)) := rfl
theorem v_lt : pyLt (.int m) (.int n) = .im (.bl (decide (m < n))) := rfl
theorem v_le : pyLe (.int m) (.int n) = .im (.bl (decide (m ≤ n))) := rfl
theorem v_gt : pyGt (.int m) (.int n) = .im (.bl (decide (n < m))) := rfl
theorem v_ge : pyGe (.int m) (.int n) = .im (.bl (decide (n ≤ m))) := rfl
theorem v_isB : pyIs (.bl x) (.bl y) = .im (.bl (decide (x = y))) := rfl
theorem v_isNB : pyIsNot (.bl x) (.bl y) = .im (.bl (!decide (x = y))) := rfl
theorem v_isN : pyIs d .non = .im (.bl d.isNon) := by cases d <;> rfl
theorem v_isNN : pyIsNot d .non = .im (.bl (!d.isNon)) := by cases d <;> rfl
theorem nn_int : Py.isNon (.int m) = false := rfl
theorem nn_non : Py.isNon .non = true := rfl
theorem nn_tup : Py.isNon (.tup l) = false := rfl
theorem nn_lst : Py.isNon (.lst l) = false := rfl
theorem toD_int : Py.toD (.int m) = .int m := by simp only [Py.toD]
theorem eqv_int : PyData.eqv (.int m) (.int n) = decide (m = n) := by
  simp only [PyData.eqv]; by_cases h : m = n
  · subst h; rw [beq_self_eq_true, decide_eq_true rfl]
  · rw [decide_eq_false h]; exact beq_eq_false_iff_ne.mpr h
theorem v_eq : pyEq (.int m) (.int n) = .im (.bl (decide (m = n))) := by
  unfold pyEq; rw [toD_int, toD_int, if_pos (by simp [SeqAt.shaped, PyData.canLay0, PyData.depth]), eqv_int]
theorem v_ne : pyNe (.int m) (.int n) = .im (.bl (!decide (m = n))) := by
  unfold pyNe; rw [toD_int, toD_int, if_pos (by simp [SeqAt.shaped, PyData.canLay0, PyData.depth]), eqv_int]
/-- rows of numbers -/
abbrev iL (ns : List Int) : List Py := ns.map Py.int
theorem toDs_iL : ∀ ns : List Int, Py.toDs (iL ns) = ns.map PyData.int
  | [] => by simp only [List.map, Py.toDs]
  | n :: ns => by
    have := toDs_iL ns
    simp only [List.map, Py.toDs, Py.toD]
    rw [← this]
theorem canAll_iL : ∀ ns : List Int, PyData.canLayAll0 (ns.map PyData.int) = true
  | [] => by simp only [List.map, PyData.canLayAll0]
  | n :: ns => by simp only [List.map, PyData.canLayAll0, PyData.canLay0, canAll_iL ns, Bool.and_true]
theorem eqvAll_iL : ∀ ns ms : List Int, PyData.eqvAll (ns.map PyData.int) (ms.map PyData.int) = decide (ns = ms)
  | [], [] => by simp only [List.map, PyData.eqvAll, decide_true]
  | [], m :: ms => by simp only [List.map, PyData.eqvAll]; rfl
  | n :: ns, [] => by simp only [List.map, PyData.eqvAll]; rfl
  | n :: ns, m :: ms => by
    simp only [List.map, PyData.eqvAll]
    rw [eqvAll_iL ns ms, eqv_int]
    by_cases h : n = m <;> by_cases h2 : ns = ms <;> simp [h, h2]
theorem depthAll_iL : ∀ ns : List Int, PyData.depthAll (ns.map PyData.int) ≤ 1
  | [] => by simp only [List.map, PyData.depthAll]; omega
  | n :: ns => by
    have := depthAll_iL ns
    simp only [List.map, PyData.depthAll, PyData.depth]
    omega
theorem shT_iL (ns : List Int) : SeqAt.shaped (Py.tup (iL ns)).toD = true := by
  have h := depthAll_iL ns
  simp only [Py.toD, toDs_iL, SeqAt.shaped, PyData.canLay0, canAll_iL, PyData.depth, Bool.true_and]
  exact decide_eq_true (by omega)
theorem shL_iL (ns : List Int) : SeqAt.shaped (Py.lst (iL ns)).toD = true := by
  have h := depthAll_iL ns
  simp only [Py.toD, toDs_iL, SeqAt.shaped, PyData.canLay0, canAll_iL, PyData.depth, Bool.true_and]
  exact decide_eq_true (by omega)
theorem evT_iL (ns ms : List Int) : PyData.eqv (Py.tup (iL ns)).toD (Py.tup (iL ms)).toD = decide (ns = ms) := by
  simp only [Py.toD, toDs_iL, PyData.eqv, eqvAll_iL]
theorem evL_iL (ns ms : List Int) : PyData.eqv (Py.lst (iL ns)).toD (Py.lst (iL ms)).toD = decide (ns = ms) := by
  simp only [Py.toD, toDs_iL, PyData.eqv, eqvAll_iL]
theorem v_eqT {ns ms : List Int} : pyEq (.tup (iL ns)) (.tup (iL ms)) = .im (.bl (decide (ns = ms))) := by
  unfold pyEq; rw [shT_iL, shT_iL, if_pos (by rfl), evT_iL]
theorem v_neT {ns ms : List Int} : pyNe (.tup (iL ns)) (.tup (iL ms)) = .im (.bl (!decide (ns = ms))) := by
  unfold pyNe; rw [shT_iL, shT_iL, if_pos (by rfl), evT_iL]
theorem v_eqL {ns ms : List Int} : pyEq (.lst (iL ns)) (.lst (iL ms)) = .im (.bl (decide (ns = ms))) := by
  unfold pyEq; rw [shL_iL, shL_iL, if_pos (by rfl), evL_iL]
theorem v_neL {ns ms : List Int} : pyNe (.lst (iL ns)) (.lst (iL ms)) = .im (.bl (!decide (ns = ms))) := by
  unfold pyNe; rw [shL_iL, shL_iL, if_pos (by rfl), evL_iL]
theorem v_lenL : pyLen (.lst l) = .im (.int l.length) := rfl
theorem v_lenT : pyLen (.tup l) = .im (.int l.length) := rfl
theorem v_lenS : pyLen (.scr l) = .im (.int l.length) := rfl
theorem v_tupL : pyTuple (.lst l) = .im (.tup l) := rfl
theorem v_tupT : pyTuple (.tup l) = .im (.tup l) := rfl
theorem v_lstL : pyList (.lst l) = .fr (.lst l) := rfl
theorem v_lstT : pyList (.tup l) = .fr (.lst l) := rfl
theorem v_int : pyToInt (.int m) = .im (.int m) := rfl
theorem v_intB : pyToInt (.bl x) = .im (.int (if x then 1 else 0)) := rfl
theorem v_i2 {g : Int → Int → Int} : pyI2 g (.int m) (.int n) = .im (.int (g m n)) := rfl
theorem v_slL {lo hi : Option Int} : pySl (.lst l) lo hi = .fr (.lst (cutA l lo hi)) := rfl
theorem v_slT {lo hi : Option Int} : pySl (.tup l) lo hi = .im (.tup (cutA l lo hi)) := rfl
theorem v_ixL : pyIx (.lst l) (.int m) = pyAt l m := rfl
theorem v_ixT : pyIx (.tup l) (.int m) = pyAt l m := rfl
theorem v_ixS : pyIx (.scr l) (.int m) = pyAt l m := rfl
theorem at_nat {i : Nat} (h : l[i]? = some d) : pyAt l (i : Int) = .im d := by
  have hl : i < l.length := (List.getElem?_eq_some_iff.mp h).1
  unfold pyAt atI ixN
  rw [if_pos (by omega), if_pos (by omega)]
  show (match l[(i : Int).toNat]? with | some d => OV.im d | none => .st) = _
  rw [Int.toNat_natCast, h]
theorem at_int {m : Int} (h0 : 0 ≤ m) (h : l[m.toNat]? = some d) : pyAt l m = .im d := by
  have := at_nat (i := m.toNat) h
  rwa [Int.toNat_of_nonneg h0] at this
theorem at_last (h : l.getLast? = some d) : pyAt l (-1) = .im d := by
  cases l with
  | nil => cases h
  | cons a l =>
    unfold pyAt atI ixN
    rw [if_neg (by omega), if_pos (by rw [List.length_cons]; omega)]
    show (match (a :: l)[((-1 : Int) + ((a :: l).length : Int)).toNat]? with | some d => OV.im d | none => .st) = _
    rw [List.getLast?_eq_getElem?] at h
    have e : ((-1 : Int) + ((a :: l).length : Int)).toNat = (a :: l).length - 1 := by rw [List.length_cons]; omega
    rw [e, h]
theorem at0 : pyAt (d :: l) 0 = .im d := at_nat (i := 0) rfl
theorem at1 {d0 : Py} : pyAt (d0 :: d :: l) 1 = .im d := at_nat (i := 1) rfl
theorem at2 {d0 d1 : Py} : pyAt (d0 :: d1 :: d :: l) 2 = .im d := at_nat (i := 2) rfl
theorem at3 {d0 d1 d2 : Py} : pyAt (d0 :: d1 :: d2 :: d :: l) 3 = .im d := at_nat (i := 3) rfl
theorem at4 {d0 d1 d2 d3 : Py} : pyAt (d0 :: d1 :: d2 :: d3 :: d :: l) 4 = .im d := at_nat (i := 4) rfl
theorem set0 : fSetL (e :: l) 0 d = some (.lst (d :: l)) := by
  unfold fSetL ixN
  rw [if_pos (by omega), if_pos (by rw [List.length_cons]; omega)]; rfl
theorem set1 {e0 : Py} : fSetL (e0 :: e :: l) 1 d = some (.lst (e0 :: d :: l)) := by
  unfold fSetL ixN
  rw [if_pos (by omega), if_pos (by rw [List.length_cons, List.length_cons]; omega)]; rfl
theorem set_nat {i : Nat} (h : i < l.length) : fSetL l (i : Int) d = some (.lst (l.set i d)) := by
  unfold fSetL ixN
  rw [if_pos (by omega), if_pos (by omega)]; rw [Int.toNat_natCast]
end
/-! ### a test that is not known yet -/
theorem wc_ifE {t : Bool} (h1 : t = true → WE (ma ρ) K) (h2 : t = false → WE (mb ρ) K) : WE (ifE ma mb ρ (some t)) K := by
  cases t
  · exact h2 rfl
  · exact h1 rfl
theorem wc_ifS {t : Bool} (h1 : t = true → WS (a ρ) KS) (h2 : t = false → WS (b ρ) KS) : WS (ifS a b ρ (some t)) KS := by
  cases t
  · exact h2 rfl
  · exact h1 rfl
/-- two ways that meet again -/
def kJoin (Q : Rho → Prop) (KS : SR → Prop) : SR → Prop
  | .nx ρ => Q ρ
  | .ct ρ => WS (.ct ρ) KS
  | .bk ρ => WS (.bk ρ) KS
  | .rt r ρ => WS (.rt r ρ) KS
  | .ex c w ρ => WS (.ex c w ρ) KS
  | .st => False
theorem kj_nx {Q : Rho → Prop} : WS (.nx ρ) (kJoin Q KS) = Q ρ := rfl
theorem kj_ct {Q : Rho → Prop} : WS (.ct ρ) (kJoin Q KS) = WS (.ct ρ) KS := rfl
theorem kj_bk {Q : Rho → Prop} : WS (.bk ρ) (kJoin Q KS) = WS (.bk ρ) KS := rfl
theorem kj_rt {Q : Rho → Prop} : WS (.rt r ρ) (kJoin Q KS) = WS (.rt r ρ) KS := rfl
theorem kj_ex {Q : Rho → Prop} : WS (.ex c w ρ) (kJoin Q KS) = WS (.ex c w ρ) KS := rfl
theorem wc_join {Q : Rho → Prop} {s : SR} (h : WS s (kJoin Q KS)) (k : ∀ ρ', Q ρ' → WS (.nx ρ') KS) : WS s KS := by
  cases s with
  | nx ρ' => exact k ρ' h
  | ct ρ' => exact h
  | bk ρ' => exact h
  | rt r ρ' => exact h
  | ex c w ρ' => exact h
  | st => exact h.elim
/-! ### a def's run -/
def kRun (as : List Sl) (K : DR → Prop) : SR → Prop := fun s => K (match s with
  | .nx ρ => .ok (.im .non) (outsOf as ρ)
  | .rt r ρ => (match r with
    | .im d => .ok (.im d) (outsOf as ρ)
    | .fr d => .ok (.fr d) (outsOf as ρ)
    | .bo i => (match ρ[i]? with
      | some (.ow false d) => .ok (.fr d) (outsOf as ρ)
      | some (.ow true d) => .ok (.im d) (outsOf as (ρ.freeze i))
      | some (.im _ d) => .ok (.im d) (outsOf as ρ)
      | _ => .st))
  | .ex c w ρ => .ex c w (outsOf as ρ)
  | _ => .st)
theorem w_run {m : DM} {as : List Sl} {K : DR → Prop} (h : WS (m.body (as ++ List.replicate (m.n - as.length) .no)) (kRun as K)) : K (m.run as) := h
theorem wr_im {as : List Sl} {KR : DR → Prop} : WS (.rt (.im d) ρ) (kRun as KR) = KR (.ok (.im d) (outsOf as ρ)) := rfl
theorem wr_fr {as : List Sl} {KR : DR → Prop} : WS (.rt (.fr d) ρ) (kRun as KR) = KR (.ok (.fr d) (outsOf as ρ)) := rfl
theorem wr_nx {as : List Sl} {KR : DR → Prop} : WS (.nx ρ) (kRun as KR) = KR (.ok (.im .non) (outsOf as ρ)) := rfl
def boR (as : List Sl) (ρ : Rho) (i : Nat) : Option Sl → DR
  | some (.ow false d) => .ok (.fr d) (outsOf as ρ)
  | some (.ow true d) => .ok (.im d) (outsOf as (ρ.freeze i))
  | some (.im _ d) => .ok (.im d) (outsOf as ρ)
  | _ => .st
theorem wr_bo {as : List Sl} {KR : DR → Prop} : WS (.rt (.bo i) ρ) (kRun as KR) = KR (boR as ρ i ρ[i]?) := by
  show KR _ = KR _
  congr 1
theorem boR_f {as : List Sl} : boR as ρ i (some (.ow false d)) = .ok (.fr d) (outsOf as ρ) := rfl
theorem boR_t {as : List Sl} : boR as ρ i (some (.ow true d)) = .ok (.im d) (outsOf as (ρ.freeze i)) := rfl
theorem boR_im {as : List Sl} : boR as ρ i (some (.im io d)) = .ok (.im d) (outsOf as ρ) := rfl
theorem outs_nil : outsOf [] ρ = [] := rfl
theorem outs_im {as : List Sl} {s : Sl} : outsOf (.im false d :: as) (s :: ρ) = .no :: outsOf as ρ := rfl
theorem outs_ow {as : List Sl} {s : Sl} : outsOf (.ow true d :: as) (s :: ρ) = s :: outsOf as ρ := rfl
theorem outs_imt {as : List Sl} {s : Sl} : outsOf (.im true d :: as) (s :: ρ) = s :: outsOf as ρ := rfl
/-! ### calls, told by what the def's run tells -/
theorem wc_pure {m : DM} {args : List Py} {P : Rv → Prop} (hi : m.ios = (args.map fun _ => false)) (h : ∃ x, P x ∧ m.run (args.map (Sl.im false)) = .ok x (args.map fun _ => .no)) (hd : dats ρ rs = some args) (k : ∀ x, P x → WE (.ok x (frz ρ rs)) K) : WE (callR m ρ rs) K := by
  obtain ⟨x, px, hx⟩ := h
  rw [call_pure (x := x) ⟨hi, hx⟩ hd]
  exact k x px
theorem wc_turns {m : DM} {args : List Py} {P : Rv → Py → Prop} (hi : m.ios = true :: (args.map fun _ => false)) (h : ∃ x d', P x d' ∧ m.run (.ow true d :: args.map (Sl.im false)) = .ok x (.ow true d' :: args.map fun _ => .no)) (hd : dats ρ rs = some args) (ho : (frz ρ rs)[i]? = some (.ow io d)) (k : ∀ x d', P x d' → WE (.ok x ((frz ρ rs).set i (.ow io d'))) K) : WE (callR m ρ (.bo i :: rs)) K := by
  obtain ⟨x, d', px, hx⟩ := h
  rw [call_turns (x := x) (d' := d') ⟨hi, hx⟩ hd ho]
  exact k x d' px
/-! ### for -/
def kTurn (Q : Rho → Prop) (KS : SR → Prop) : SR → Prop
  | .nx ρ => Q ρ
  | .ct ρ => Q ρ
  | .bk ρ => WS (.nx ρ) KS
  | .rt r ρ => WS (.rt r ρ) KS
  | .ex c w ρ => WS (.ex c w ρ) KS
  | .st => False
theorem kt_nx {Q : Rho → Prop} : WS (.nx ρ) (kTurn Q KS) = Q ρ := rfl
theorem kt_ct {Q : Rho → Prop} : WS (.ct ρ) (kTurn Q KS) = Q ρ := rfl
theorem kt_bk {Q : Rho → Prop} : WS (.bk ρ) (kTurn Q KS) = WS (.nx ρ) KS := rfl
theorem kt_rt {Q : Rho → Prop} : WS (.rt r ρ) (kTurn Q KS) = WS (.rt r ρ) KS := rfl
theorem kt_ex {Q : Rho → Prop} : WS (.ex c w ρ) (kTurn Q KS) = WS (.ex c w ρ) KS := rfl
def WO (o : Option Rho) (a : MS) (K : SR → Prop) : Prop := ∃ ρ2, o = some ρ2 ∧ WS (a ρ2) K
theorem wo_some : WO (some ρ) a KS = WS (a ρ) KS := propext ⟨fun ⟨_, h, k⟩ => by cases h; exact k, fun h => ⟨_, rfl, h⟩⟩
def WOE (o : Option Rho) (m : ME) (K : ER → Prop) : Prop := ∃ ρ2, o = some ρ2 ∧ WE (m ρ2) K
theorem woe_some : WOE (some ρ) me K = WE (me ρ) K := propext ⟨fun ⟨_, h, k⟩ => by cases h; exact k, fun h => ⟨_, rfl, h⟩⟩
/-- a loop by what holds ahead of each turn -/
theorem wc_for {mg : Py → Rho → Option Rho} {items : List Py} (P : Nat → Rho → Prop) (h0 : P 0 ρ)
    (hs : ∀ (n : Nat) (d : Py) (ρ' : Rho), items[n]? = some d → P n ρ' → WO (mg d ρ') a (kTurn (P (n + 1)) KS))
    (he : ∀ ρ', P items.length ρ' → WS (.nx ρ') KS) : WS (forM mg a items ρ) KS := by
  have go : ∀ (k : List Py) (n : Nat) (ρ' : Rho), items.drop n = k → n ≤ items.length → P n ρ' → WS (forM mg a k ρ') KS := by
    intro k
    induction k with
    | nil =>
      intro n ρ' hk hn hp
      have : items.length ≤ n := List.drop_eq_nil_iff.mp hk
      have e : n = items.length := by omega
      subst e
      exact he ρ' hp
    | cons d k ih =>
      intro n ρ' hk hn hp
      have hd : items[n]? = some d := by
        have := congrArg (fun z => z[0]?) hk
        simpa using this
      obtain ⟨ρ2, e2, w⟩ := hs n d ρ' hd hp
      have hl : n < items.length := (List.getElem?_eq_some_iff.mp hd).1
      have hk2 : items.drop (n + 1) = k := by
        have := congrArg (fun z => z.drop 1) hk
        simpa using this
      show KS (match mg d ρ' with | none => SR.st | some ρ1 => match a ρ1 with | .nx ρ2 => forM mg a k ρ2 | .ct ρ2 => forM mg a k ρ2 | .bk ρ2 => .nx ρ2 | x => x)
      rw [e2]
      show KS (match a ρ2 with | .nx ρ2 => forM mg a k ρ2 | .ct ρ2 => forM mg a k ρ2 | .bk ρ2 => .nx ρ2 | x => x)
      unfold WS at w
      cases e : a ρ2 with
      | nx ρ3 => rw [e] at w; exact ih (n + 1) ρ3 hk2 hl w
      | ct ρ3 => rw [e] at w; exact ih (n + 1) ρ3 hk2 hl w
      | bk ρ3 => rw [e] at w; exact w
      | rt r ρ3 => rw [e] at w; exact w
      | ex c w' ρ3 => rw [e] at w; exact w
      | st => rw [e] at w; exact w.elim
  exact go items 0 ρ (by simp) (Nat.zero_le _) h0
/-! what a loop goes over -/
def for3 (mg : Py → Rho → Option Rho) (a : MS) (ρ : Rho) : Option (List Py) → SR
  | some items => forM mg a items ρ
  | none => .st
def for2 (f : List Py → Option (List Py)) (mg : Py → Rho → Option Rho) (a : MS) (ρ : Rho) : Option (List Py) → SR
  | some ds => for3 mg a ρ (f ds)
  | none => .st
def forA (f : List Py → Option (List Py)) (mg : Py → Rho → Option Rho) (a : MS) : AR → SR
  | .ok rs ρ => for2 f mg a (frz ρ rs) (dats ρ rs)
  | .ex c w ρ => .ex c w ρ
  | .st => .st
def kFor (f : List Py → Option (List Py)) (mg : Py → Rho → Option Rho) (a : MS) (K : SR → Prop) : AR → Prop := fun x => K (forA f mg a x)
theorem wm_forOf {f : List Py → Option (List Py)} {mg : Py → Rho → Option Rho} : WS (mFor (iOf f mm) mg a ρ) KS = WA (mm ρ) (kFor f mg a KS) := by
  show KS (mFor (iOf f mm) mg a ρ) = KS (forA f mg a (mm ρ))
  congr 1
  unfold mFor iOf
  cases mm ρ with
  | ok rs ρ1 =>
    show (match (match dats ρ1 rs with | some ds => (match f ds with | some items => IR.ok items (frz ρ1 rs) | none => .st) | none => .st) with | .ok items ρ1 => forM mg a items ρ1 | .ex c w ρ1 => .ex c w ρ1 | .st => .st) = for2 f mg a (frz ρ1 rs) (dats ρ1 rs)
    cases dats ρ1 rs with
    | none => rfl
    | some ds =>
      show (match (match f ds with | some items => IR.ok items (frz ρ1 rs) | none => .st) with | .ok items ρ1 => forM mg a items ρ1 | .ex c w ρ1 => .ex c w ρ1 | .st => .st) = for3 mg a (frz ρ1 rs) (f ds)
      cases f ds <;> rfl
  | _ => rfl
theorem wm_forOf1 {f : List Py → Option (List Py)} {mg : Py → Rho → Option Rho} : WA (.ok rs ρ) (kFor f mg a KS) = WS (for2 f mg a (frz ρ rs) (dats ρ rs)) KS := rfl
theorem for2_some {f : List Py → Option (List Py)} {mg : Py → Rho → Option Rho} {ds : List Py} : for2 f mg a ρ (some ds) = for3 mg a ρ (f ds) := rfl
theorem for3_some {mg : Py → Rho → Option Rho} {ds : List Py} : for3 mg a ρ (some ds) = forM mg a ds ρ := rfl
def forE (mg : Py → Rho → Option Rho) (a : MS) : ER → SR
  | .ok r ρ => for3 mg a (frzR ρ r) ((dat ρ r).bind itemsOf)
  | .ex c w ρ => .ex c w ρ
  | .st => .st
def kForE (mg : Py → Rho → Option Rho) (a : MS) (K : SR → Prop) : ER → Prop := fun x => K (forE mg a x)
theorem wm_forAny {mg : Py → Rho → Option Rho} : WS (mFor (iAny me) mg a ρ) KS = WE (me ρ) (kForE mg a KS) := by
  show KS (mFor (iAny me) mg a ρ) = KS (forE mg a (me ρ))
  congr 1
  unfold mFor iAny
  cases me ρ with
  | ok r ρ1 =>
    show (match (match dat ρ1 r with | some d => (match itemsOf d with | some items => IR.ok items (frzR ρ1 r) | none => .st) | none => .st) with | .ok items ρ1 => forM mg a items ρ1 | .ex c w ρ1 => .ex c w ρ1 | .st => .st) = for3 mg a (frzR ρ1 r) ((dat ρ1 r).bind itemsOf)
    cases dat ρ1 r with
    | none => rfl
    | some d =>
      show (match (match itemsOf d with | some items => IR.ok items (frzR ρ1 r) | none => .st) with | .ok items ρ1 => forM mg a items ρ1 | .ex c w ρ1 => .ex c w ρ1 | .st => .st) = for3 mg a (frzR ρ1 r) (itemsOf d)
      cases itemsOf d <;> rfl
  | _ => rfl
theorem wm_forAny1 {mg : Py → Rho → Option Rho} : WE (.ok r ρ) (kForE mg a KS) = WS (for3 mg a (frzR ρ r) ((dat ρ r).bind itemsOf)) KS := rfl
theorem fe_L {l : List Py} : fEnum [.lst l] = some (enumL 0 l) := rfl
theorem fe_T {l : List Py} : fEnum [.tup l] = some (enumL 0 l) := rfl
theorem fe_S {l : List Py} : fEnum [.scr l] = some (enumL 0 l) := rfl
theorem fr_1 {n : Int} (h : -4611686018427387904 ≤ n ∧ n < 4611686018427387904) : fRange1 [.int n] = some (rangeL 0 n.toNat) := if_pos (by unfold cRg; simp only [Bool.and_eq_true, decide_eq_true_eq]; omega)
theorem fr_2 {m n : Int} (h : -4611686018427387904 ≤ m ∧ m < 4611686018427387904) (h2 : -4611686018427387904 ≤ n ∧ n < 4611686018427387904) : fRange2 [.int m, .int n] = some (rangeL m (n - m).toNat) := if_pos (by unfold cRg; simp only [Bool.and_eq_true, decide_eq_true_eq]; omega)
theorem io_L {l : List Py} : (some (Py.lst l)).bind itemsOf = some l := rfl
theorem io_T {l : List Py} : (some (Py.tup l)).bind itemsOf = some l := rfl
theorem io_S {l : List Py} : (some (Py.scr l)).bind itemsOf = some l := rfl
theorem enum_at {n : Nat} {l : List Py} {i : Nat} {d : Py} (h : (enumL n l)[i]? = some d) : ∃ e, l[i]? = some e ∧ d = .tup [.int ((n + i : Nat) : Int), e] := enumL_get n l i d h
/-- a slot whose text is not known, and that nobody keeps -/
def fS : Option (Bool × Py) → Sl
  | none => .no
  | some (true, d) => .ow false d
  | some (false, d) => .im false d
theorem setSl_fS {s : Sl} {o : Option (Bool × Py)} : setSl' ρ i s (some (fS o)) = some (ρ.set i s) := by
  match o with
  | none => rfl
  | some (true, d) => rfl
  | some (false, d) => rfl
/-! ### comprehensions -/
def lc3 (vs : List Nat) (mg : Py → Rho → Option Rho) (mt me : ME) (ρ : Rho) : Option (List Py) → ER
  | some items => if wipeOk ρ vs = true then (match lcM vs mg mt me items [] (wipeR ρ vs) with
    | some (acc, ρe) => .ok (.fr (.lst acc)) (restR ρ ρe vs)
    | none => .st) else .st
  | none => .st
def lc2 (f : List Py → Option (List Py)) (vs : List Nat) (mg : Py → Rho → Option Rho) (mt me : ME) (ρ : Rho) : Option (List Py) → ER
  | some ds => lc3 vs mg mt me ρ (f ds)
  | none => .st
def lcA (f : List Py → Option (List Py)) (vs : List Nat) (mg : Py → Rho → Option Rho) (mt me : ME) : AR → ER
  | .ok rs ρ => lc2 f vs mg mt me (frz ρ rs) (dats ρ rs)
  | .ex c w ρ => .ex c w ρ
  | .st => .st
def kLc (f : List Py → Option (List Py)) (vs : List Nat) (mg : Py → Rho → Option Rho) (mt me : ME) (K : ER → Prop) : AR → Prop := fun x => K (lcA f vs mg mt me x)
theorem wm_lcOf {f : List Py → Option (List Py)} {vs : List Nat} {mg : Py → Rho → Option Rho} : WE (mLc vs (iOf f mm) mg mt me ρ) K = WA (mm ρ) (kLc f vs mg mt me K) := by
  show K (mLc vs (iOf f mm) mg mt me ρ) = K (lcA f vs mg mt me (mm ρ))
  congr 1
  unfold mLc iOf
  cases mm ρ with
  | ok rs ρ1 =>
    show (match (match dats ρ1 rs with | some ds => (match f ds with | some items => IR.ok items (frz ρ1 rs) | none => .st) | none => .st) with | .ok items ρ1 => (if wipeOk ρ1 vs = true then (match lcM vs mg mt me items [] (wipeR ρ1 vs) with | some (acc, ρe) => ER.ok (.fr (.lst acc)) (restR ρ1 ρe vs) | none => .st) else .st) | .ex c w ρ1 => .ex c w ρ1 | .st => .st) = lc2 f vs mg mt me (frz ρ1 rs) (dats ρ1 rs)
    cases dats ρ1 rs with
    | none => rfl
    | some ds =>
      show (match (match f ds with | some items => IR.ok items (frz ρ1 rs) | none => .st) with | .ok items ρ1 => (if wipeOk ρ1 vs = true then (match lcM vs mg mt me items [] (wipeR ρ1 vs) with | some (acc, ρe) => ER.ok (.fr (.lst acc)) (restR ρ1 ρe vs) | none => .st) else .st) | .ex c w ρ1 => .ex c w ρ1 | .st => .st) = lc3 vs mg mt me (frz ρ1 rs) (f ds)
      cases f ds <;> rfl
  | _ => rfl
theorem wm_lcOf1 {f : List Py → Option (List Py)} {vs : List Nat} {mg : Py → Rho → Option Rho} : WA (.ok rs ρ) (kLc f vs mg mt me K) = WE (lc2 f vs mg mt me (frz ρ rs) (dats ρ rs)) K := rfl
theorem lc2_some {f : List Py → Option (List Py)} {vs : List Nat} {mg : Py → Rho → Option Rho} {ds : List Py} : lc2 f vs mg mt me ρ (some ds) = lc3 vs mg mt me ρ (f ds) := rfl
def lcE (vs : List Nat) (mg : Py → Rho → Option Rho) (mt me : ME) : ER → ER
  | .ok r ρ => lc3 vs mg mt me (frzR ρ r) ((dat ρ r).bind itemsOf)
  | .ex c w ρ => .ex c w ρ
  | .st => .st
def kLcA (vs : List Nat) (mg : Py → Rho → Option Rho) (mt me : ME) (K : ER → Prop) : ER → Prop := fun x => K (lcE vs mg mt me x)
theorem wm_lcAny {vs : List Nat} {mg : Py → Rho → Option Rho} : WE (mLc vs (iAny ma) mg mt me ρ) K = WE (ma ρ) (kLcA vs mg mt me K) := by
  show K (mLc vs (iAny ma) mg mt me ρ) = K (lcE vs mg mt me (ma ρ))
  congr 1
  unfold mLc iAny
  cases ma ρ with
  | ok r ρ1 =>
    show (match (match dat ρ1 r with | some d => (match itemsOf d with | some items => IR.ok items (frzR ρ1 r) | none => .st) | none => .st) with | .ok items ρ1 => (if wipeOk ρ1 vs = true then (match lcM vs mg mt me items [] (wipeR ρ1 vs) with | some (acc, ρe) => ER.ok (.fr (.lst acc)) (restR ρ1 ρe vs) | none => .st) else .st) | .ex c w ρ1 => .ex c w ρ1 | .st => .st) = lc3 vs mg mt me (frzR ρ1 r) ((dat ρ1 r).bind itemsOf)
    cases dat ρ1 r with
    | none => rfl
    | some d =>
      show (match (match itemsOf d with | some items => IR.ok items (frzR ρ1 r) | none => .st) with | .ok items ρ1 => (if wipeOk ρ1 vs = true then (match lcM vs mg mt me items [] (wipeR ρ1 vs) with | some (acc, ρe) => ER.ok (.fr (.lst acc)) (restR ρ1 ρe vs) | none => .st) else .st) | .ex c w ρ1 => .ex c w ρ1 | .st => .st) = lc3 vs mg mt me (frzR ρ1 r) (itemsOf d)
      cases itemsOf d <;> rfl
  | _ => rfl
theorem wm_lcAny1 {vs : List Nat} {mg : Py → Rho → Option Rho} : WE (.ok r ρ) (kLcA vs mg mt me K) = WE (lc3 vs mg mt me (frzR ρ r) ((dat ρ r).bind itemsOf)) K := rfl
/-- one turn of a comprehension: the test .. -/
def kLcT (vs : List Nat) (me : ME) (acc : List Py) (Q : List Py → Rho → Prop) : ER → Prop
  | .ok b ρ2 => (match b.bl? with
    | some true => WE (me ρ2) fun x => (match x with
      | .ok r ρ3 => ∃ e, dat ρ3 r = some e ∧ wipeOk (frzR ρ3 r) vs = true ∧ acc.length < sizeLine ∧ Q (acc ++ [e]) (wipeR (frzR ρ3 r) vs)
      | _ => False)
    | some false => wipeOk ρ2 vs = true ∧ Q acc (wipeR ρ2 vs)
    | none => False)
  | _ => False
/-- .. and the item -/
def kLcI (vs : List Nat) (acc : List Py) (Q : List Py → Rho → Prop) : ER → Prop
  | .ok r ρ3 => ∃ e, dat ρ3 r = some e ∧ wipeOk (frzR ρ3 r) vs = true ∧ acc.length < sizeLine ∧ Q (acc ++ [e]) (wipeR (frzR ρ3 r) vs)
  | _ => False
def lcT2 (vs : List Nat) (me : ME) (acc : List Py) (Q : List Py → Rho → Prop) (ρ : Rho) : Option Bool → Prop
  | some true => WE (me ρ) (kLcI vs acc Q)
  | some false => wipeOk ρ vs = true ∧ Q acc (wipeR ρ vs)
  | none => False
theorem kl_T {vs : List Nat} {acc : List Py} {Q : List Py → Rho → Prop} : WE (.ok r ρ) (kLcT vs me acc Q) = lcT2 vs me acc Q ρ r.bl? := by
  show (match r.bl? with | some true => _ | some false => _ | none => _) = _
  match r.bl? with
  | none => rfl
  | some false => rfl
  | some true => rfl
theorem kl_t {vs : List Nat} {acc : List Py} {Q : List Py → Rho → Prop} : lcT2 vs me acc Q ρ (some true) = WE (me ρ) (kLcI vs acc Q) := rfl
theorem kl_f {vs : List Nat} {acc : List Py} {Q : List Py → Rho → Prop} : lcT2 vs me acc Q ρ (some false) = (wipeOk ρ vs = true ∧ Q acc (wipeR ρ vs)) := rfl
theorem kl_I {vs : List Nat} {acc : List Py} {Q : List Py → Rho → Prop} (hd : dat ρ r = some d) (hw : wipeOk (frzR ρ r) vs = true) (hl : acc.length < 16777216) (h : Q (acc ++ [d]) (wipeR (frzR ρ r) vs)) : WE (.ok r ρ) (kLcI vs acc Q) := ⟨d, hd, hw, hl, h⟩
theorem lcM_t {vs : List Nat} {mg : Py → Rho → Option Rho} {k acc : List Py} {ρ3 ρ4 : Rho} {b : Rv} (e2 : mg d ρ = some ρ2) (ht : mt ρ2 = .ok b ρ3) (hb : b.bl? = some true) (hm : me ρ3 = .ok r ρ4) (h1 : dat ρ4 r = some e) (h2 : wipeOk (frzR ρ4 r) vs = true) (h3 : acc.length < sizeLine) : lcM vs mg mt me (d :: k) acc ρ = lcM vs mg mt me k (acc ++ [e]) (wipeR (frzR ρ4 r) vs) := by
  rw [lcM]
  simp only [e2, ht, hb, hm, h1, h2, decide_eq_true h3, Bool.and_true, reduceIte]
theorem lcM_f {vs : List Nat} {mg : Py → Rho → Option Rho} {k acc : List Py} {ρ3 : Rho} {b : Rv} (e2 : mg d ρ = some ρ2) (ht : mt ρ2 = .ok b ρ3) (hb : b.bl? = some false) (h2 : wipeOk ρ3 vs = true) : lcM vs mg mt me (d :: k) acc ρ = lcM vs mg mt me k acc (wipeR ρ3 vs) := by
  rw [lcM]
  simp only [e2, ht, hb, h2, reduceIte]
theorem wc_lc {vs : List Nat} {mg : Py → Rho → Option Rho} {items : List Py} (P : Nat → List Py → Rho → Prop) (hw : wipeOk ρ vs = true) (h0 : P 0 [] (wipeR ρ vs))
    (hs : ∀ (n : Nat) (d : Py) (acc : List Py) (ρ' : Rho), items[n]? = some d → P n acc ρ' → WOE (mg d ρ') mt (kLcT vs me acc (P (n + 1))))
    (he : ∀ acc ρ', P items.length acc ρ' → WE (.ok (.fr (.lst acc)) (restR ρ ρ' vs)) K) : WE (lc3 vs mg mt me ρ (some items)) K := by
  have go : ∀ (k : List Py) (n : Nat) (acc : List Py) (ρ' : Rho), items.drop n = k → n ≤ items.length → P n acc ρ' → ∃ acc2 ρe, lcM vs mg mt me k acc ρ' = some (acc2, ρe) ∧ P items.length acc2 ρe := by
    intro k
    induction k with
    | nil =>
      intro n acc ρ' hk hn hp
      have : items.length ≤ n := List.drop_eq_nil_iff.mp hk
      have e : n = items.length := by omega
      subst e
      exact ⟨acc, ρ', rfl, hp⟩
    | cons d k ih =>
      intro n acc ρ' hk hn hp
      have hd : items[n]? = some d := by
        have := congrArg (fun z => z[0]?) hk
        simpa using this
      obtain ⟨ρ2, e2, w⟩ := hs n d acc ρ' hd hp
      have hl : n < items.length := (List.getElem?_eq_some_iff.mp hd).1
      have hk2 : items.drop (n + 1) = k := by
        have := congrArg (fun z => z.drop 1) hk
        simpa using this
      cases ht : mt ρ2 with
      | st => unfold WE at w; rw [ht] at w; exact w.elim
      | ex c w' ρ3 => unfold WE at w; rw [ht] at w; exact w.elim
      | ok b ρ3 =>
        have w2 : WE (.ok b ρ3) (kLcT vs me acc (P (n + 1))) := by unfold WE at w ⊢; rw [ht] at w; exact w
        rw [kl_T] at w2
        cases hb : b.bl? with
        | none => rw [hb] at w2; exact w2.elim
        | some t =>
          rw [hb] at w2
          cases t with
          | false =>
            rw [lcM_f e2 ht hb w2.1]
            exact ih (n + 1) acc _ hk2 hl w2.2
          | true =>
            rw [kl_t] at w2
            unfold WE at w2
            cases hm : me ρ3 with
            | st => rw [hm] at w2; exact w2.elim
            | ex c w' ρ4 => rw [hm] at w2; exact w2.elim
            | ok r ρ4 =>
              rw [hm] at w2
              obtain ⟨e, h1, h2, h3, h4⟩ := w2
              rw [lcM_t e2 ht hb hm h1 h2 h3]
              exact ih (n + 1) _ _ hk2 hl h4
  obtain ⟨acc2, ρe, e1, e2⟩ := go items 0 [] (wipeR ρ vs) (by simp) (Nat.zero_le _) h0
  show K (if wipeOk ρ vs = true then (match lcM vs mg mt me items [] (wipeR ρ vs) with | some (acc, ρe) => ER.ok (.fr (.lst acc)) (restR ρ ρe vs) | none => .st) else .st)
  rw [if_pos hw, e1]
  exact he acc2 ρe e2
/-! ### two names at once, targets -/
def st3 (j : Nat) (r : Rv) : Option Rho → Option Rho
  | some ρ => setRv j r ρ
  | none => none
theorem st_ii : store2 i j (.im d) (.im e) ρ = st3 j (.im e) (setRv i (.im d) ρ) := by
  show (match setRv i (.im d) ρ with | some ρ1 => setRv j (.im e) ρ1 | none => none) = _
  cases setRv i (.im d) ρ <;> rfl
theorem st_if : store2 i j (.im d) (.fr e) ρ = st3 j (.fr e) (setRv i (.im d) ρ) := by
  show (match setRv i (.im d) ρ with | some ρ1 => setRv j (.fr e) ρ1 | none => none) = _
  cases setRv i (.im d) ρ <;> rfl
theorem st_fi : store2 i j (.fr d) (.im e) ρ = st3 j (.im e) (setRv i (.fr d) ρ) := by
  show (match setRv i (.fr d) ρ with | some ρ1 => setRv j (.im e) ρ1 | none => none) = _
  cases setRv i (.fr d) ρ <;> rfl
theorem st_ff : store2 i j (.fr d) (.fr e) ρ = st3 j (.fr e) (setRv i (.fr d) ρ) := by
  show (match setRv i (.fr d) ρ with | some ρ1 => setRv j (.fr e) ρ1 | none => none) = _
  cases setRv i (.fr d) ρ <;> rfl
theorem st3_some : st3 j r (some ρ) = setRv j r ρ := rfl
def gsl3 (ρ : Rho) (i : Nat) (io : Bool) : Option Py → Option Rho
  | some d' => some (ρ.set i (.ow io d'))
  | none => none
def gsl2 (d : Py) (ρ : Rho) (i : Nat) : Option (Bool × Py) → Option Int → Option Rho
  | some (io, .lst l), some n => gsl3 ρ i io (fSetL l n d)
  | _, _ => none
theorem gsl3_some {d' : Py} : gsl3 ρ i io (some d') = some (ρ.set i (.ow io d')) := rfl
theorem gsl2_some {l : List Py} {n : Int} : gsl2 d ρ i (some (io, .lst l)) (some n) = gsl3 ρ i io (fSetL l n d) := rfl
/-- the place that a target's reading tells, where it changes nothing -/
def ixAt : ER → Option Int
  | .ok s _ => s.int?
  | _ => none
theorem gsl_c {n : Int} : gSL i (mC (.int n)) d ρ = gsl2 d ρ i (owS ρ i) (some n) := by
  unfold gSL
  cases h : owS ρ i with
  | none => rfl
  | some x =>
    obtain ⟨io, e⟩ := x
    have e1 : mC (.int n) ρ = .ok (.im (.int n)) ρ := rfl
    simp only [e1, int_im, h]
    cases e with
    | lst l =>
      show (match fSetL l n d with | some d' => some (ρ.set i (.ow io d')) | none => none) = gsl3 ρ i io (fSetL l n d)
      cases fSetL l n d <;> rfl
    | _ => rfl
theorem gsl_v {n : Int} (hj : ρ[j]? = some (.im io (.int n))) : gSL i (mVar j) d ρ = gsl2 d ρ i (owS ρ i) (some n) := by
  rw [← gsl_c]
  unfold gSL
  rw [ev_var, hj]
  rfl
/-! ### rows of numbers -/
theorem iL_get {ns : List Int} {i : Nat} {d : Py} (h : (iL ns)[i]? = some d) : ∃ n, ns[i]? = some n ∧ d = .int n := by
  rw [List.getElem?_map] at h
  cases e : ns[i]? with
  | none => rw [e] at h; cases h
  | some n => rw [e] at h; exact ⟨n, rfl, (Option.some.inj h).symm⟩
theorem iL_len {ns : List Int} : (iL ns).length = ns.length := List.length_map ..
theorem iL_app {ns ms : List Int} : iL ns ++ iL ms = iL (ns ++ ms) := List.map_append.symm
theorem iL_cons {n : Int} {ns : List Int} : Py.int n :: iL ns = iL (n :: ns) := rfl
theorem iL_nil : ([] : List Py) = iL [] := rfl
theorem iL_set {ns : List Int} {i : Nat} {n : Int} : (iL ns).set i (.int n) = iL (ns.set i n) := List.map_set.symm
theorem at_iLN {ns : List Int} {i : Nat} {n : Int} (h : ns[i]? = some n) : pyAt (iL ns) (i : Int) = .im (.int n) := at_nat (by rw [List.getElem?_map, h]; rfl)
theorem set_iL {ns : List Int} {i : Nat} {n : Int} (h : i < ns.length) : fSetL (iL ns) (i : Int) (.int n) = some (.lst (iL (ns.set i n))) := by
  rw [set_nat (by rw [iL_len]; exact h), iL_set]
theorem at_iL {ns : List Int} {m n : Int} (h0 : 0 ≤ m) (h : ns[m.toNat]? = some n) : pyAt (iL ns) m = .im (.int n) := at_int h0 (by rw [List.getElem?_map, h]; rfl)
theorem at_iLL {ns : List Int} {n : Int} (h : ns.getLast? = some n) : pyAt (iL ns) (-1) = .im (.int n) := at_last (by rw [List.getLast?_map, h]; rfl)
end
end Mr
/-! Mr: the program's own errors: Refused and the classes under it, with the one field -/
namespace PySem
namespace ExX
open PySem.W PySem.Calls PyProof.Rows PySem.HandSPX
/-! ### the text of __init__ -/
def iA (p1 p2 : Pos) : Arguments := { posonlyargs := [], args := [{ arg := "self", annotation := none, pos := p1 }, { arg := "what", annotation := none, pos := p2 }], vararg := none, kwonlyargs := [], kw_defaults := [], kwarg := none, defaults := [] }
def iB (q1 q2 q3 q4 : Pos) : List Stmt := [.Assign [.Attribute (.Name "self" q1) "what" q2] (.Name "what" q3) q4]
def iS : Scope := { kind := .function, names := [(PySem.Str.ofString "self", .local), (PySem.Str.ofString "what", .local)], isGenerator := false, isCoroutine := false, more := [] }
/-- what the written part says of Low, at C, and of its __init__, at fI -/
structure ExTxt (K : Frag) (mg : Str → Option Value) (x : Str) (C fI : Addr) : Prop where
  gC : mg x = some (.ref C)
  cls : ∃ nm q N bs bm sn sub ab col dd k0 k1 k2 k3 k5, K.lookup C = some (excClassObj nm q C N bs bm true sn sub ab col dd k0 k1 k2 k3 k5 "ValueError.__new__") ∧ refsVE bm = true
  sa : findIn K (.ref C) "__setattr__" = some (some (.builtin "object.__setattr__"))
  ga : findIn K (.ref C) "__getattribute__" = some (some (.builtin "BaseException.__getattribute__"))
  gg : findIn K (.ref C) "__getattr__" = some none
  noN : findIn K (.ref C) "what" = some none
  iC : findIn K (.ref C) "__init__" = some (some (.ref fI))
  tC : typeIn K (.ref fI) = some (.type "function")
  kC : keepIn K (.ref C) = true
  exC : subIn K (.ref C) (.type "BaseException") = some true
  tyC : typeIn K (.ref C) = some (.type "type")
  hdC : hasDictIn K C = true
  fn : ∃ (oc : Value) (od : Option Addr) (doc pm : Value) (an : Option Addr) (cdv ct : Value) (osl : Array (Option Value)) (p1 p2 q1 q2 q3 q4 : Pos),
    K.lookup fI = some ⟨oc, od, .func (fnOf "__init__" "Refused.__init__" (iA p1 p2) (iB q1 q2 q3 q4) iS .none .none doc pm an cdv ct), osl⟩ ∧ codeIn K cdv "Refused.__init__" = true
theorem one_size (v : Value) : [v].length ≤ sizeLine := by
  rw [sizeLine_eq]
  exact (by decide : 1 ≤ 16777216)
theorem kept_but {K : Frag} {h h' : Heap} {x : Addr} (X : K.In h) (hx : K.lookup x = none) (k : ∀ b o, b ≠ x → h.get? b = some o → h'.get? b = some o) : K.In h' := fun a o e =>
  k a o (fun z => by rw [z, hx] at e; cases e) (X a o e)
theorem ldC {M : Model} {s : Shared} {name : Str} {scope : Scope} {L a : Addr} {cd : Value} {m : Str → Option Value} {x : Str} {pos : Pos} {v : Value} {Q : Value → Shared → Prop} {A : Around} {E : Value → Shared → Prop} (hn : s.heap.Ns L m) (hv : m x = some v) (h : Q v s)
    (hk : scope.kind = .function := by rfl) (hl : (envOfC name scope L a cd).kindOf x = some .local := by rfl) (hd : (x == ("__debug__" : Str)) = false := by decide) :
    wpAny M A (eval (.Name x pos) (envOfC name scope L a cd)) Q E s := wpAny_Name (wpAny_loadName_local hk hl hn hv h) hd
/-- what __init__ leaves of a fresh exception at x -/
structure InitEnd (h h' : Heap) (x C dx t1 : Addr) (v : Value) : Prop where
  keep : ∀ b o, b ≠ x → h.get? b = some o → h'.get? b = some o
  obj : h'.get? x = some { cls := .ref C, dict := some dx, data := .fields #[.ref t1, .none, .none, .none, .bool false, .none] }
  dbig : h.objs.size ≤ dx
  dne : dx ≠ x
  ns : h'.Ns1 dx (fun y => if y = "what" then some v else none)
/-- a made Low -/
structure OwnMade (h h' : Heap) (e C d : Addr) (v : Value) : Prop where
  keep : ∀ b o, h.get? b = some o → h'.get? b = some o
  new : h.objs.size ≤ e
  obj : ∃ oe vs, h'.get? e = some oe ∧ oe.cls = .ref C ∧ oe.dict = some d ∧ oe.data = .fields vs ∧ vs[1]? = some .none
  dbig : h.objs.size ≤ d
  dne : d ≠ e
  ns : h'.Ns1 d (fun y => if y = "what" then some v else none)
section
variable {prog : Program} {w : World} {A : Around} {E : Value → Shared → Prop} {R : Result → Shared → Prop} {s : Shared} {K : Frag} {mg : Str → Option Value} {C fI : Addr}
theorem ex_init {nx : Str} (T : ExTxt K mg nx C fI) {x t0 : Addr} {v : Value} (X : K.In s.heap) (hlim : s.heap.NoLimit) (hx : s.heap.get? x = some (excO C t0)) (hnx : K.lookup x = none) (hroom : A.depth < recursionLimit)
    (hq : ∀ h' tk dx, InitEnd s.heap h' x C dx t0 v → R (.ok (.ret .none)) { s with heap := h', toks := tk }) :
    codeAny (model prog w) A (.call (.ref fI) ⟨[.ref x, v], []⟩) R s := by
  obtain ⟨oc, od, doc, pm, an, cdv, ct, osl, p1, p2, q1, q2, q3, q4, ho, hcd⟩ := T.fn
  obtain ⟨nm, q, N, bs, bm, sn, sub, ab, col, dd, k0, k1, k2, k3, k5, hC, hbm⟩ := T.cls
  have hcl : clsIn K C = some { name := nm, bases := bs, mro := .ref C :: bm, ns := N, qualname := q, hasDict := true, slotNames := sn, subclasses := sub, abstract := ab, collection := col, hasDel := false } := by unfold clsIn; rw [hC] <;> rfl
  refine Att.call_fn (binds := [("self", .ref x), ("what", v)]) X hlim ho hcd hroom (BindsTo.of_eq (by first | rfl | with_unfolding_all rfl)) (by first | rfl | decide | with_unfolding_all rfl) (fun s₁ IC => ?_) rfl rfl rfl
  obtain ⟨h₁, tk₁, rfl⟩ := IC.toInCall.same
  have k : ∀ b o, s.heap.get? b = some o → h₁.get? b = some o := IC.toInCall.keep
  have hn := IC.toInCall.ns
  have hxL : s.heap.objs.size ≠ x := Nat.ne_of_gt (Heap.lt_size hx)
  have X₁ : K.In h₁ := X.keeps k
  have hx₁ := k _ _ hx
  -- self.by = by
  show wpAny _ _ (execs _ _) _ _ _
  refine wpAny_execs_cons (plainObj_wpAny_Assign_Attribute ?_)
  refine ldC (v := v) hn (by first | rfl | with_unfolding_all rfl | kernel_rfl) (ldC (v := .ref x) hn (by first | rfl | with_unfolding_all rfl | kernel_rfl) ?_)
  refine set_plain X₁ (ox := excO C t0) (od := none) ⟨hx₁, rfl, rfl, trivial⟩ T.sa ?_
  refine exc_osa X₁ hx₁ hcl (show refsVE (.ref C :: bm) = true from hbm) rfl T.noN (fun h₃ tk₃ dx k₃ dn dne hx₃ hn₃ => ?_)
  show wpAny _ _ (execs _ _) _ _ _
  have z : s.heap.objs.size < h₁.objs.size := hn.lt
  exact wpAny_execs_nil (hq h₃ tk₃ dx ⟨fun b o hb e => k₃ b o hb (k b o e), hx₃, Nat.le_of_lt (Nat.lt_of_lt_of_le z dn), dne, hn₃⟩)
theorem ex_made {nx : Str} (T : ExTxt K mg nx C fI) {v : Value} (X : K.In s.heap) (hlim : s.heap.NoLimit) (hroom : A.depth + 1 < recursionLimit)
    (hq : ∀ h' tk e d, OwnMade s.heap h' e C d v → R (.ok (.ret (.ref e))) { s with heap := h', toks := tk }) :
    codeAny (model prog w) A (.call (.ref C) ⟨[v], []⟩) R s := by
  obtain ⟨nm, q, N, bs, bm, sn, sub, ab, col, dd, k0, k1, k2, k3, k5, hC, hbm⟩ := T.cls
  obtain ⟨hp, g, dr, tk, os⟩ := s
  have k : ∀ b o, hp.get? b = some o → ((hp.push (kdv_tup [v])).push (excO C hp.objs.size)).get? b = some o := fun b o e => Heap.get?_push_of_some _ (Heap.get?_push_of_some _ e)
  have hget : ((hp.push (kdv_tup [v])).push (excO C hp.objs.size)).get? (hp.objs.size + 1) = some (excO C hp.objs.size) := by heap_get
  have hnx : K.lookup (hp.objs.size + 1) = none := by
    cases e : K.lookup (hp.objs.size + 1) with
    | none => rfl
    | some o =>
      have z : hp.get? (hp.objs.size + 1) = some o := X _ _ e
      exact absurd (Nat.lt_of_succ_lt (Heap.lt_size z)) (Nat.lt_irrefl _)
  refine call_own F.excBase_ValueError (fun X => refsVE_contains X bm hbm) (X _ _ hC) (looks_findIn X T.iC) (fun self => bind_fn X self T.tC) (one_size v) ?_
  refine ex_init (s := ⟨(hp.push (kdv_tup [v])).push (excO C hp.objs.size), g, dr, tk, os⟩) T (X.keeps k) (hlim.keeps k) hget hnx ?_ fun h' tk' dx ⟨k', hx, dn, dne, hns⟩ => ?_
  · show A.depth + 1 < recursionLimit
    exact hroom
  · have old : ∀ b o, hp.get? b = some o → h'.get? b = some o := fun b o e => k' b o (Nat.ne_of_lt (Nat.lt_succ_of_lt (Heap.lt_size e))) (k b o e)
    have z : hp.objs.size + 1 + 1 ≤ dx := by
      first
        | (simpa only [Heap.size_push] using dn)
        | exact dn
        | (have q := dn; rw [Heap.size_push, Heap.size_push] at q; exact q)
    exact ⟨rfl, hq h' tk' (hp.objs.size + 1) dx ⟨old, Nat.le_succ _, ⟨_, _, hx, rfl, rfl, rfl, rfl⟩, Nat.le_trans (Nat.le_trans (Nat.le_succ _) (Nat.le_succ _)) z, dne, hns⟩⟩
end
end ExX
end PySem
namespace L2
open PySem PySem.Spec PyProof.Rows
theorem relO_ex {v : V} {v' : Value} (r : RelV v v') (f : Str) : RelO (List.lookup f [(("what" : Str), v)]) (if f = "what" then some v' else none) := by
  by_cases hw : f = "what"
  · subst hw
    rw [if_pos rfl]
    have q : List.lookup ("what" : Str) [(("what" : Str), v)] = some v := by simp [List.lookup]
    rw [q]
    exact r
  · rw [if_neg hw]
    have qw : (f == ("what" : Str)) = false := by simpa using hw
    have q2 : List.lookup f [(("what" : Str), v)] = none := by simp [List.lookup, qw]
    rw [q2]
    trivial
section
variable {X : Cx} {C fI : Addr}
/-- Low(e) -/
def tMkEx (C : Addr) (ta : TA) : St → Hp → XK → Prop := fun σ H Q => ta σ H fun vs H1 => ∃ v, vs = [v] ∧ ∀ d, H1 d = none → Q (.ref C) (some d) (upd H1 d (.xd [(("what" : Str), v)]))
theorem pmk_ex {a : Expr} {ta : TA} {p pos : Pos} {k : Nat} {x : Str} (T : PySem.ExX.ExTxt X.K X.mg x C fI) (hr : Room k X.A) (ha : PA X [a] ta) (hg : Gl X x := by rfl)
    (he : starEach (a :: []) X.env = (false, eval a X.env) :: starEach [] X.env := by rfl) (hpl : (backTo pos (starEach [] X.env)).any (·.1) = false := by rfl) (hdb : (x == ("__debug__" : Str)) = false := by decide) :
    PMk X (.Call (.Name x p) [a] [] pos) (tMkEx C ta) := by
  intro pins s σ H Q I h
  refine wpAny_Call_Name_kw (ld_glob I hg T.gC ?_ hdb)
  refine PySem.W.callWith_K (h₀ := X.base) I.ok.mod.kin T.kC (thn (ha.run pos pins s σ H _ I h) fun us s1 hh => ?_) he hpl
  obtain ⟨vs, H1, I1, r1, v, ev, q1⟩ := hh
  subst ev
  refine ⟨I1.kIn, ?_⟩
  cases r1 with
  | cons rv rn =>
    rename_i v' us'
    cases rn
    show wpAny _ _ (call (.ref C) [v']) _ _ _
    have hlim := I1.nolimit
    obtain ⟨hp, g, dr, tk, os⟩ := s1
    refine wpAny_call (PySem.ExX.ex_made T I1.kIn hlim (by have := hr.dp; omega) fun h' tk' e d M => ?_)
    show MkP X pins σ Q (.ref e) ⟨h', g, dr, tk', os⟩
    obtain ⟨oe, fv, hoe, hc, hd, hdat, h1⟩ := M.obj
    have hns := M.ns
    obtain ⟨G', g1, g2⟩ := restrict h' fun b => decide (b ≠ e)
    have gk : ∀ b, b ≠ e → G'.get? b = h'.get? b := fun b hb => g1 b (decide_eq_true hb)
    have ge : G'.get? e = none := g2 e (by simp)
    have old : ∀ b o, hp.get? b = some o → G'.get? b = some o := fun b o q => (gk b (Nat.ne_of_lt (Nat.lt_of_lt_of_le (Heap.lt_size q) M.new))).trans (M.keep b o q)
    have ob : ObjOk X.prog X.w (upd H1 d (.xd [(("what" : Str), v)])) G' d (.xd [(("what" : Str), v)]) :=
      ⟨_, hns.at (fun o q => (gk d M.dne).trans q), fun f => relO_ex rv f⟩
    have J : Inv X pins σ (upd H1 d (.xd [(("what" : Str), v)])) ⟨G', g, dr, tk', os⟩ := I1.laid (t' := tk') old M.dbig ob
    refine ⟨e, oe, fv, ⟨G', g, dr, tk', os⟩, _, .ref C, some d, rfl, J, fun b o q => ?_, ge, hoe, ⟨hc, hd⟩, hdat, h1, ?_, rfl, I1.bare, raises_own T.exC T.tyC, q1 d (I1.hok.fresh M.dbig)⟩
    · by_cases hb : b = e
      · have q' : G'.get? b = some o := q
        rw [hb, ge] at q'; cases q'
      · exact (gk b hb).symm.trans q
    · rw [upd_ne (Ne.symm M.dne)]
      exact I1.hok.fresh M.new
/-- low.by, low the exception that the suite holds (at a; its class cls, its dict d) -/
def tWhat (C : Addr) (a : Addr) (cls : Value) (d : Option Addr) (te : TE) : TE := fun σ H Q => te σ H fun x H1 => x = .ref a ∧ cls = .ref C ∧ ∃ (dd : Addr) (v : V), d = some dd ∧ H1 dd = some (.xd [(("what" : Str), v)]) ∧ Q v H1
theorem pe_what {a : Addr} {oe : Obj} {cls : Value} {d : Option Addr} {pn : List (Addr × Obj)} {e : Expr} {te : TE} {pos : Pos} {nx : Str} (T : PySem.ExX.ExTxt X.K X.mg nx C fI) (hz : Zc cls d oe) (hf : ∃ vs, oe.data = .fields vs) (he : PE (X.suite a ((a, oe) :: pn)) e te)
    (hb : attributeBase e "what" X.env (eval e X.env) = eval e X.env := by rfl) :
    PE (X.suite a ((a, oe) :: pn)) (.Attribute e "what" pos) (tWhat C a cls d te) := by
  refine ⟨fun pins s σ H Q I h => ?_⟩
  refine attr_of hb (thn (he.run pins s σ H _ I h) fun u s1 hh => ?_)
  obtain ⟨x, H1, I1, rx, ex, ec, dd, v, ed, ea, q⟩ := hh
  subst ex
  obtain rfl : u = Value.ref a := rx
  subst ec
  subst ed
  obtain ⟨ha, _⟩ := I1.pin (a, oe) (List.mem_append_left _ List.mem_cons_self)
  obtain ⟨vs, hd⟩ := hf
  have hx : ObjOk X.prog X.w H1 s1.heap dd (.xd [(("what" : Str), v)]) := I1.hok dd _ ea
  obtain ⟨mA, hns, hr⟩ := hx
  obtain ⟨od, ho, hl⟩ := lookIn_ns hns
  have l : List.lookup ("what" : Str) [(("what" : Str), v)] = some v := by simp [List.lookup]
  obtain ⟨u, hu, ru⟩ := RelO.some_of (v := v) (o := mA "what") (by rw [← l]; exact hr "what")
  have J : PySem.W.InstAt s1.heap a oe C (some od) := ⟨ha, hz.1, by unfold PySem.W.notCls; rw [hd] <;> rfl, by rw [hz.2]; exact ho⟩
  exact HandSPX.exc_get I1.kIn J T.ga T.gg T.exC (PySem.W.findObj_own T.hdC T.noN rfl (by rw [hl, hu])) (handed_of ru) ⟨v, H1, I1.tok _, ru, q⟩
end
end L2
/-! Mr: raise, and try .. except X as e: return .. -/
namespace Mr
open PySem PySem.Spec PyProof.Rows L2
/-! ### other standing things, the same data -/
mutual
theorem Rep.tr {T U : Tb} (hK : U.K = T.K) (hc : U.cls = T.cls) {F : Hp} : ∀ {v : V} {d : Py}, Rep T F v d → Rep U F v d
  | _, _, .non => .non
  | _, _, .bl b => .bl b
  | _, _, .int i => .int i
  | _, _, .str x => .str x
  | _, _, .tup h r => .tup (by rw [hK]; exact h) (RepL.tr hK hc r)
  | _, _, .lst h r => .lst h (RepL.tr hK hc r)
  | _, _, .scr h r => .scr (by rw [hK]; exact h) (RepL.tr hK hc r)
  | _, _, .dic h k r => .dic h k (RepL.tr hK hc r)
  | _, _, .dit h k r => .dit h k (RepL.tr hK hc r)
  | _, _, .obj h k r => .obj (by rw [hc]; exact h) k (RepL.tr hK hc r)
theorem RepL.tr {T U : Tb} (hK : U.K = T.K) (hc : U.cls = T.cls) {F : Hp} : ∀ {vs : List V} {ds : List Py}, RepL T F vs ds → RepL U F vs ds
  | _, _, .nil => .nil
  | _, _, .cons h r => .cons (Rep.tr hK hc h) (RepL.tr hK hc r)
end
section
variable {T U : Tb} {F F1 H Hi : Hp} {σ : L2.St} {ρ : Rho} {v : V}
theorem Box.tr (hK : U.K = T.K) (hc : U.cls = T.cls) {p : Addr} : ∀ {d : Py}, Box T F H p d → Box U F H p d
  | .lst _, h => by obtain ⟨xs, h, r⟩ := h; exact ⟨xs, h, r.tr hK hc⟩
  | .dic _ _, h => by obtain ⟨xs, h, k, r⟩ := h; exact ⟨xs, h, k, r.tr hK hc⟩
  | .dit _ _, h => by obtain ⟨xs, h, k, r⟩ := h; exact ⟨xs, h, k, r.tr hK hc⟩
  | .obj _ _ _, h => by obtain ⟨dx, fs, h, k, r⟩ := h; exact ⟨dx, fs, by rw [hc]; exact h, k, r.tr hK hc⟩
  | .non, h => h.elim
  | .bl _, h => h.elim
  | .int _, h => h.elim
  | .str _, h => h.elim
  | .tup _, h => h.elim
  | .scr _, h => h.elim
theorem SlOk.tr (hK : U.K = T.K) (hc : U.cls = T.cls) {i : Nat} : ∀ {s : Sl}, SlOk T F H σ i s → SlOk U F H σ i s
  | .no, _ => trivial
  | .im _ _, h => by obtain ⟨v, e, r⟩ := h; exact ⟨v, e, r.tr hK hc⟩
  | .ow _ _, h => by obtain ⟨p, e, n, b⟩ := h; exact ⟨p, e, n, b.tr hK hc⟩
theorem RR.tr (hK : U.K = T.K) (hc : U.cls = T.cls) : ∀ {r : Rv}, RR T Hi F H σ ρ v r → RR U Hi F H σ ρ v r
  | .im _, h => Rep.tr hK hc h
  | .fr _, h => by obtain ⟨p, e, n, b, q⟩ := h; exact ⟨p, e, n, b.tr hK hc, q⟩
  | .bo _, h => h
/-- T, but L stands from the start and the slots are fixed -/
def suT (T : Tb) (L : Hp) (s : L2.St) : Tb := { T with lo := L, sg := some s }
theorem En.toSu (I : En T F σ ρ H) : En (suT T F σ) F σ ρ H :=
  ⟨I.fh, I.len, fun i s h => SlOk.tr (T := T) (U := suT T F σ) rfl rfl (I.sl i s h), I.uniq, Same.refl _, fun x z => (Option.some.inj z)⟩
theorem En.ofSu [NoSg T] {L : Hp} {s : L2.St} (hl : Same T.lo L) (I : En (suT T L s) F σ ρ H) : En T F σ ρ H :=
  ⟨I.fh, I.len, fun i x h => SlOk.tr (T := suT T L s) (U := T) rfl rfl (I.sl i x h), I.uniq, hl.trans I.lo, fun s z => (by rw [NoSg.h] at z; cases z)⟩
theorem own_not {i : Nat} {io : Bool} {d : Py} {p : Addr} {fs : List (Str × V)} (I : En T F σ ρ H) (h : H p = some (.xd fs)) : ¬ Own σ ρ p := fun w => by
  obtain ⟨i, io, d, e, hv⟩ := w
  obtain ⟨q, e1, _, b⟩ := I.sl i _ e
  rw [hv] at e1
  cases e1
  cases d with
  | lst l => obtain ⟨_, z, _⟩ := b; rw [h] at z; cases z
  | dic k l => obtain ⟨_, z, _⟩ := b; rw [h] at z; cases z
  | dit k l => obtain ⟨_, z, _⟩ := b; rw [h] at z; cases z
  | obj c k l => obtain ⟨_, _, z, _⟩ := b; rw [h] at z; cases z
  | _ => exact b.elim
end
section
variable {T : Tb} {W : Wx} {F F1 F2 F0 H H0 H1 H2 Hi : Hp} {σ σ0 σ1 σ2 : L2.St} {ρ ρ0 ρ1 ρ2 ρe : Rho} {D : Ends} {v : V}
variable [NoSg T]
/-! ### raise X(e) -/
def tRaiseX (C : Addr) (W : WX) (ta : TA) : TS := fun _ σ H => tMkEx C ta σ H fun cls d H' => W cls d σ H'
def mRaise (c : Nat) (m : ME) : MS := fun ρ => (m ρ).then fun r ρ1 => match dat ρ1 r with
  | some w => .ex c w (frzR ρ1 r)
  | none => .st
theorem ss_raise {te : TE} {m : ME} {C : Addr} (c : Nat) (hc : T.cls c = C) (h : SE T W te m) : SS T W (tRaiseX C W (tCons te tNil)) (mRaise c m) := fun F H σ ρ D I q => by
  subst hc
  refine ss_then h I q fun v r ρ1 F1 H1 f1 I1 rr q1 => ?_
  cases hd : dat ρ1 r with
  | none => rw [hd] at q1; exact q1.elim
  | some w =>
    rw [hd] at q1
    obtain ⟨F2, f2, I2, r2⟩ := frz_one f1 I1 rr hd
    refine ⟨_, rfl, fun d hn => ?_⟩
    have nF : F2 d = none := I2.fh.free hn
    have no : ¬ Own σ (frzR ρ1 r) d := fun w => by
      obtain ⟨i, io, d', e, hv⟩ := w
      obtain ⟨p, e1, _, b⟩ := I2.sl i _ e
      rw [hv] at e1
      cases e1
      obtain ⟨o, z⟩ := b.some
      rw [hn] at z
      cases z
    have I3 : En T F2 σ (frzR ρ1 r) (upd H1 d (.xd [("what", v)])) := I2.updD nF no
    have f3 : Fr F H σ ρ F2 (upd H1 d (.xd [("what", v)])) σ (frzR ρ1 r) := ⟨f2.ex, fun b o hb hno => by
        have z := f2.keep b o hb hno
        rw [upd_ne (ne_of_none z hn)]
        exact z, f2.new, f2.own, fun b o hb => by
        obtain ⟨o', z⟩ := f2.there b o hb
        exact ⟨o', by rw [upd_ne (ne_of_none z hn)]; exact z⟩, f2.io⟩
    exact q1 d v σ F2 _ f3 I3 r2 upd_same (f2.none hn) nF
/-! ### try: .. except X as e: return .. -/
def mTryR (n : Nat) (cs : List Nat) (i : Nat) (mb : MS) (su : Nat → Py → ME) : MS := fun ρ => match mb ρ with
  | .ex c w ρ1 => if c < n then (if cs.contains c = true then (match setSl ρ1 i .no with
    | some ρ2 => (match su c w ρ2 with
      | .ok r ρ3 => .rt r ρ3
      | _ => .st)
    | none => .st) else .ex c w ρ1) else .st
  | x => x
theorem ss_tryR {n : Nat} {cs : List Nat} {i : Nat} {cv : Value} {tb : WX → TS} {te : Addr → Value → Option Addr → TE} {mb : MS} {su : Nat → Py → ME}
    (hx : ∀ c, c < n → PySem.W.exmOne T.K (.ref (T.cls c)) cv = some (cs.contains c))
    (hb : ∀ W', SS T W' (tb W') mb)
    (hs : ∀ (c : Nat) (w : Py) (a d : Addr) (v : V) (L : Hp) (s : L2.St), c < n → L d = some (.xd [("what", v)]) → Rep T L v w → s[i]? = some (some (.ref a)) → SE (suT T L s) (fun _ _ _ _ => False) (te a (.ref (T.cls c)) (some d)) (su c w)) :
    SS T W (fun D σ H => tb (wAs T.K cv i (fun a cls d => tRet (te a cls d)) W D) D σ H) (mTryR n cs i mb su) := fun F H σ ρ D I q => by
  refine hb _ F H σ ρ D I ?_
  unfold mTryR at q
  cases e : mb ρ with
  | nx ρ' => rw [e] at q; exact q
  | rt r ρ' => rw [e] at q; exact q
  | bk ρ' => rw [e] at q; exact q
  | ct ρ' => rw [e] at q; exact q
  | st => rw [e] at q; exact q
  | ex c w ρ1 =>
    rw [e] at q
    have q : SPost T W F H σ ρ D (if c < n then (if cs.contains c = true then (match setSl ρ1 i .no with | some ρ2 => (match su c w ρ2 with | .ok r ρ3 => SR.rt r ρ3 | _ => .st) | none => .st) else .ex c w ρ1) else .st) := q
    intro d v σ' F' H' f I' rep hd hn hF
    by_cases hc : c < n
    · rw [if_pos hc] at q
      refine ⟨cs.contains c, hx c hc, fun hy a ha => ?_, fun hno => ?_⟩
      · rw [if_pos hy] at q
        cases es : setSl ρ1 i .no with
        | none => rw [es] at q; exact q.elim
        | some ρ2 =>
          rw [es] at q
          have no := own_not (i := 0) (io := false) (d := .non) I' hd
          have I1 := I'.add hF hd no
          obtain ⟨f2, I2⟩ := set_im (x := some (.ref a)) (fun io d z => by cases z) I1 es trivial
          have f1 : Fr F H σ ρ (upd F' d (.xd [("what", v)])) H' σ' ρ1 := ⟨f.ex.trans (same_add hF), f.keep, fun b o hb => by
            by_cases hbd : b = d
            · subst hbd; exact .inr (.inl hn)
            · rw [upd_ne hbd] at hb; exact f.new b o hb, f.own, f.there, f.io⟩
          have hi : (σ'.set i (some (.ref a)))[i]? = some (some (.ref a)) := by
            obtain ⟨_, _, _, _, hl⟩ := setSl_some es
            exact List.getElem?_set_self (by rw [I'.len]; exact hl)
          refine hs c w a d v _ _ hc upd_same (rep.mono (same_add hF)) hi _ H' _ ρ2 _ I2.toSu ?_
          have q : SPost T W F H σ ρ D (match su c w ρ2 with | .ok r ρ3 => SR.rt r ρ3 | _ => .st) := q
          cases e3 : su c w ρ2 with
          | st => rw [e3] at q; exact q.elim
          | ex c' w' ρ3 => rw [e3] at q; exact q.elim
          | ok r ρ3 =>
            rw [e3] at q
            intro v' F4 H4 f4 I4 rr
            have f5 := (f1.trans f2).trans f4
            exact q v' _ F4 H4 f5 (I4.ofSu I1.lo) ((RR.tr (T := suT T (upd F' d (.xd [("what", v)])) (σ'.set i (some (.ref a)))) (U := T) rfl rfl rr).later fun b hb => (f1.trans f2).none hb)
      · rw [if_neg (by rw [hno]; exact Bool.false_ne_true)] at q
        exact q d v σ' F' H' f I' rep hd hn hF
    · rw [if_neg hc] at q
      exact q.elim
end
/-! ### what the suite asks of its exception -/
/-- e.what -/
def tWhatG (Cs : List Addr) (a : Addr) (cls : Value) (d : Option Addr) (te : TE) : TE := fun σ H Q => ∃ C, C ∈ Cs ∧ tWhat C a cls d te σ H Q
theorem pe_whatG {X : Cx} {a : Addr} {oe : Obj} {cls : Value} {d : Option Addr} {pn : List (Addr × Obj)} {e : Expr} {te : TE} {pos : Pos} {Cs : List Addr} (T : ∀ C ∈ Cs, ∃ nx fI, PySem.ExX.ExTxt X.K X.mg nx C fI) (hz : Zc cls d oe) (hf : ∃ vs, oe.data = .fields vs) (he : PE (X.suite a ((a, oe) :: pn)) e te)
    (hb : attributeBase e "what" X.env (eval e X.env) = eval e X.env := by rfl) :
    PE (X.suite a ((a, oe) :: pn)) (.Attribute e "what" pos) (tWhatG Cs a cls d te) := ⟨fun pins s σ H Q I h => by
  obtain ⟨C, hC, h⟩ := h
  obtain ⟨nx, fI, t⟩ := T C hC
  exact (pe_what t hz hf he hb).run pins s σ H Q I h⟩
theorem se_what {T : Tb} {W : Wx} {L : Hp} {s : L2.St} {i : Nat} {a d : Addr} {v : V} {w : Py} {C : Addr} {Cs : List Addr} (hC : C ∈ Cs) (hd : L d = some (.xd [("what", v)])) (r : Rep T L v w) (hs : s[i]? = some (some (.ref a))) :
    SE (suT T L s) W (tWhatG Cs a (.ref C) (some d) (tVar i)) (mC w) := fun F H σ ρ Q I q => by
  have es := I.sg s rfl
  subst es
  refine ⟨C, hC, .ref a, hs, rfl, rfl, d, v, rfl, I.fh _ _ (I.lo _ _ hd), ?_⟩
  exact q v F H Fr.refl I (Rep.mono (T := suT T L σ) (G := F) I.lo (Rep.tr (T := T) (U := suT T L σ) rfl rfl r))
end Mr
/-! Mr: isinstance -/
namespace Mr
open PySem PySem.Spec PyProof.Rows L2
/-- what a class of errors says, so that isinstance asks its instances -/
structure ExIs (K : PySem.W.Frag) (C : Addr) : Prop where
  c : (PySem.W.clsIn K C).isSome = true
  g : PySem.W.findIn K (.ref C) "__getattribute__" = some (some (.builtin "BaseException.__getattribute__"))
  k : PySem.W.findIn K (.ref C) "__getattr__" = some none
  s : PySem.W.subIn K (.ref C) (.type "BaseException") = some true
  a : PySem.W.findIn K (.ref C) "__class__" = some (some (.builtin "object.__class__"))
  n : PySem.W.specialIn K (.builtin "object.__class__") "__get__" = some (some (.builtin "getset_descriptor.__get__"))
  t : PySem.W.takesIn K (.builtin "object.__class__") = some true
  m : PySem.W.mroIn K C (.type "object") = some true
/-- isinstance(e, c), e what the suite holds; its dict d is tracked -/
def rIsX (K : PySem.W.Frag) (Cs : List Addr) (a : Addr) (cls : Value) (d : Option Addr) : List V → Hp → VK → Prop := fun xs H Q => ∃ (C dd : Addr) (c : V) (u : Value) (b : Bool) (fs : List (Str × V)), C ∈ Cs ∧ cls = .ref C ∧ d = some dd ∧ H dd = some (.xd fs) ∧ xs = [.ref a, c] ∧ ClsV c u ∧ PySem.W.kitOne K (.ref C) u = some b ∧ Q (.bl b) H
theorem call_isX {X : Cx} {a : Addr} {oe : Obj} {cls : Value} {d : Option Addr} {pn : List (Addr × Obj)} {Cs : List Addr} (T : ∀ C ∈ Cs, ExIs X.K C) (hz : Zc cls d oe) (hf : ∃ vs, oe.data = .fields vs) : CallR (X.suite a ((a, oe) :: pn)) (.builtin "isinstance") (rIsX X.K Cs a cls d) := by
  intro pins s σ H xs us Q I r h
  obtain ⟨C, dd, c, u, b, fs, hC, rfl, rfl, hd, rfl, k, e, q⟩ := h
  obtain ⟨u1, u2, rfl, r1, r2⟩ := vals2 r
  have e2 := k.eq r2
  subst e2
  cases (show u1 = Value.ref a from r1)
  obtain ⟨hget, _⟩ := I.pin (a, oe) (List.mem_append.mpr (.inl List.mem_cons_self))
  obtain ⟨vs, hv⟩ := hf
  obtain ⟨mA, hns, hr⟩ := (show ObjOk X.prog X.w H s.heap dd (.xd fs) from I.hok dd _ hd)
  obtain ⟨od, ho, _⟩ := lookIn_ns hns
  have J : PySem.W.InstAt s.heap a oe C (some od) := ⟨hget, hz.1, by unfold PySem.W.notCls; rw [hv] <;> rfl, by rw [hz.2]; exact ho⟩
  have t := T C hC
  exact PySem.W.kia_one (PySem.W.kitx_exc t.c t.g t.k t.s t.a t.n t.t t.m) I.kIn J e (fun z => nomatch z) fun tk => ⟨.bl b, H, I.kept (t' := tk) fun _ _ z => z, rfl, q⟩
/-! ### isinstance of data -/
def tyOfD : Py → Option String
  | .non => some "NoneType"
  | .bl _ => some "bool"
  | .int _ => some "int"
  | .str _ => some "str"
  | .tup _ => some "tuple"
  | .lst _ => some "list"
  | .scr _ => some "list"
  | .dic _ _ => some "dict"
  | .dit _ _ => some "dict"
  | .obj _ _ _ => none
def isTy (t : String) (d : Py) : Option Bool := match tyOfD d with
  | some s => some (decide (s = t) || (s == "bool" && t == "int"))
  | none => none
end Mr
/-! Mr: texts: a sign in a text, split, join; all; isinstance of data -/
namespace Mr
open PySem PySem.Spec PyProof.Rows L2
section
variable {T : Tb} {W : Wx} {F F1 F2 F0 H H0 H1 H2 Hi : Hp} {σ σ0 σ1 σ2 : L2.St} {ρ ρ0 ρ1 ρ2 ρe : Rho} {D : Ends} {v : V}
/-! ### c in z, c one sign -/
def signIn (a z : Str) : Option Bool := match a.cps.toList with
  | [c] => some (decide (c ∈ z.cps.toList))
  | _ => none
theorem sign_is {a z : Str} {b : Bool} (h : signIn a z = some b) : ∃ c, a = ⟨#[c]⟩ ∧ b = decide (c ∈ z.cps.toList) := by
  unfold signIn at h
  obtain ⟨⟨l⟩⟩ := a
  match l, h with
  | [c], h => exact ⟨c, rfl, (Option.some.inj h).symm⟩
  | [], h => cases h
  | _ :: _ :: _, h => cases h
def blO (o : Option Bool) : OV := match o with
  | some b => .im (.bl b)
  | none => .st
def pyInS : Py → Py → OV
  | .str a, .str z => blO (signIn a z)
  | _, _ => .st
def pyNotInS : Py → Py → OV
  | .str a, .str z => blO ((signIn a z).map not)
  | _, _ => .st
abbrev rSignIn : R2 := fun x y H Q => ∃ (c : Nat) (z : Str), x = .str ⟨#[c]⟩ ∧ y = .str z ∧ Q (.bl (decide (c ∈ z.cps.toList))) H
abbrev rSignNot : R2 := fun x y H Q => ∃ (c : Nat) (z : Str), x = .str ⟨#[c]⟩ ∧ y = .str z ∧ Q (.bl (!decide (c ∈ z.cps.toList))) H
theorem r2_inS : R2ok T rSignIn pyInS := fun F H x y d e Q fh px py q => by
  cases d <;> cases e <;> try exact q.elim
  rename_i a z
  have q : Give T F H Q (blO (signIn a z)) := q
  cases h : signIn a z with
  | none => rw [h] at q; exact q.elim
  | some b =>
    rw [h] at q
    obtain ⟨c, rfl, rfl⟩ := sign_is h
    exact ⟨c, z, px.str, py.str, Give.bl fh q⟩
theorem r2_notInS : R2ok T rSignNot pyNotInS := fun F H x y d e Q fh px py q => by
  cases d <;> cases e <;> try exact q.elim
  rename_i a z
  have q : Give T F H Q (blO ((signIn a z).map not)) := q
  cases h : signIn a z with
  | none => rw [h] at q; exact q.elim
  | some b =>
    rw [h] at q
    obtain ⟨c, rfl, rfl⟩ := sign_is h
    exact ⟨c, z, px.str, py.str, Give.bl fh q⟩
/-! ### a method of a text with one argument -/
def mM1 (f : Str → Py → OV) (ma mb : ME) : ME := fun ρ => (ma ρ).bind fun x ρ1 => match x with
  | .im (.str a) => (mb ρ1).bind fun y ρ2 => (match dat ρ2 y with
    | some e => (f a e).er ρ2
    | none => .st)
  | _ => .st
def M1ok (T : Tb) (r : V → List V → Hp → VK → Prop) (f : Str → Py → OV) : Prop := ∀ (F H : Hp) (a : Str) (y : V) (e : Py) (Q : VK), Same F H → Pk T F H y e → Give T F H Q (f a e) → r (.str a) [y] H Q
theorem se_m1 {r : V → List V → Hp → VK → Prop} {f : Str → Py → OV} {to te : TE} {ma mb : ME} (hr : M1ok T r f) (ha : SE T W to ma) (hb : SE T W te mb) : SE T W (tM1 r to te) (mM1 f ma mb) := fun F H σ ρ Q I q => by
  refine se_then ha I q fun v x ρ1 F1 H1 e1 f1 I1 s1 q1 => ?_
  cases x with
  | bo i => exact q1.elim
  | fr d => exact q1.elim
  | im d =>
    cases d <;> try exact q1.elim
    rename_i a
    cases s1
    refine ⟨⟨a, rfl⟩, ?_⟩
    have q1 : EPost T W F1 H1 σ ρ1 Q ((mb ρ1).bind fun y ρ2 => (match dat ρ2 y with | some e => (f a e).er ρ2 | none => .st)) := q1
    refine se_then hb I1 q1 fun u y ρ2 F2 H2 e2 f2 I2 s2 q2 => ?_
    cases hy : dat ρ2 y with
    | none => rw [hy] at q2; exact q2.elim
    | some e =>
      rw [hy] at q2
      exact hr F2 H2 a u e Q I2.fh (s2.pk I2 (dat_settled.trans hy)) (Give.post I2 q2)
/-- texts of a list -/
def strsOf : List Py → Option (List Str)
  | [] => some []
  | .str x :: l => (strsOf l).map (x :: ·)
  | _ => none
theorem strs_rep : ∀ {xs : List V} {l : List Py} {ys : List Str}, RepL T F xs l → strsOf l = some ys → xs = ys.map V.str
  | _, _, _, .nil, h => by cases h; rfl
  | _, _, ys, .cons (d := d) (ds := ds) r rr, h => by
    cases d <;> try (cases h; done)
    rename_i x
    have h : (strsOf ds).map (x :: ·) = some ys := h
    cases e : strsOf ds with
    | none => rw [e] at h; cases h
    | some zs =>
      rw [e] at h
      cases h
      cases r
      rw [strs_rep rr e]
      rfl
theorem rep_strs (F : Hp) : ∀ ys : List Str, RepL T F (ys.map V.str) (ys.map Py.str)
  | [] => .nil
  | y :: ys => .cons (.str y) (rep_strs F ys)
def fSplit (a : Str) : Py → OV
  | .str b => if (b.length == 0) = false ∧ a.length + 2 ≤ sizeLine then .fr (.lst ((Txt.split a b).map Py.str)) else .st
  | _ => .st
abbrev rSplit : V → List V → Hp → VK → Prop := fun x xs H Q => ∃ a b, x = .str a ∧ xs = [.str b] ∧ (b.length == 0) = false ∧ a.length + 2 ≤ sizeLine ∧ rNewStrs (Txt.split a b) H Q
theorem m1_split : M1ok T rSplit fSplit := fun F H a y e Q fh py q => by
  cases e <;> try exact q.elim
  rename_i b
  have q : Give T F H Q (if (b.length == 0) = false ∧ a.length + 2 ≤ sizeLine then .fr (.lst ((Txt.split a b).map Py.str)) else .st) := q
  by_cases h : (b.length == 0) = false ∧ a.length + 2 ≤ sizeLine
  · rw [if_pos h] at q
    exact ⟨a, b, rfl, by rw [py.str], h.1, h.2, Give.lst fh (rep_strs F _) q⟩
  · rw [if_neg h] at q; exact q.elim
def joinO (a : Str) : Option (List Str) → OV
  | some ys => if (ys.map (·.length)).sum + ys.length * a.length ≤ 16777216 then .im (.str (Txt.join a ys)) else .st
  | none => .st
def fJoin (a : Str) : Py → OV
  | .lst l => joinO a (strsOf l)
  | .tup l => joinO a (strsOf l)
  | _ => .st
abbrev rJoin (K : PySem.W.Frag) : V → List V → Hp → VK → Prop := fun x xs H Q => ∃ a p, ∃ ys : List Str, x = .str a ∧ xs = [.ref p] ∧ (SqL K H p (ys.map V.str) ∨ SqT K H p (ys.map V.str)) ∧
  (ys.map (·.length)).sum + ys.length * a.length ≤ 16777216 ∧ Q (.str (Txt.join a ys)) H
theorem m1_join : M1ok T (rJoin T.K) fJoin := fun F H a y e Q fh py q => by
  have fin : ∀ l, Give T F H Q (joinO a (strsOf l)) → ∃ ys, strsOf l = some ys ∧ (ys.map (·.length)).sum + ys.length * a.length ≤ 16777216 ∧ Q (.str (Txt.join a ys)) H := fun l q => by
    cases e : strsOf l with
    | none => rw [e] at q; exact q.elim
    | some ys =>
      rw [e] at q
      have q : Give T F H Q (if (ys.map (·.length)).sum + ys.length * a.length ≤ 16777216 then .im (.str (Txt.join a ys)) else .st) := q
      by_cases h : (ys.map (·.length)).sum + ys.length * a.length ≤ 16777216
      · rw [if_pos h] at q
        exact ⟨ys, rfl, h, Give.str fh q⟩
      · rw [if_neg h] at q; exact q.elim
  cases e <;> try exact q.elim
  · rename_i l
    obtain ⟨ys, hy, hz, q⟩ := fin l q
    obtain ⟨p, xs, rfl, hp, r, _⟩ := py.tup fh
    have e := strs_rep r hy
    subst e
    exact ⟨a, p, ys, rfl, rfl, .inr hp, hz, q⟩
  · rename_i l
    obtain ⟨ys, hy, hz, q⟩ := fin l q
    obtain ⟨p, xs, rfl, hp, r⟩ := py.lst fh
    have e := strs_rep r hy
    subst e
    exact ⟨a, p, ys, rfl, rfl, .inl (SqL.of hp), hz, q⟩
/-! ### all(xs), bools alone -/
def blsOf : List Py → Option (List Bool)
  | [] => some []
  | .bl x :: l => (blsOf l).map (x :: ·)
  | _ => none
theorem bls_rep : ∀ {xs : List V} {l : List Py} {ys : List Bool}, RepL T F xs l → blsOf l = some ys → xs = ys.map V.bl
  | _, _, _, .nil, h => by cases h; rfl
  | _, _, ys, .cons (d := d) (ds := ds) r rr, h => by
    cases d <;> try (cases h; done)
    rename_i x
    have h : (blsOf ds).map (x :: ·) = some ys := h
    cases e : blsOf ds with
    | none => rw [e] at h; cases h
    | some zs =>
      rw [e] at h
      cases h
      cases r
      rw [bls_rep rr e]
      rfl
def pyAll : Py → OV
  | .lst l => blO ((blsOf l).map fun bs => bs.all id)
  | _ => .st
theorem rc_all : RCok T (rAll T.K) (one pyAll) := rc_one fun F H x d Q fh px q => by
  cases d <;> try exact q.elim
  rename_i l
  have q : Give T F H Q (blO ((blsOf l).map fun bs => bs.all id)) := q
  cases e : blsOf l with
  | none => rw [e] at q; exact q.elim
  | some bs =>
    rw [e] at q
    obtain ⟨p, xs, rfl, hp, r⟩ := px.lst fh
    have z := bls_rep r e
    subst z
    exact ⟨p, bs, rfl, SqL.of hp, Give.bl fh q⟩
/-! ### isinstance(x, T) -/
theorem ty_of {x : V} {d : Py} {s : String} (fh : Same F H) (h : Pk T F H x d) (e : tyOfD d = some s) : TyX T.K H x (.type s) := by
  cases d with
  | non => cases e; rw [h.non]; exact .base .non
  | bl b => cases e; rw [h.bl]; exact .base (.bl b)
  | int i => cases e; rw [h.int]; exact .base (.int i)
  | str z => cases e; rw [h.str]; exact .base (.str z)
  | tup l =>
    cases e
    obtain ⟨a, xs, rfl, hp, _, _⟩ := h.tup fh
    rcases hp with (z | ⟨o, z⟩) | ⟨o, _, _, z, c, _⟩
    · exact .base (.tup z)
    · exact .fTuple z
    · exact .kTuple z c
  | lst l =>
    cases e
    obtain ⟨a, xs, rfl, hp, _⟩ := h.lst fh
    exact .base (.lst hp)
  | scr l =>
    cases e
    obtain ⟨a, xs, rfl, hp, _⟩ := h.scr fh
    rcases hp with (z | ⟨o, z⟩) | ⟨o, _, _, z, c, _⟩
    · exact .base (.lst z)
    · exact .base (.frz z)
    · exact .kList z c
  | dic k l =>
    cases e
    rcases h with h | ⟨p, rfl, h⟩
    · cases h with
      | dic z => exact .base (.dK (fh _ _ z))
    · obtain ⟨_, z, _⟩ := h
      exact .base (.dK z)
  | dit k l =>
    cases e
    rcases h with h | ⟨p, rfl, h⟩
    · cases h with
      | dit z => exact .base (.dT (fh _ _ z))
    · obtain ⟨_, z, _⟩ := h
      exact .base (.dT z)
  | obj c k l => cases e
def tyNames : List String := ["NoneType", "bool", "int", "str", "tuple", "list", "dict"]
theorem tyOfD_in {d : Py} {s : String} (e : tyOfD d = some s) : s ∈ tyNames := by
  cases d <;> cases e <;> decide
def isB (t : String) (s : String) : Bool := s == t || (s == "bool" && t == "int")
def pyIsTy (t : String) (d : Py) : OV := blO ((tyOfD d).map (isB t))
theorem se_isTy {t : String} {te : TE} {m : ME} (hk : ∀ s ∈ tyNames, kitB s t = some (isB t s)) (h : SE T W te m) : SE T W (tCB (rIsi T.K) (tCons te (tCons (tC (.ty t)) tNil))) (mUn (pyIsTy t) m) := fun F H σ ρ Q I q => by
  refine se_then h I q fun v x ρ1 F1 H1 e1 f1 I1 s1 q1 => ?_
  cases hx : dat ρ1 x with
  | none => rw [hx] at q1; exact q1.elim
  | some d =>
    rw [hx] at q1
    have q1 : EPost T W F1 H1 σ ρ1 Q ((pyIsTy t d).er ρ1) := q1
    unfold pyIsTy at q1
    cases e : tyOfD d with
    | none => rw [e] at q1; exact q1.elim
    | some s =>
      rw [e] at q1
      refine ⟨v, .ty t, .type s, .type t, isB t s, rfl, .ty t, ty_of I1.fh (s1.pk I1 (dat_settled.trans hx)) e, kit_ty (hk s (tyOfD_in e)), ?_⟩
      exact q1 (.bl (isB t s)) F1 H1 Fr.refl I1 (.bl _)
end
end Mr
/-! Mr: what the printed texts say of errors -/
namespace Mr
open PySem PySem.Spec PyProof.Rows L2
section
variable {X : Cx} {C fI : Addr}
/-- raise x(a) -/
theorem ps_raiseX {x : Str} {a : Expr} {ta : TA} {W : WX} {p pos pos2 : Pos} {k : Nat} (hc : X.calm = true) (T : PySem.ExX.ExTxt X.K X.mg x C fI) (hr : Room k X.A) (tk : Takes X W) (ha : PA X [a] ta) (hg : Gl X x := by rfl)
    (he : starEach (a :: []) X.env = (false, eval a X.env) :: starEach [] X.env := by rfl) (hpl : (backTo pos (starEach [] X.env)).any (·.1) = false := by rfl) (hdb : (x == ("__debug__" : Str)) = false := by decide) :
    PS X (.Raise (some (.Call (.Name x p) [a] [] pos)) none pos2) (tRaiseX C W ta) := ps_raise hc tk (pmk_ex T hr ha hg he hpl hdb)
/-- a statement that is never come to -/
theorem ps_dead {st : Stmt} : PS X st (fun _ _ _ => False) := ⟨fun _ _ _ _ _ _ h => h.elim⟩
end
def mDead : MS := fun _ => .st
theorem ss_dead {T : Tb} {W : Wx} : SS T W (fun _ _ _ => False) mDead := fun _ _ _ _ _ _ q => q
/-- isinstance(e, (c1, c2, ..)), the tuple just laid -/
def rIsXT (K : PySem.W.Frag) (Cs : List Addr) (a : Addr) (cls : Value) (d : Option Addr) : List V → Hp → VK → Prop := fun xs H Q => ∃ (C dd tp : Addr) (cs : List V) (us : List Value) (b : Bool) (fs : List (Str × V)), C ∈ Cs ∧ cls = .ref C ∧ d = some dd ∧ H dd = some (.xd fs) ∧ xs = [.ref a, .ref tp] ∧ H tp = some (.tup cs) ∧ Paired ClsV cs us ∧ PySem.W.kitAny K (.ref C) us = some b ∧ Q (.bl b) H
theorem call_isXT {X : Cx} {a : Addr} {oe : Obj} {cls : Value} {d : Option Addr} {pn : List (Addr × Obj)} {Cs : List Addr} (T : ∀ C ∈ Cs, ExIs X.K C) (hz : Zc cls d oe) (hf : ∃ vs, oe.data = .fields vs) : CallR (X.suite a ((a, oe) :: pn)) (.builtin "isinstance") (rIsXT X.K Cs a cls d) := by
  intro pins s σ H xs us Q I r h
  obtain ⟨C, dd, tp, cs, ws, b, fs, hC, rfl, rfl, hd, rfl, hT, k, e, q⟩ := h
  obtain ⟨u1, u2, rfl, r1, r2⟩ := vals2 r
  cases (show u2 = Value.ref tp from r2)
  cases (show u1 = Value.ref a from r1)
  obtain ⟨hget, _⟩ := I.pin (a, oe) (List.mem_append.mpr (.inl List.mem_cons_self))
  obtain ⟨vs, hv⟩ := hf
  obtain ⟨mA, hns, hr⟩ := (show ObjOk X.prog X.w H s.heap dd (.xd fs) from I.hok dd _ hd)
  obtain ⟨od, ho, _⟩ := lookIn_ns hns
  have J : PySem.W.InstAt s.heap a oe C (some od) := ⟨hget, hz.1, by unfold PySem.W.notCls; rw [hv] <;> rfl, by rw [hz.2]; exact ho⟩
  have t := T C hC
  obtain ⟨_, its, rv, o, h1, h2, n, h3⟩ := (show ObjOk X.prog X.w H s.heap tp (.tup cs) from I.hok tp _ hT)
  have e3 := ClsV.all k rv
  subst e3
  obtain ⟨oc, od2, dt, sl⟩ := o
  simp only at h2 h3
  subst h2 h3
  exact PySem.W.kia_tup (PySem.W.kitx_exc t.c t.g t.k t.s t.a t.n t.t t.m) I.kIn J h1 e (fun z => nomatch z) fun tk => ⟨.bl b, H, I.kept (t' := tk) fun _ _ z => z, rfl, q⟩
section
variable {T : Tb} {W : Wx} {L : Hp} {s : L2.St} {i : Nat} {a d C : Addr} {v : V} {Cs : List Addr}
theorem se_isX {D : Addr} {b : Bool} (hC : C ∈ Cs) (hd : L d = some (.xd [("what", v)])) (hs : s[i]? = some (some (.ref a))) (hk : PySem.W.kitOne T.K (.ref C) (.ref D) = some b) :
    SE (suT T L s) W (tCB (rIsX T.K Cs a (.ref C) (some d)) (tCons (tVar i) (tCons (tC (.ref D)) tNil))) (mC (.bl b)) := fun F H σ ρ Q I q => by
  have es := I.sg s rfl
  subst es
  refine ⟨.ref a, hs, C, d, .ref D, .ref D, b, _, hC, rfl, rfl, I.fh _ _ (I.lo _ _ hd), rfl, .own D, hk, ?_⟩
  exact q (.bl b) F H Fr.refl I (.bl b)
theorem se_isXT {Ds : List Addr} {b : Bool} {tt : TA} (hC : C ∈ Cs) (hd : L d = some (.xd [("what", v)])) (hs : s[i]? = some (some (.ref a))) (hk : PySem.W.kitAny T.K (.ref C) (Ds.map Value.ref) = some b) (hl : Ds.length ≤ sizeLine) (ht : ∀ σ H Q, Q (Ds.map V.ref) H → tt σ H Q) :
    SE (suT T L s) W (tCB (rIsXT T.K Cs a (.ref C) (some d)) (tCons (tVar i) (tCons (tTup tt) tNil))) (mC (.bl b)) := fun F H σ ρ Q I q => by
  have es := I.sg s rfl
  subst es
  refine ⟨.ref a, hs, ht _ _ _ ⟨by rw [List.length_map]; exact hl, fun p hp => ?_⟩⟩
  have hdd := I.fh _ _ (I.lo _ _ hd)
  have pr : ∀ l : List Addr, Paired ClsV (l.map V.ref) (l.map Value.ref) := fun l => by
    induction l with
    | nil => exact .nil
    | cons x l ih => exact .cons (.own x) ih
  obtain ⟨g, sm⟩ := gr_new (o := .tup (Ds.map V.ref)) I.fh hp
  refine ⟨C, d, p, Ds.map V.ref, Ds.map Value.ref, b, _, hC, rfl, rfl, g.keep _ _ hdd, rfl, upd_same, pr Ds, hk, ?_⟩
  exact q (.bl b) F _ g.fr (I.gr g sm) (.bl b)
end
/-- a class by its number -/
theorem getD_in {l : List Addr} {c : Nat} (h : c < l.length) : l.getD c 0 ∈ l := by
  rw [List.getD_eq_getElem?_getD, List.getElem?_eq_getElem h]
  exact List.getElem_mem h
/-- a def without defaults, called by keywords -/
theorem kbn0 {K : PySem.W.Frag} {x qual : Str} {st : Stmt} {f : Addr} {fd : FuncData} {ps : List Str} (F : Fun K x qual st f fd) (n : Nat) (ks : List Str) (ix : List Nat)
    (h : ∀ (kV doc pm : Value) (an : Option Addr) (cdv ct : Value) (us ws : List Value), us.length = n → ws.length = ks.length →
      bindArgs (PySem.W.fnOf x qual (defArgs st) (defBody st) (defScope st) .none kV doc pm an cdv ct) ⟨us, ks.zip ws⟩ = pure (ps.zip (pick ix (us ++ ws ++ [])))) :
    KBn K fd ps n ks (fun us ws => pick ix (us ++ ws ++ [])) (fun vs zs => pick ix (vs ++ zs ++ [])) := by
  obtain ⟨oc, od, kV, doc, pm, an, cdv, ct, osl, rfl, lk, hcd⟩ := F.ex
  exact ⟨fun s us ws _ l1 l2 => .of_eq (h kV doc pm an cdv ct us ws l1 l2), fun r1 r2 => pick_vals ((r1.append r2).append .nil) ix⟩
/-- f(k = v, ..), no value by its place -/
theorem pe_callN0 {X : Cx} {CX : CXT} {k : Nat} {f : Addr} {fd : FuncData} {ps ks : List Str} {sp : Sp} {E : XK} {x : Str} {p pos : Pos} {kws : List Keyword} {tk : TA} {g : List Value → List Value → List Value} {gV : List V → List V → List V}
    (F : FnOk X.prog X.w X.K X.mg X.base CX k f fd ps sp) (hr : Room k X.A) (hg : Gl X x) (hm : X.mg x = some (.ref f)) (hk : PySem.W.keepIn X.K (.ref f) = true) (hb : KBn X.K fd ps 0 ks g gV) (hx : Passes CX X E)
    (hkw : PK X kws tk) (hall : (backToKw pos (keywordEach kws X.env)).all (·.1.isSome) = true := by rfl) (hks : (backToKw pos (keywordEach kws X.env)).filterMap (·.1) = ks := by rfl)
    (hdb : (x == ("__debug__" : Str)) = false := by decide) (hpl : ((backTo pos (starEach [] X.env)).any (·.1) || (backToKw pos (keywordEach kws X.env)).any (·.1.isNone)) = false := by rfl) :
    PE X (.Call (.Name x p) [] kws pos) (tCallN 0 ks.length sp gV E tNil tk) := ⟨fun pins s σ H Q I h => by
  refine wpAny_Call_Name_kw (ld_glob I hg hm ?_ hdb)
  refine PySem.W.callWith_KW0 (h₀ := X.base) I.ok.mod.kin hk hall ?_ hpl
  refine thn (hkw.run pos pins s σ H _ I h) fun ws s2 hh => ?_
  obtain ⟨zs, H2, I2, rz, l1, l2, q2⟩ := hh
  refine ⟨I2.kIn, ?_⟩
  rw [hks]
  exact run_fnN (us := []) (vs := []) F hr hb hx I2 .nil rz rfl l2 q2⟩
/-! ### rules whose reading names K by itself -/
section
variable {X : Cx} {K : PySem.W.Frag}
theorem ixA (h : X.K = K) : IxR X (rIx K) := h ▸ ix_seq
theorem slA (h : X.K = K) : SlR X (rSlAll K) := h ▸ sl_all
theorem addA (h : X.K = K) : OpR X (binaryOp .Add) (rAddA K) := h ▸ op_addA
theorem eqA (h : X.K = K) (hu : X.A.units + 64 < cLine) : OpR X (compareOp .Eq) (rEqD K) := h ▸ op_eqD hu
theorem neA (h : X.K = K) (hu : X.A.units + 64 < cLine) : OpR X (compareOp .NotEq) (rNeD K) := h ▸ op_neD hu
theorem lenA (h : X.K = K) : CallR X (.builtin "len") (fun xs H Q => ∃ x n, xs = [x] ∧ LenV K x H n ∧ Q (.int n) H) := h ▸ call_len
theorem isiA (h : X.K = K) : CallR X (.builtin "isinstance") (rIsi K) := h ▸ call_isi
theorem allA (h : X.K = K) (hc : X.calm = true) : CallR X (.builtin "all") (rAll K) := h ▸ cr_all hc
theorem tupA (h : X.K = K) : CallR X (.type "tuple") (fun xs H Q => ∃ p ys, xs = [.ref p] ∧ ((SqL K H p ys ∧ ∀ l, H l = none → Q (.ref l) (upd H l (.tup ys))) ∨ (SqT K H p ys ∧ Q (.ref p) H))) := h ▸ call_tuple_of
theorem lstA (h : X.K = K) : CallR X (.type "list") (fun xs H Q => ∃ p ys, xs = [.ref p] ∧ (SqL K H p ys ∨ SqT K H p ys) ∧ ∀ l, H l = none → Q (.ref l) (upd H l (.lst ys))) := h ▸ call_list_of
theorem truA {a : Expr} {ta : TE} (h : X.K = K) (ha : PE X a ta) (he : ∀ whole, isTrue a X.env whole = (do let v ← whole; standAt a.pos; holding [v] (truthy v))) :
    PT X a (fun σ H Q => ta σ H fun x H' => ∃ k, TruV K x H' k ∧ Q k H') := h ▸ pt_truth ha he
end
end Mr
/-! Mr: rows for texts, chains, errors -/
namespace Mr
open PySem L2
section
variable {ρ ρ1 ρ2 : Rho} {ma mb mc mt me : ME} {mm : MA} {a b : MS} {i j : Nat} {r s : Rv} {d e : Py} {K : ER → Prop} {KA : AR → Prop} {KS : SR → Prop} {rs : List Rv} {c n : Nat} {w : Py} {cs : List Nat} {x y z : Str}
/-! ### methods of texts -/
def kM1 (f : Str → Py → OV) (mb : ME) (K : ER → Prop) : ER → Prop := fun e => K (e.bind fun x ρ1 => match x with
  | .im (.str a) => (mb ρ1).bind fun y ρ2 => (match dat ρ2 y with
    | some e => (f a e).er ρ2
    | none => .st)
  | _ => .st)
def kM2 (f : Str → Py → OV) (a : Str) (K : ER → Prop) : ER → Prop := fun e => K (e.bind fun y ρ2 => op1 (f a) ρ2 (dat ρ2 y))
theorem wm_m1 {f : Str → Py → OV} : WE (mM1 f ma mb ρ) K = WE (ma ρ) (kM1 f mb K) := rfl
theorem wm_m11 {f : Str → Py → OV} : WE (.ok (.im (.str x)) ρ) (kM1 f mb K) = WE (mb ρ) (kM2 f x K) := by
  show K ((mb ρ).bind fun y ρ2 => (match dat ρ2 y with | some e => (f x e).er ρ2 | none => .st)) = K ((mb ρ).bind fun y ρ2 => op1 (f x) ρ2 (dat ρ2 y))
  congr
theorem wm_m12 {f : Str → Py → OV} : WE (.ok s ρ) (kM2 f x K) = WE (op1 (f x) ρ (dat ρ s)) K := rfl
/-! ### a < b < c -/
def ch3 (mc : ME) (g : Py → Py → OV) (y : Rv) (ρ2 : Rho) : Option Bool → ER
  | some true => (mc ρ2).bind fun z ρ3 => op2 g ρ3 (dat ρ3 y) (dat ρ3 z)
  | some false => .ok (.im (.bl false)) ρ2
  | none => .st
def ch2 (f g : Py → Py → OV) (mc : ME) (y : Rv) (ρ2 : Rho) : Option Py → Option Py → ER
  | some d, some e => ch3 mc g y ρ2 (f d e).bool
  | _, _ => .st
def kCh1 (f g : Py → Py → OV) (mb mc : ME) (K : ER → Prop) : ER → Prop := fun e => K (e.bind fun x ρ1 => (mb ρ1).bind fun y ρ2 => ch2 f g mc y ρ2 (dat ρ2 x) (dat ρ2 y))
def kCh2 (f g : Py → Py → OV) (mc : ME) (x : Rv) (K : ER → Prop) : ER → Prop := fun e => K (e.bind fun y ρ2 => ch2 f g mc y ρ2 (dat ρ2 x) (dat ρ2 y))
def kCh3 (g : Py → Py → OV) (y : Rv) (K : ER → Prop) : ER → Prop := fun e => K (e.bind fun z ρ3 => op2 g ρ3 (dat ρ3 y) (dat ρ3 z))
theorem wm_ch {f g : Py → Py → OV} : WE (mChain f g ma mb mc ρ) K = WE (ma ρ) (kCh1 f g mb mc K) := by
  show K (mChain f g ma mb mc ρ) = K ((ma ρ).bind fun x ρ1 => (mb ρ1).bind fun y ρ2 => ch2 f g mc y ρ2 (dat ρ2 x) (dat ρ2 y))
  congr 1
theorem wm_ch1 {f g : Py → Py → OV} : WE (.ok r ρ) (kCh1 f g mb mc K) = WE (mb ρ) (kCh2 f g mc r K) := rfl
theorem wm_ch2 {f g : Py → Py → OV} : WE (.ok s ρ) (kCh2 f g mc r K) = WE (ch2 f g mc s ρ (dat ρ r) (dat ρ s)) K := rfl
theorem ch2_some {f g : Py → Py → OV} : ch2 f g mc s ρ (some d) (some e) = ch3 mc g s ρ (f d e).bool := rfl
theorem wm_ch3t {g : Py → Py → OV} : WE (ch3 mc g s ρ (some true)) K = WE (mc ρ) (kCh3 g s K) := rfl
theorem wm_ch3f {g : Py → Py → OV} : WE (ch3 mc g s ρ (some false)) K = WE (.ok (.im (.bl false)) ρ) K := rfl
theorem wm_ch4 {g : Py → Py → OV} : WE (.ok r ρ) (kCh3 g s K) = WE (op2 g ρ (dat ρ s) (dat ρ r)) K := rfl
theorem ovb {t : Bool} : OV.bool (.im (.bl t)) = some t := rfl
/-! ### raise, try -/
def rs2 (c : Nat) (ρ : Rho) : Option Py → SR
  | some w => .ex c w ρ
  | none => .st
def kRaise (c : Nat) (K : SR → Prop) : ER → Prop := fun e => K (e.then fun r ρ1 => rs2 c (frzR ρ1 r) (dat ρ1 r))
theorem wm_raise : WS (mRaise c me ρ) KS = WE (me ρ) (kRaise c KS) := by
  show KS (mRaise c me ρ) = KS ((me ρ).then fun r ρ1 => rs2 c (frzR ρ1 r) (dat ρ1 r))
  congr 1
theorem wm_raise1 : WE (.ok r ρ) (kRaise c KS) = WS (rs2 c (frzR ρ r) (dat ρ r)) KS := rfl
theorem rs2_some : rs2 c ρ (some w) = .ex c w ρ := rfl
/-- what the clause makes of an error -/
def try3 (su : Nat → Py → ME) (c : Nat) (w : Py) : Option Rho → SR
  | some ρ2 => (match su c w ρ2 with
    | .ok r ρ3 => .rt r ρ3
    | _ => .st)
  | none => .st
def tryA (n : Nat) (cs : List Nat) (i : Nat) (su : Nat → Py → ME) : SR → SR
  | .ex c w ρ1 => if c < n then (if cs.contains c = true then try3 su c w (setSl ρ1 i .no) else .ex c w ρ1) else .st
  | x => x
def kTry (n : Nat) (cs : List Nat) (i : Nat) (su : Nat → Py → ME) (K : SR → Prop) : SR → Prop := fun s => K (tryA n cs i su s)
def kSuit (K : SR → Prop) : ER → Prop := fun e => K (match e with
  | .ok r ρ3 => .rt r ρ3
  | _ => .st)
theorem wm_try {su : Nat → Py → ME} : WS (mTryR n cs i a su ρ) KS = WS (a ρ) (kTry n cs i su KS) := by
  show KS (mTryR n cs i a su ρ) = KS (tryA n cs i su (a ρ))
  congr 1
theorem wm_tryN {su : Nat → Py → ME} : WS (.nx ρ) (kTry n cs i su KS) = WS (.nx ρ) KS := rfl
theorem wm_tryR {su : Nat → Py → ME} : WS (.rt r ρ) (kTry n cs i su KS) = WS (.rt r ρ) KS := rfl
theorem wm_tryX {su : Nat → Py → ME} (h1 : c < n) (h2 : cs.contains c = true) (h3 : setSl ρ i .no = some ρ2) : WS (.ex c w ρ) (kTry n cs i su KS) = WE (su c w ρ2) (kSuit KS) := by
  show KS (if c < n then (if cs.contains c = true then try3 su c w (setSl ρ i .no) else .ex c w ρ) else .st) = _
  rw [if_pos h1, if_pos h2, h3]
  rfl
theorem wm_suit : WE (.ok r ρ) (kSuit KS) = WS (.rt r ρ) KS := rfl
/-! ### an error passes -/
theorem wx_drop : WE (.ex c w ρ) (kDrop KS) = WS (.ex c w ρ) KS := rfl
theorem wx_set : WE (.ex c w ρ) (kSet i KS) = WS (.ex c w ρ) KS := rfl
theorem wx_ret : WE (.ex c w ρ) (kRet KS) = WS (.ex c w ρ) KS := rfl
theorem wr_ex {as : List Sl} {KR : DR → Prop} : WS (.ex c w ρ) (kRun as KR) = KR (.ex c w (outsOf as ρ)) := rfl
end
end Mr
namespace Lw
open PySem PySem.Spec PyProof.Rows L2 Mr
def top (i : Nat) : Stmt := PySem.Challenge.pw_bornroots_k18_paths_read.main.body.getD i (.Pass ⟨0, 0, 0, 0⟩)
def is_Refused (c : Nat) : Bool := [true].getD c false
def is_BadName_NoName (c : Nat) : Bool := [false].getD c false
abbrev s_is_name : Stmt := top 8
theorem sc_is_name : FnScope ["text", "sign"] ["text"] (defScope s_is_name) := ⟨rfl, rfl, rfl, by decide +kernel, rfl, by decide +kernel, by decide +kernel⟩
def m_is_name : DM := ⟨2, [false],
(mSeq (mIfS (mOrT (mNotT (mTru (mUn (pyIsTy "str") (mVar 0)))) (mNotT (mB (mChain pyLe pyLe (mC (.int 1)) (mCB (one pyLen) (aCons (mVar 0) aNil)) (mC (.int 4))))))
(mRet (mC (.bl false)))
mNext)
(mRet (mCB (one pyAll) (aCons (mLc [1] (iAny (mVar 0)) (gN 1) (mC (.bl true)) (mOp pyInS (mVar 1) (mC (.str "abcdefghijklmnopqrstuvwxyz")))) aNil))))⟩
abbrev s_names_of : Stmt := top 11
theorem sc_names_of : FnScope ["path", "parts", "name"] ["path"] (defScope s_names_of) := ⟨rfl, rfl, rfl, by decide +kernel, rfl, by decide +kernel, by decide +kernel⟩
def m_names_of : DM := ⟨3, [false],
(mSeq (mIfS (mNotT (mTru (mUn (pyIsTy "str") (mVar 0))))
(mRaise 0 (mVar 0))
mNext)
(mSeq (mIfS (mB (mOp pyEq (mVar 0) (mC (.str "/"))))
(mRet (mLst aNil))
mNext)
(mSeq (mSet 1 (mM1 fSplit (mVar 0) (mC (.str "/"))))
(mSeq (mIfS (mOrT (mB (mOp pyNe (mOp pyIx (mVar 1) (mC (.int 0))) (mC (.str "")))) (mNotT (mB (mChain pyLe pyLe (mC (.int 2)) (mCB (one pyLen) (aCons (mVar 1) aNil)) (mOp pyAdd (mC (.int 6)) (mC (.int 1)))))))
(mRaise 0 (mVar 0))
mNext)
(mSeq (mFor (iAny (mSl (mVar 1) (mInt (mC (.int 1))) (mC .non))) (gN 2)
(mIfS (mNotT (mTru (mCall m_is_name (aCons (mVar 2) aNil))))
(mRaise 0 (mVar 0))
mNext))
(mRet (mSl (mVar 1) (mInt (mC (.int 1))) (mC .non))))))))⟩
abbrev s__law_pool : Stmt := top 13
theorem sc__law_pool : FnScope ["_law_script", "_law_k", "_law_cell", "_law_big", "_law_mixed"] ["_law_script", "_law_k"] (defScope s__law_pool) := ⟨rfl, rfl, rfl, by decide +kernel, rfl, by decide +kernel, by decide +kernel⟩
def m__law_pool : DM := ⟨5, [false, false],
(mSeq (mSet 2 (mC (.int 0)))
(mSeq (mIfS (mB (mOp pyLt (mVar 1) (mCB (one pyLen) (aCons (mVar 0) aNil))))
(mSet 2 (mOp pyIx (mVar 0) (mVar 1)))
mNext)
(mSeq (mSet 3 (mCB (two (pyI2 max2)) (aCons (mCB (one pyToInt) (aCons (mVar 2) aNil)) (aCons (mCB (one pyToInt) (aCons (mOp pySub (mUn pyNeg (mC (.int 1))) (mVar 2)) aNil)) aNil))))
(mSeq (mSet 4 (mOp pyMod (mCB (one pyToInt) (aCons (mOp pyMul (mOp pyAdd (mOp pyAdd (mOp pyAdd (mOp pyMod (mCB (one pyToInt) (aCons (mVar 3) aNil)) (mC (.int 2147483629))) (mOp pyMul (mOp pyMul (mC (.int 7919)) (mVar 1)) (mVar 1))) (mOp pyMul (mC (.int 31)) (mVar 1))) (mC (.int 17))) (mC (.int 48271))) aNil)) (mC (.int 2147483647))))
(mRet (mLst (aCons (mOp pyMul (mVar 3) (mCB (one pyToInt) (aCons (mOp pyGe (mVar 3) (mOp pyPow (mC (.int 10)) (mC (.int 18)))) aNil))) (aCons (mVar 4) aNil))))))))⟩
abbrev s__law_take : Stmt := top 14
theorem sc__law_take : FnScope ["_law_source", "_law_top", "_law_drawn"] ["_law_source", "_law_top"] (defScope s__law_take) := ⟨rfl, rfl, rfl, by decide +kernel, rfl, by decide +kernel, by decide +kernel⟩
def m__law_take : DM := ⟨3, [true, false],
(mSeq (mIfS (mB (mOp pyGt (mOp pyIx (mVar 0) (mC (.int 0))) (mC (.int 0))))
(mSeq (mSet 2 (mOp pyMod (mCB (one pyToInt) (aCons (mOp pyIx (mVar 0) (mC (.int 0))) aNil)) (mVar 1)))
(mSeq (mPutL 0 (mC (.int 0)) (mOp pyDiv (mOp pyIx (mVar 0) (mC (.int 0))) (mVar 1)))
(mRet (mVar 2))))
mNext)
(mSeq (mPutL 0 (mC (.int 1)) (mOp pyMod (mCB (one pyToInt) (aCons (mOp pyAdd (mOp pyMul (mOp pyIx (mVar 0) (mC (.int 1))) (mC (.int 39373))) (mC (.int 7))) aNil)) (mC (.int 2147483647))))
(mRet (mOp pyMod (mCB (one pyToInt) (aCons (mOp pyDiv (mOp pyMod (mCB (one pyToInt) (aCons (mOp pyMul (mOp pyIx (mVar 0) (mC (.int 1))) (mOp pyIx (mVar 0) (mC (.int 1)))) aNil)) (mC (.int 2147483629))) (mC (.int 32))) aNil)) (mVar 1)))))⟩
abbrev s__law_one : Stmt := top 15
theorem sc__law_one : FnScope ["_law_source", "_law_things"] ["_law_source", "_law_things"] (defScope s__law_one) := ⟨rfl, rfl, rfl, by decide +kernel, rfl, by decide +kernel, by decide +kernel⟩
def m__law_one : DM := ⟨2, [true, false],
(mRet (mOp pyIx (mVar 1) (mCall m__law_take (aCons (mVar 0) (aCons (mCB (one pyLen) (aCons (mVar 1) aNil)) aNil)))))⟩
abbrev s__law_is_name : Stmt := top 16
theorem sc__law_is_name : FnScope ["_law_word", "_law_sign"] ["_law_word"] (defScope s__law_is_name) := ⟨rfl, rfl, rfl, by decide +kernel, rfl, by decide +kernel, by decide +kernel⟩
def m__law_is_name : DM := ⟨2, [false],
(mSeq (mIfS (mNotT (mB (mChain pyLe pyLe (mC (.int 1)) (mCB (one pyLen) (aCons (mVar 0) aNil)) (mC (.int 4)))))
(mRet (mC (.bl false)))
mNext)
(mRet (mOp pyEq (mLc [1] (iAny (mVar 0)) (gN 1) (mB (mOp pyNotInS (mVar 1) (mC (.str "abcdefghijklmnopqrstuvwxyz")))) (mVar 1)) (mLst aNil))))⟩
abbrev s__law_due : Stmt := top 17
theorem sc__law_due : FnScope ["_law_text_here", "_law_words", "_law_word"] ["_law_text_here"] (defScope s__law_due) := ⟨rfl, rfl, rfl, by decide +kernel, rfl, by decide +kernel, by decide +kernel⟩
def m__law_due : DM := ⟨3, [false],
(mSeq (mIfS (mB (mOp pyEq (mVar 0) (mC (.str "/"))))
(mRet (mLst aNil))
mNext)
(mSeq (mSet 1 (mM1 fSplit (mVar 0) (mC (.str "/"))))
(mSeq (mIfS (mOrT (mB (mOp pyLt (mCB (one pyLen) (aCons (mVar 1) aNil)) (mC (.int 2)))) (mOrT (mB (mOp pyGt (mCB (one pyLen) (aCons (mVar 1) aNil)) (mC (.int 7)))) (mB (mOp pyNe (mOp pyIx (mVar 1) (mC (.int 0))) (mC (.str ""))))))
(mRet (mC .non))
mNext)
(mRet (mIf (mB (mOp pyEq (mLc [2] (iAny (mSl (mVar 1) (mInt (mC (.int 1))) (mC .non))) (gN 2) (mNotT (mTru (mCall m__law_is_name (aCons (mVar 2) aNil)))) (mVar 2)) (mLst aNil))) (mSl (mVar 1) (mInt (mC (.int 1))) (mC .non)) (mC .non))))))⟩
abbrev s__law_text : Stmt := top 18
theorem sc__law_text : FnScope ["_law_source", "_law_words", "_law_turn", "_law_letters", "_law_good", "_law_bad", "_law_head", "_law_step"] ["_law_source"] (defScope s__law_text) := ⟨rfl, rfl, rfl, by decide +kernel, rfl, by decide +kernel, by decide +kernel⟩
def m__law_text : DM := ⟨8, [true],
(mSeq (mSet 1 (mLst aNil))
(mSeq (mFor (iOf fRange1 (aCons (mCall m__law_take (aCons (mVar 0) (aCons (mC (.int 8)) aNil))) aNil)) (gN 2)
(mSeq (mSet 3 (mC (.str "abcdefghijklmnopqrstuvwxyz")))
(mSeq (mSet 4 (mM1 fJoin (mC (.str "")) (mLc [7] (iOf fRange1 (aCons (mOp pyAdd (mC (.int 1)) (mCall m__law_take (aCons (mVar 0) (aCons (mC (.int 4)) aNil)))) aNil)) (gN 7) (mC (.bl true)) (mOp pyIx (mVar 3) (mCall m__law_take (aCons (mVar 0) (aCons (mC (.int 26)) aNil)))))))
(mSeq (mSet 5 (mCall m__law_one (aCons (mVar 0) (aCons (mLst (aCons (mC (.str "")) (aCons (mC (.str "abcde")) (aCons (mC (.str "A")) (aCons (mC (.str "a1")) (aCons (mC (.str "a b")) (aCons (mC (.str "aB")) (aCons (mC (.str ".")) (aCons (mC (.str "a@b")) (aCons (mC (.str "zzzzz")) (aCons (mC (.str " a")) aNil))))))))))) aNil))))
(mDrop (mMut "list" fAppend 1 (aCons (mIf (mB (mOp pyEq (mCall m__law_take (aCons (mVar 0) (aCons (mC (.int 9)) aNil))) (mC (.int 0)))) (mVar 5) (mVar 4)) aNil)))))))
(mSeq (mSet 6 (mCall m__law_one (aCons (mVar 0) (aCons (mLst (aCons (mC (.str "/")) (aCons (mC (.str "/")) (aCons (mC (.str "/")) (aCons (mC (.str "/")) (aCons (mC (.str "")) (aCons (mC (.str "//")) aNil))))))) aNil))))
(mRet (mOp pyAdd (mOp pyAdd (mVar 6) (mM1 fJoin (mC (.str "/")) (mVar 1))) (mCall m__law_one (aCons (mVar 0) (aCons (mLst (aCons (mC (.str "")) (aCons (mC (.str "")) (aCons (mC (.str "")) (aCons (mC (.str "")) (aCons (mC (.str "")) (aCons (mC (.str "")) (aCons (mC (.str "/")) (aCons (mC (.str " ")) aNil))))))))) aNil))))))))⟩
abbrev s__law_is_refused : Stmt := top 19
theorem sc__law_is_refused : FnScope ["_law_value", "error"] ["_law_value"] (defScope s__law_is_refused) := ⟨rfl, rfl, rfl, by decide +kernel, rfl, by decide +kernel, by decide +kernel⟩
def m__law_is_refused : DM := ⟨2, [false],
(mSeq (mTryR 1 [0] 1
(mDrop (mCall m_names_of (aCons (mVar 0) aNil)))
 (fun c w => (mAnd (mOp pyEq (mC w) (mVar 0)) (mAnd (mC (.bl (is_Refused c))) (mNot (mC (.bl (is_BadName_NoName c))))))))
(mRet (mC (.bl false))))⟩
abbrev s__law_is_right : Stmt := top 20
theorem sc__law_is_right : FnScope ["_law_value", "_law_due_here", "_law_told"] ["_law_value"] (defScope s__law_is_right) := ⟨rfl, rfl, rfl, by decide +kernel, rfl, by decide +kernel, by decide +kernel⟩
def m__law_is_right : DM := ⟨3, [false],
(mSeq (mSet 1 (mCall m__law_due (aCons (mVar 0) aNil)))
(mSeq (mIfS (mB (mOp pyIs (mVar 1) (mC .non)))
(mRet (mCall m__law_is_refused (aCons (mVar 0) aNil)))
mNext)
(mSeq (mSet 2 (mCall m_names_of (aCons (mVar 0) aNil)))
(mSeq (mIfS (mOrT (mB (mOp pyNe (mVar 2) (mVar 1))) (mNotT (mTru (mUn (pyIsTy "list") (mVar 2)))))
(mRet (mC (.bl false)))
mNext)
(mSeq (mDrop (mMut "list" fAppend 2 (aCons (mC (.str "x")) aNil)))
(mRet (mOp pyEq (mCall m_names_of (aKw (arrP [0] []) aNil (aCons (mVar 0) aNil))) (mVar 1))))))))⟩
abbrev s_law : Stmt := top 21
theorem sc_law : FnScope ["_law_script", "_law_k", "_law_source", "_law_value"] ["_law_script"] (defScope s_law) := ⟨rfl, rfl, rfl, by decide +kernel, rfl, by decide +kernel, by decide +kernel⟩
def m_law : DM := ⟨4, [false],
(mSeq (mFor (iOf fRange1 (aCons (mCB (two (pyI2 max2)) (aCons (mC (.int 1)) (aCons (mCB (two (pyI2 min2)) (aCons (mCB (one pyLen) (aCons (mVar 0) aNil)) (aCons (mC (.int 10)) aNil))) aNil))) aNil)) (gN 1)
(mSeq (mSet 2 (mCall m__law_pool (aCons (mVar 0) (aCons (mVar 1) aNil))))
(mIfS (mOrT (mNotT (mTru (mCall m__law_is_right (aCons (mCall m__law_text (aCons (mVar 2) aNil)) aNil)))) (mNotT (mTru (mCall m__law_is_right (aCons (mOp pyAdd (mC (.str "/")) (mM1 fJoin (mC (.str "/")) (mOp pyMul (mLst (aCons (mC (.str "ab")) aNil)) (mOp pyAdd (mC (.int 1)) (mCall m__law_take (aCons (mVar 2) (aCons (mC (.int 8)) aNil))))))) aNil)))))
(mRet (mC (.bl false)))
mNext)))
(mSeq (mFor (iAny (mLst (aCons (mC (.str "/")) (aCons (mC (.str "")) (aCons (mC (.str "//")) (aCons (mC (.str "/a/")) (aCons (mC (.str "a")) (aCons (mC (.str "/a//b")) (aCons (mC (.str "/zzzz")) (aCons (mC (.str "/a/b/c/d/e/f")) (aCons (mC (.str "/a/b/c/d/e/f/g")) aNil))))))))))) (gN 3)
(mIfS (mNotT (mTru (mCall m__law_is_right (aCons (mVar 3) aNil))))
(mRet (mC (.bl false)))
mNext))
(mRet (mAnd (mCall m__law_is_refused (aCons (mC .non) aNil)) (mAnd (mCall m__law_is_refused (aCons (mC (.int 7)) aNil)) (mAnd (mCall m__law_is_refused (aCons (mLst (aCons (mC (.str "a")) aNil)) aNil)) (mCall m__law_is_refused (aCons (mTup (aCons (mC (.str "/")) (aCons (mC (.str "a")) aNil))) aNil))))))))⟩
structure Ad where
  f_is_name : Addr
  d_is_name : FuncData
  f_names_of : Addr
  d_names_of : FuncData
  f__law_pool : Addr
  d__law_pool : FuncData
  f__law_take : Addr
  d__law_take : FuncData
  f__law_one : Addr
  d__law_one : FuncData
  f__law_is_name : Addr
  d__law_is_name : FuncData
  f__law_due : Addr
  d__law_due : FuncData
  f__law_text : Addr
  d__law_text : FuncData
  f__law_is_refused : Addr
  d__law_is_refused : FuncData
  f__law_is_right : Addr
  d__law_is_right : FuncData
  f_law : Addr
  d_law : FuncData
  t_LETTERS : Tok
  t_MOST_LETTERS : Tok
  t_MOST_NAMES : Tok
  c_Refused : Addr
  c_BadName : Addr
  c_BadPath : Addr
  c_NoName : Addr
  fI : Addr
def tb (K : PySem.W.Frag) (A : Ad) : Tb := { K := K, cls := fun c => ([A.c_BadPath] : List Addr).getD c 0 }
instance {K : PySem.W.Frag} {A : Ad} : NoSg (tb K A) := ⟨rfl⟩
theorem cls_in {K : PySem.W.Frag} {A : Ad} {c : Nat} (h : c < 1) : (tb K A).cls c ∈ ([A.c_BadPath] : List Addr) := getD_in h
structure Txt (K : PySem.W.Frag) (mg : Str → Option Value) (A : Ad) : Prop where
  F_is_name : Fun K "is_name" "is_name" s_is_name A.f_is_name A.d_is_name
  B_is_name : Binds K A.d_is_name ["text"] []
  g_is_name : mg "is_name" = some (.ref A.f_is_name)
  F_names_of : Fun K "names_of" "names_of" s_names_of A.f_names_of A.d_names_of
  B_names_of : Binds K A.d_names_of ["path"] []
  g_names_of : mg "names_of" = some (.ref A.f_names_of)
  F__law_pool : Fun K "_law_pool" "_law_pool" s__law_pool A.f__law_pool A.d__law_pool
  B__law_pool : Binds K A.d__law_pool ["_law_script", "_law_k"] []
  g__law_pool : mg "_law_pool" = some (.ref A.f__law_pool)
  F__law_take : Fun K "_law_take" "_law_take" s__law_take A.f__law_take A.d__law_take
  B__law_take : Binds K A.d__law_take ["_law_source", "_law_top"] []
  g__law_take : mg "_law_take" = some (.ref A.f__law_take)
  F__law_one : Fun K "_law_one" "_law_one" s__law_one A.f__law_one A.d__law_one
  B__law_one : Binds K A.d__law_one ["_law_source", "_law_things"] []
  g__law_one : mg "_law_one" = some (.ref A.f__law_one)
  F__law_is_name : Fun K "_law_is_name" "_law_is_name" s__law_is_name A.f__law_is_name A.d__law_is_name
  B__law_is_name : Binds K A.d__law_is_name ["_law_word"] []
  g__law_is_name : mg "_law_is_name" = some (.ref A.f__law_is_name)
  F__law_due : Fun K "_law_due" "_law_due" s__law_due A.f__law_due A.d__law_due
  B__law_due : Binds K A.d__law_due ["_law_text_here"] []
  g__law_due : mg "_law_due" = some (.ref A.f__law_due)
  F__law_text : Fun K "_law_text" "_law_text" s__law_text A.f__law_text A.d__law_text
  B__law_text : Binds K A.d__law_text ["_law_source"] []
  g__law_text : mg "_law_text" = some (.ref A.f__law_text)
  F__law_is_refused : Fun K "_law_is_refused" "_law_is_refused" s__law_is_refused A.f__law_is_refused A.d__law_is_refused
  B__law_is_refused : Binds K A.d__law_is_refused ["_law_value"] []
  g__law_is_refused : mg "_law_is_refused" = some (.ref A.f__law_is_refused)
  F__law_is_right : Fun K "_law_is_right" "_law_is_right" s__law_is_right A.f__law_is_right A.d__law_is_right
  B__law_is_right : Binds K A.d__law_is_right ["_law_value"] []
  g__law_is_right : mg "_law_is_right" = some (.ref A.f__law_is_right)
  F_law : Fun K "law" "law" s_law A.f_law A.d_law
  B_law : Binds K A.d_law ["_law_script"] []
  g_law : mg "law" = some (.ref A.f_law)
  g_LETTERS : mg "LETTERS" = some (.str "abcdefghijklmnopqrstuvwxyz" A.t_LETTERS)
  g_MOST_LETTERS : mg "MOST_LETTERS" = some (.int 4 A.t_MOST_LETTERS)
  g_MOST_NAMES : mg "MOST_NAMES" = some (.int 6 A.t_MOST_NAMES)
  b_all : mg "all" = none
  b_int : mg "int" = none
  b_isinstance : mg "isinstance" = none
  b_len : mg "len" = none
  b_list : mg "list" = none
  b_max : mg "max" = none
  b_min : mg "min" = none
  b_range : mg "range" = none
  b_str : mg "str" = none
  g_Refused : mg "Refused" = some (.ref A.c_Refused)
  g_BadName : mg "BadName" = some (.ref A.c_BadName)
  g_BadPath : mg "BadPath" = some (.ref A.c_BadPath)
  g_NoName : mg "NoName" = some (.ref A.c_NoName)
  x_BadPath : PySem.ExX.ExTxt K mg "BadPath" A.c_BadPath A.fI
  exs : ∀ C ∈ ([A.c_BadPath] : List Addr), ∃ nx fI, PySem.ExX.ExTxt K mg nx C fI
  iss : ∀ C ∈ ([A.c_BadPath] : List Addr), ExIs K C
  m_BadPath : ∀ c, c < 1 → PySem.W.exmOne K (.ref ((tb K A).cls c)) (.ref A.c_BadPath) = some (([0] : List Nat).contains c)
  k_Refused : ∀ c, c < 1 → PySem.W.kitOne K (.ref ((tb K A).cls c)) (.ref A.c_Refused) = some (is_Refused c)
  k_BadName_NoName : ∀ c, c < 1 → PySem.W.kitAny K (.ref ((tb K A).cls c)) (([A.c_BadName, A.c_NoName] : List Addr).map Value.ref) = some (is_BadName_NoName c)
  B_names_of_0_path : KBn K A.d_names_of ["path"] 0 ["path"] (fun us ws => pick [0] (us ++ ws ++ [])) (fun vs zs => pick [0] (vs ++ zs ++ []))
section
variable {P : Program} {w : World} {K : PySem.W.Frag} {mg : Str → Option Value} {base : Heap} {A : Ad}
theorem ok_is_name (T : Txt K mg A) : FnOk P w K mg base (L2.CX P w) 1 A.f_is_name A.d_is_name ["text"] (spM (tb K A) m_is_name) := by
  refine T.F_is_name.okX sc_is_name (fun vs H Q E h => h.1) (fun cdv A0 outer s H vs Q E hr h => ?_)
  refine ⟨_, (pss_cons (ps_if (PW.pt (pw_or (pt_not (truA (K := K) rfl (pe_callB (isiA (K := K) rfl) (by rfl) T.b_isinstance (by decide +kernel) (pa_cons (pv 0) (pa_cons (pe_bltn (v := .ty "str") (by rfl) T.b_str (by decide +kernel) rfl) pa_nil))) (by intro _; rfl))) (pw_or1 (pt_not (pt_chain op_leA op_leA pe_int (pe_callB (lenA (K := K) rfl) (by rfl) T.b_len PySem.boot_len (pa_cons (pv 0) pa_nil)) (pe_glob (v := .int 4) (by rfl) T.g_MOST_LETTERS ⟨_, rfl⟩))))))
(pss_one (ps_ret pe_bl))
pss_nil)
(pss_one (ps_ret (pe_callB (allA (K := K) rfl rfl) (by rfl) T.b_all (by decide +kernel) (pa_cons (pe_lc (own := [("sign", 1)]) (g := (gName 1)) (tt := tYes) rfl sc_is_name.nd (pi_seq (pv 0)) (blkOk_by (N := ["text", "sign"]) (sc := defScope s_is_name) (by decide +kernel)) (fun _ _ _ _ _ => (pg_name (i := 1) sc_is_name.nd rfl (Or.inl rfl))) (fun _ _ _ _ _ => pts_nil) (fun _ _ _ _ _ => (pe_cmpR op_in_sign (pv 1) (pe_glob (v := .str "abcdefghijklmnopqrstuvwxyz") (by rfl) T.g_LETTERS ⟨_, rfl⟩) (by rfl)))) pa_nil))))), ?_⟩
  exact body_ok (m := m_is_name) rfl (by decide) (ss_seq (ss_if (st_or (st_not (st_tru (se_isTy (by decide +kernel) (se_var 0)))) (st_not (st_test (se_chain r2_le r2_le (se_int 1) (se_cb rc_len (sa_cons (se_var 0) sa_nil)) (se_int _)))))
(ss_ret (se_bl false))
ss_next)
(ss_ret (se_cb rc_all (sa_cons (se_lc (si_any (se_var 0)) (sgc_name 1 (by decide)) st_yes (se_op r2_inS (se_var 1) (se_str _))) sa_nil)))) h

theorem ok_names_of (T : Txt K mg A) : FnOk P w K mg base (L2.CX P w) 2 A.f_names_of A.d_names_of ["path"] (spM (tb K A) m_names_of) := by
  refine T.F_names_of.okX sc_names_of (fun vs H Q E h => h.1) (fun cdv A0 outer s H vs Q E hr h => ?_)
  refine ⟨_, (pss_cons (ps_if (pt_not (truA (K := K) rfl (pe_callB (isiA (K := K) rfl) (by rfl) T.b_isinstance (by decide +kernel) (pa_cons (pv 0) (pa_cons (pe_bltn (v := .ty "str") (by rfl) T.b_str (by decide +kernel) rfl) pa_nil))) (by intro _; rfl)))
(pss_one (ps_raiseX rfl T.x_BadPath hr (takes_of rfl rfl rfl rfl) (pa_cons (pv 0) pa_nil)))
pss_nil)
(pss_cons (ps_if (pt_cmpR (eqA (K := K) rfl hr.units) (pv 0) pe_str (nomark _))
(pss_one (ps_ret (pe_lst pa_nil)))
pss_nil)
(pss_cons (ps_set (i := 1) sc_names_of.nd rfl (Or.inl rfl) (pe_split (pv 0) pe_str))
(pss_cons (ps_if (PW.pt (pw_or (pt_cmpR (neA (K := K) rfl hr.units) (pe_ix (ixA (K := K) rfl) (pv 1) pe_int (fun _ _ => rfl)) pe_str (nomark _)) (pw_or1 (pt_not (pt_chain op_leA op_leA pe_int (pe_callB (lenA (K := K) rfl) (by rfl) T.b_len PySem.boot_len (pa_cons (pv 1) pa_nil)) (pe_op (addA (K := K) rfl) (pe_glob (v := .int 6) (by rfl) T.g_MOST_NAMES ⟨_, rfl⟩) pe_int))))))
(pss_one (ps_raiseX rfl T.x_BadPath hr (takes_of rfl rfl rfl rfl) (pa_cons (pv 0) pa_nil)))
pss_nil)
(pss_cons (ps_for (passes_of rfl) rfl (pi_seq (pe_slice (slA (K := K) rfl) (pv 1) (po_some pe_int) po_none)) (pg_name (i := 2) sc_names_of.nd rfl (Or.inl rfl))
(pss_one (ps_if (pt_not (truA (K := K) rfl (pe_callSD (ok_is_name T) (hr.mono (by decide)) (by rfl) T.g_is_name T.F_is_name.kp T.B_is_name .nil (fun σ => passAt (takes_of rfl rfl rfl rfl) σ) (pa_cons (pv 2) pa_nil)) (by intro _; rfl)))
(pss_one (ps_raiseX rfl T.x_BadPath hr (takes_of rfl rfl rfl rfl) (pa_cons (pv 0) pa_nil)))
pss_nil)))
(pss_one (ps_ret (pe_slice (slA (K := K) rfl) (pv 1) (po_some pe_int) po_none)))))))), ?_⟩
  exact body_ok (m := m_names_of) rfl (by decide) (ss_seq (ss_if (st_not (st_tru (se_isTy (by decide +kernel) (se_var 0))))
(ss_raise 0 rfl (se_var 0))
ss_next)
(ss_seq (ss_if (st_test (se_op r2_eq (se_var 0) (se_str "/")))
(ss_ret (se_lst sa_nil))
ss_next)
(ss_seq (ss_set 1 (se_m1 m1_split (se_var 0) (se_str "/")))
(ss_seq (ss_if (st_or (st_test (se_op r2_ne (se_op r2_ix (se_var 1) (se_int 0)) (se_str ""))) (st_not (st_test (se_chain r2_le r2_le (se_int 2) (se_cb rc_len (sa_cons (se_var 1) sa_nil)) (se_op r2_add (se_int _) (se_int 1))))))
(ss_raise 0 rfl (se_var 0))
ss_next)
(ss_seq (ss_for (si_any (se_sl (se_var 1) (so_some (se_int 1)) so_none)) (sg_name 2)
(ss_if (st_not (st_tru (se_callS0 (fun _ _ _ _ h => h) (sa_cons (se_var 2) sa_nil))))
(ss_raise 0 rfl (se_var 0))
ss_next))
(ss_ret (se_sl (se_var 1) (so_some (se_int 1)) so_none))))))) h

theorem ok__law_pool (T : Txt K mg A) : FnOk P w K mg base (L2.CX P w) 1 A.f__law_pool A.d__law_pool ["_law_script", "_law_k"] (spM (tb K A) m__law_pool) := by
  refine T.F__law_pool.okX sc__law_pool (fun vs H Q E h => h.1) (fun cdv A0 outer s H vs Q E hr h => ?_)
  refine ⟨_, (pss_cons (ps_set (i := 2) sc__law_pool.nd rfl (Or.inl rfl) pe_int)
(pss_cons (ps_if (pt_cmpR op_ltA (pv 1) (pe_callB (lenA (K := K) rfl) (by rfl) T.b_len PySem.boot_len (pa_cons (pv 0) pa_nil)) (nomark _))
(pss_one (ps_set (i := 2) sc__law_pool.nd rfl (Or.inl rfl) (pe_ix (ixA (K := K) rfl) (pv 0) (pv 1) (fun _ _ => rfl))))
pss_nil)
(pss_cons (ps_set (i := 3) sc__law_pool.nd rfl (Or.inl rfl) (pe_callB (call_max2 rfl) (by rfl) T.b_max (by decide +kernel) (pa_cons (pe_callTy call_int1 (by rfl) T.b_int (by decide +kernel) (pa_cons (pv 2) pa_nil)) (pa_cons (pe_callTy call_int1 (by rfl) T.b_int (by decide +kernel) (pa_cons (pe_op op_sub (pe_un un_neg pe_int) (pv 2)) pa_nil)) pa_nil))))
(pss_cons (ps_set (i := 4) sc__law_pool.nd rfl (Or.inl rfl) (pe_op op_mod (pe_callTy call_int1 (by rfl) T.b_int (by decide +kernel) (pa_cons (pe_op op_mulA (pe_op (addA (K := K) rfl) (pe_op (addA (K := K) rfl) (pe_op (addA (K := K) rfl) (pe_op op_mod (pe_callTy call_int1 (by rfl) T.b_int (by decide +kernel) (pa_cons (pv 3) pa_nil)) pe_int) (pe_op op_mulA (pe_op op_mulA pe_int (pv 1)) (pv 1))) (pe_op op_mulA pe_int (pv 1))) pe_int) pe_int) pa_nil)) pe_int))
(pss_one (ps_ret (pe_lst (pa_cons (pe_op op_mulA (pv 3) (pe_callTy call_int1 (by rfl) T.b_int (by decide +kernel) (pa_cons (pe_cmpR op_geA (pv 3) (pe_op op_pow pe_int pe_int) (nomark _)) pa_nil))) (pa_cons (pv 4) pa_nil))))))))), ?_⟩
  exact body_ok (m := m__law_pool) rfl (by decide) (ss_seq (ss_set 2 (se_int 0))
(ss_seq (ss_if (st_test (se_op r2_lt (se_var 1) (se_cb rc_len (sa_cons (se_var 0) sa_nil))))
(ss_set 2 (se_op r2_ix (se_var 0) (se_var 1)))
ss_next)
(ss_seq (ss_set 3 (se_cb rc_max (sa_cons (se_cb rc_int (sa_cons (se_var 2) sa_nil)) (sa_cons (se_cb rc_int (sa_cons (se_op r2_sub (se_un r1_neg (se_int 1)) (se_var 2)) sa_nil)) sa_nil))))
(ss_seq (ss_set 4 (se_op r2_mod (se_cb rc_int (sa_cons (se_op r2_mul (se_op r2_add (se_op r2_add (se_op r2_add (se_op r2_mod (se_cb rc_int (sa_cons (se_var 3) sa_nil)) (se_int 2147483629)) (se_op r2_mul (se_op r2_mul (se_int 7919) (se_var 1)) (se_var 1))) (se_op r2_mul (se_int 31) (se_var 1))) (se_int 17)) (se_int 48271)) sa_nil)) (se_int 2147483647)))
(ss_ret (se_lst (sa_cons (se_op r2_mul (se_var 3) (se_cb rc_int (sa_cons (se_op r2_ge (se_var 3) (se_op r2_pow (se_int 10) (se_int 18))) sa_nil))) (sa_cons (se_var 4) sa_nil)))))))) h

theorem ok__law_take (T : Txt K mg A) : FnOk P w K mg base (L2.CX P w) 1 A.f__law_take A.d__law_take ["_law_source", "_law_top"] (spM (tb K A) m__law_take) := by
  refine T.F__law_take.okX sc__law_take (fun vs H Q E h => h.1) (fun cdv A0 outer s H vs Q E hr h => ?_)
  refine ⟨_, (pss_cons (ps_if (pt_cmpR op_gtA (pe_ix (ixA (K := K) rfl) (pv 0) pe_int (fun _ _ => rfl)) pe_int (nomark _))
(pss_cons (ps_set (i := 2) sc__law_take.nd rfl (Or.inl rfl) (pe_op op_mod (pe_callTy call_int1 (by rfl) T.b_int (by decide +kernel) (pa_cons (pe_ix (ixA (K := K) rfl) (pv 0) pe_int (fun _ _ => rfl)) pa_nil)) (pv 1)))
(pss_cons (ps_asg (pe_op op_fdiv (pe_ix (ixA (K := K) rfl) (pv 0) pe_int (fun _ _ => rfl)) (pv 1)) (pg_sub (pv 0) pe_int set_list))
(pss_one (ps_ret (pv 2)))))
pss_nil)
(pss_cons (ps_asg (pe_op op_mod (pe_callTy call_int1 (by rfl) T.b_int (by decide +kernel) (pa_cons (pe_op (addA (K := K) rfl) (pe_op op_mulA (pe_ix (ixA (K := K) rfl) (pv 0) pe_int (fun _ _ => rfl)) pe_int) pe_int) pa_nil)) pe_int) (pg_sub (pv 0) pe_int set_list))
(pss_one (ps_ret (pe_op op_mod (pe_callTy call_int1 (by rfl) T.b_int (by decide +kernel) (pa_cons (pe_op op_fdiv (pe_op op_mod (pe_callTy call_int1 (by rfl) T.b_int (by decide +kernel) (pa_cons (pe_op op_mulA (pe_ix (ixA (K := K) rfl) (pv 0) pe_int (fun _ _ => rfl)) (pe_ix (ixA (K := K) rfl) (pv 0) pe_int (fun _ _ => rfl))) pa_nil)) pe_int) pe_int) pa_nil)) (pv 1)))))), ?_⟩
  exact body_ok (m := m__law_take) rfl (by decide) (ss_seq (ss_if (st_test (se_op r2_gt (se_op r2_ix (se_var 0) (se_int 0)) (se_int 0)))
(ss_seq (ss_set 2 (se_op r2_mod (se_cb rc_int (sa_cons (se_op r2_ix (se_var 0) (se_int 0)) sa_nil)) (se_var 1)))
(ss_seq (ss_putL 0 (se_op r2_div (se_op r2_ix (se_var 0) (se_int 0)) (se_var 1)) (se_int 0))
(ss_ret (se_var 2))))
ss_next)
(ss_seq (ss_putL 0 (se_op r2_mod (se_cb rc_int (sa_cons (se_op r2_add (se_op r2_mul (se_op r2_ix (se_var 0) (se_int 1)) (se_int 39373)) (se_int 7)) sa_nil)) (se_int 2147483647)) (se_int 1))
(ss_ret (se_op r2_mod (se_cb rc_int (sa_cons (se_op r2_div (se_op r2_mod (se_cb rc_int (sa_cons (se_op r2_mul (se_op r2_ix (se_var 0) (se_int 1)) (se_op r2_ix (se_var 0) (se_int 1))) sa_nil)) (se_int 2147483629)) (se_int 32)) sa_nil)) (se_var 1))))) h

theorem ok__law_one (T : Txt K mg A) : FnOk P w K mg base (L2.CX P w) 2 A.f__law_one A.d__law_one ["_law_source", "_law_things"] (spM (tb K A) m__law_one) := by
  refine T.F__law_one.okX sc__law_one (fun vs H Q E h => h.1) (fun cdv A0 outer s H vs Q E hr h => ?_)
  refine ⟨_, (pss_one (ps_ret (pe_ix (ixA (K := K) rfl) (pv 1) (pe_callSD (ok__law_take T) (hr.mono (by decide)) (by rfl) T.g__law_take T.F__law_take.kp T.B__law_take .nil (fun σ => passAt (takes_of rfl rfl rfl rfl) σ) (pa_cons (pv 0) (pa_cons (pe_callB (lenA (K := K) rfl) (by rfl) T.b_len PySem.boot_len (pa_cons (pv 1) pa_nil)) pa_nil))) (fun _ _ => rfl)))), ?_⟩
  exact body_ok (m := m__law_one) rfl (by decide) (ss_ret (se_op r2_ix (se_var 1) (se_callS0 (fun _ _ _ _ h => h) (sa_cons (se_var 0) (sa_cons (se_cb rc_len (sa_cons (se_var 1) sa_nil)) sa_nil))))) h

theorem ok__law_is_name (T : Txt K mg A) : FnOk P w K mg base (L2.CX P w) 1 A.f__law_is_name A.d__law_is_name ["_law_word"] (spM (tb K A) m__law_is_name) := by
  refine T.F__law_is_name.okX sc__law_is_name (fun vs H Q E h => h.1) (fun cdv A0 outer s H vs Q E hr h => ?_)
  refine ⟨_, (pss_cons (ps_if (pt_not (pt_chain op_leA op_leA pe_int (pe_callB (lenA (K := K) rfl) (by rfl) T.b_len PySem.boot_len (pa_cons (pv 0) pa_nil)) pe_int))
(pss_one (ps_ret pe_bl))
pss_nil)
(pss_one (ps_ret (pe_cmpR (eqA (K := K) rfl hr.units) (pe_lc (own := [("_law_sign", 1)]) (g := (gName 1)) rfl sc__law_is_name.nd (pi_seq (pv 0)) (blkOk_by (N := ["_law_word", "_law_sign"]) (sc := defScope s__law_is_name) (by decide +kernel)) (fun _ _ _ _ _ => (pg_name (i := 1) sc__law_is_name.nd rfl (Or.inl rfl))) (fun _ _ _ _ _ => (pts_one (pt_cmpR op_notIn_sign (pv 1) pe_str (by rfl)))) (fun _ _ _ _ _ => (pv 1))) (pe_lst pa_nil) (nomark _))))), ?_⟩
  exact body_ok (m := m__law_is_name) rfl (by decide) (ss_seq (ss_if (st_not (st_test (se_chain r2_le r2_le (se_int 1) (se_cb rc_len (sa_cons (se_var 0) sa_nil)) (se_int 4))))
(ss_ret (se_bl false))
ss_next)
(ss_ret (se_op r2_eq (se_lc (si_any (se_var 0)) (sgc_name 1 (by decide)) (st_test (se_op r2_notInS (se_var 1) (se_str "abcdefghijklmnopqrstuvwxyz"))) (se_var 1)) (se_lst sa_nil)))) h

theorem ok__law_due (T : Txt K mg A) : FnOk P w K mg base (L2.CX P w) 2 A.f__law_due A.d__law_due ["_law_text_here"] (spM (tb K A) m__law_due) := by
  refine T.F__law_due.okX sc__law_due (fun vs H Q E h => h.1) (fun cdv A0 outer s H vs Q E hr h => ?_)
  refine ⟨_, (pss_cons (ps_if (pt_cmpR (eqA (K := K) rfl hr.units) (pv 0) pe_str (nomark _))
(pss_one (ps_ret (pe_lst pa_nil)))
pss_nil)
(pss_cons (ps_set (i := 1) sc__law_due.nd rfl (Or.inl rfl) (pe_split (pv 0) pe_str))
(pss_cons (ps_if (PW.pt (pw_or (pt_cmpR op_ltA (pe_callB (lenA (K := K) rfl) (by rfl) T.b_len PySem.boot_len (pa_cons (pv 1) pa_nil)) pe_int (nomark _)) (pw_or (pt_cmpR op_gtA (pe_callB (lenA (K := K) rfl) (by rfl) T.b_len PySem.boot_len (pa_cons (pv 1) pa_nil)) pe_int (nomark _)) (pw_or1 (pt_cmpR (neA (K := K) rfl hr.units) (pe_ix (ixA (K := K) rfl) (pv 1) pe_int (fun _ _ => rfl)) pe_str (nomark _))))))
(pss_one (ps_ret pe_non))
pss_nil)
(pss_one (ps_ret (pe_ifExp (pt_cmpR (eqA (K := K) rfl hr.units) (pe_lc (own := [("_law_word", 2)]) (g := (gName 2)) rfl sc__law_due.nd (pi_seq (pe_slice (slA (K := K) rfl) (pv 1) (po_some pe_int) po_none)) (blkOk_by (N := ["_law_text_here", "_law_words", "_law_word"]) (sc := defScope s__law_due) (by decide +kernel)) (fun _ _ _ _ _ => (pg_name (i := 2) sc__law_due.nd rfl (Or.inl rfl))) (fun _ _ _ _ _ => (pts_one (pt_not (truA (K := K) rfl (pe_callSD (ok__law_is_name T) (hr.mono (by decide)) (by rfl) T.g__law_is_name T.F__law_is_name.kp T.B__law_is_name .nil (fun σ => passN σ) (pa_cons (pv 2) pa_nil)) (by intro _; rfl))))) (fun _ _ _ _ _ => (pv 2))) (pe_lst pa_nil) (nomark _)) (pe_slice (slA (K := K) rfl) (pv 1) (po_some pe_int) po_none) pe_non)))))), ?_⟩
  exact body_ok (m := m__law_due) rfl (by decide) (ss_seq (ss_if (st_test (se_op r2_eq (se_var 0) (se_str "/")))
(ss_ret (se_lst sa_nil))
ss_next)
(ss_seq (ss_set 1 (se_m1 m1_split (se_var 0) (se_str "/")))
(ss_seq (ss_if (st_or (st_test (se_op r2_lt (se_cb rc_len (sa_cons (se_var 1) sa_nil)) (se_int 2))) (st_or (st_test (se_op r2_gt (se_cb rc_len (sa_cons (se_var 1) sa_nil)) (se_int 7))) (st_test (se_op r2_ne (se_op r2_ix (se_var 1) (se_int 0)) (se_str "")))))
(ss_ret se_non)
ss_next)
(ss_ret (se_if (st_test (se_op r2_eq (se_lc (si_any (se_sl (se_var 1) (so_some (se_int 1)) so_none)) (sgc_name 2 (by decide)) (st_not (st_tru (se_callS0 (fun _ _ _ _ h => h) (sa_cons (se_var 2) sa_nil)))) (se_var 2)) (se_lst sa_nil))) (se_sl (se_var 1) (so_some (se_int 1)) so_none) se_non))))) h

theorem ok__law_text (T : Txt K mg A) : FnOk P w K mg base (L2.CX P w) 3 A.f__law_text A.d__law_text ["_law_source"] (spM (tb K A) m__law_text) := by
  refine T.F__law_text.okX sc__law_text (fun vs H Q E h => h.1) (fun cdv A0 outer s H vs Q E hr h => ?_)
  refine ⟨_, (pss_cons (ps_set (i := 1) sc__law_text.nd rfl (Or.inl rfl) (pe_lst pa_nil))
(pss_cons (ps_for (passes_of rfl) rfl (pi_range1 (by rfl) T.b_range (pa_cons (pe_callSD (ok__law_take T) (hr.mono (by decide)) (by rfl) T.g__law_take T.F__law_take.kp T.B__law_take .nil (fun σ => passAt (takes_of rfl rfl rfl rfl) σ) (pa_cons (pv 0) (pa_cons pe_int pa_nil))) pa_nil)) (pg_name (i := 2) sc__law_text.nd rfl (Or.inl rfl))
(pss_cons (ps_set (i := 3) sc__law_text.nd rfl (Or.inr rfl) pe_str)
(pss_cons (ps_set (i := 4) sc__law_text.nd rfl (Or.inl rfl) (pe_join pe_str (pe_lc (own := [("_law_step", 7)]) (g := (gName 7)) (tt := tYes) rfl sc__law_text.nd (pi_range1 (by rfl) T.b_range (pa_cons (pe_op (addA (K := K) rfl) pe_int (pe_callSD (ok__law_take T) (hr.mono (by decide)) (by rfl) T.g__law_take T.F__law_take.kp T.B__law_take .nil (fun σ => passAt (takes_of rfl rfl rfl rfl) σ) (pa_cons (pv 0) (pa_cons pe_int pa_nil)))) pa_nil)) (blkOk_by (N := ["_law_source", "_law_words", "_law_turn", "_law_letters", "_law_good", "_law_bad", "_law_head", "_law_step"]) (sc := defScope s__law_text) (by decide +kernel)) (fun _ _ _ _ _ => (pg_name (i := 7) sc__law_text.nd rfl (Or.inl rfl))) (fun _ _ _ _ _ => pts_nil) (fun _ _ _ _ _ => (pe_ix (ixA (K := K) rfl) (pv 3) (pe_callSD (ok__law_take T) (hr.mono (by decide)) (by rfl) T.g__law_take T.F__law_take.kp T.B__law_take .nil (fun σ => passN σ) (pa_cons (pv 0) (pa_cons pe_int pa_nil))) (fun _ _ => rfl))))))
(pss_cons (ps_set (i := 5) sc__law_text.nd rfl (Or.inl rfl) (pe_callSD (ok__law_one T) (hr.mono (by decide)) (by rfl) T.g__law_one T.F__law_one.kp T.B__law_one .nil (fun σ => passAt (takes_of rfl rfl rfl rfl) σ) (pa_cons (pv 0) (pa_cons (pe_lst (pa_cons pe_str (pa_cons pe_str (pa_cons pe_str (pa_cons pe_str (pa_cons pe_str (pa_cons pe_str (pa_cons pe_str (pa_cons pe_str (pa_cons pe_str (pa_cons pe_str pa_nil))))))))))) pa_nil))))
(pss_one (ps_expr (pe_bm PySem.F.plainAttrs_list PySem.F.slot_list_append PySem.F.type_list_append mt_append (pv 1) (pa_cons (pe_ifExp (pt_cmpR (eqA (K := K) rfl hr.units) (pe_callSD (ok__law_take T) (hr.mono (by decide)) (by rfl) T.g__law_take T.F__law_take.kp T.B__law_take .nil (fun σ => passAt (takes_of rfl rfl rfl rfl) σ) (pa_cons (pv 0) (pa_cons pe_int pa_nil))) pe_int (nomark _)) (pv 5) (pv 4)) pa_nil))))))))
(pss_cons (ps_set (i := 6) sc__law_text.nd rfl (Or.inl rfl) (pe_callSD (ok__law_one T) (hr.mono (by decide)) (by rfl) T.g__law_one T.F__law_one.kp T.B__law_one .nil (fun σ => passAt (takes_of rfl rfl rfl rfl) σ) (pa_cons (pv 0) (pa_cons (pe_lst (pa_cons pe_str (pa_cons pe_str (pa_cons pe_str (pa_cons pe_str (pa_cons pe_str (pa_cons pe_str pa_nil))))))) pa_nil))))
(pss_one (ps_ret (pe_op (addA (K := K) rfl) (pe_op (addA (K := K) rfl) (pv 6) (pe_join pe_str (pv 1))) (pe_callSD (ok__law_one T) (hr.mono (by decide)) (by rfl) T.g__law_one T.F__law_one.kp T.B__law_one .nil (fun σ => passAt (takes_of rfl rfl rfl rfl) σ) (pa_cons (pv 0) (pa_cons (pe_lst (pa_cons pe_str (pa_cons pe_str (pa_cons pe_str (pa_cons pe_str (pa_cons pe_str (pa_cons pe_str (pa_cons pe_str (pa_cons pe_str pa_nil))))))))) pa_nil))))))))), ?_⟩
  exact body_ok (m := m__law_text) rfl (by decide) (ss_seq (ss_set 1 (se_lst sa_nil))
(ss_seq (ss_for (si_range1 (sa_cons (se_callS0 (fun _ _ _ _ h => h) (sa_cons (se_var 0) (sa_cons (se_int 8) sa_nil))) sa_nil)) (sg_name 2)
(ss_seq (ss_set 3 (se_str "abcdefghijklmnopqrstuvwxyz"))
(ss_seq (ss_set 4 (se_m1 m1_join (se_str "") (se_lc (si_range1 (sa_cons (se_op r2_add (se_int 1) (se_callS0 (fun _ _ _ _ h => h) (sa_cons (se_var 0) (sa_cons (se_int 4) sa_nil)))) sa_nil)) (sgc_name 7 (by decide)) st_yes (se_op r2_ix (se_var 3) (se_callS0 (fun _ _ _ _ h => h) (sa_cons (se_var 0) (sa_cons (se_int 26) sa_nil)))))))
(ss_seq (ss_set 5 (se_callS0 (fun _ _ _ _ h => h) (sa_cons (se_var 0) (sa_cons (se_lst (sa_cons (se_str "") (sa_cons (se_str "abcde") (sa_cons (se_str "A") (sa_cons (se_str "a1") (sa_cons (se_str "a b") (sa_cons (se_str "aB") (sa_cons (se_str ".") (sa_cons (se_str "a@b") (sa_cons (se_str "zzzzz") (sa_cons (se_str " a") sa_nil))))))))))) sa_nil))))
(ss_drop (se_mut 1 mo_append (sa_cons (se_if (st_test (se_op r2_eq (se_callS0 (fun _ _ _ _ h => h) (sa_cons (se_var 0) (sa_cons (se_int 9) sa_nil))) (se_int 0))) (se_var 5) (se_var 4)) sa_nil)))))))
(ss_seq (ss_set 6 (se_callS0 (fun _ _ _ _ h => h) (sa_cons (se_var 0) (sa_cons (se_lst (sa_cons (se_str "/") (sa_cons (se_str "/") (sa_cons (se_str "/") (sa_cons (se_str "/") (sa_cons (se_str "") (sa_cons (se_str "//") sa_nil))))))) sa_nil))))
(ss_ret (se_op r2_add (se_op r2_add (se_var 6) (se_m1 m1_join (se_str "/") (se_var 1))) (se_callS0 (fun _ _ _ _ h => h) (sa_cons (se_var 0) (sa_cons (se_lst (sa_cons (se_str "") (sa_cons (se_str "") (sa_cons (se_str "") (sa_cons (se_str "") (sa_cons (se_str "") (sa_cons (se_str "") (sa_cons (se_str "/") (sa_cons (se_str " ") sa_nil))))))))) sa_nil)))))))) h

theorem ok__law_is_refused (T : Txt K mg A) : FnOk P w K mg base (L2.CX P w) 3 A.f__law_is_refused A.d__law_is_refused ["_law_value"] (spM (tb K A) m__law_is_refused) := by
  refine T.F__law_is_refused.okX sc__law_is_refused (fun vs H Q E h => h.1) (fun cdv A0 outer s H vs Q E hr h => ?_)
  refine ⟨_, (pss_cons (ps_try_as (i := 1) rfl rfl sc__law_is_refused.nd rfl rfl ⟨rfl, by decide, Or.inl T.g_BadPath⟩ (takes_of rfl rfl rfl rfl)
  (fun W pn xe tkl _ => (pss_one (ps_expr (pe_callSD (ok_names_of T) (hr.mono (by decide)) (by rfl) T.g_names_of T.F_names_of.kp T.B_names_of .nil (fun σ => passAt tkl σ) (pa_cons (pv 0) pa_nil)))))
  (fun a oe cls d pn hz hf => pss_one (ps_ret (pe_and (pe_cmpR (eqA (K := K) rfl hr.units) (pe_whatG T.exs hz hf (pv 1)) (pv 0) (nomark _)) (pe_and (pe_callB (call_isX T.iss hz hf) (by rfl) T.b_isinstance (by decide +kernel) (pa_cons (pv 1) (pa_cons (pe_glob (v := .ref A.c_Refused) (by rfl) T.g_Refused rfl) pa_nil))) (pe_one (pe_not (pe_callB (call_isXT T.iss hz hf) (by rfl) T.b_isinstance (by decide +kernel) (pa_cons (pv 1) (pa_cons (pe_tup (pa_cons (pe_glob (v := .ref A.c_BadName) (by rfl) T.g_BadName rfl) (pa_cons (pe_glob (v := .ref A.c_NoName) (by rfl) T.g_NoName rfl) pa_nil))) pa_nil))))))))))
(pss_one (ps_ret pe_bl))), ?_⟩
  exact body_ok (m := m__law_is_refused) rfl (by decide) (ss_seq (ss_tryR T.m_BadPath (fun W => (ss_drop (se_callS0 (fun _ _ _ _ h => h) (sa_cons (se_var 0) sa_nil))))
 (fun c w a d v L s hc hd hr hs => (se_and (se_op r2_eq (se_what (cls_in hc) hd hr hs) (se_var 0)) (se_and (se_isX (cls_in hc) hd hs (T.k_Refused c hc)) (se_not (se_isXT (Ds := [A.c_BadName, A.c_NoName]) (cls_in hc) hd hs (T.k_BadName_NoName c hc) (by simp [sizeLine]) (fun _ _ _ q => q)))))))
(ss_ret (se_bl false))) h

theorem ok__law_is_right (T : Txt K mg A) : FnOk P w K mg base (L2.CX P w) 4 A.f__law_is_right A.d__law_is_right ["_law_value"] (spM (tb K A) m__law_is_right) := by
  refine T.F__law_is_right.okX sc__law_is_right (fun vs H Q E h => h.1) (fun cdv A0 outer s H vs Q E hr h => ?_)
  refine ⟨_, (pss_cons (ps_set (i := 1) sc__law_is_right.nd rfl (Or.inl rfl) (pe_callSD (ok__law_due T) (hr.mono (by decide)) (by rfl) T.g__law_due T.F__law_due.kp T.B__law_due .nil (fun σ => passAt (takes_of rfl rfl rfl rfl) σ) (pa_cons (pv 0) pa_nil)))
(pss_cons (ps_if (pt_cmpR op_isA (pv 1) pe_non (nomark _))
(pss_one (ps_ret (pe_callSD (ok__law_is_refused T) (hr.mono (by decide)) (by rfl) T.g__law_is_refused T.F__law_is_refused.kp T.B__law_is_refused .nil (fun σ => passAt (takes_of rfl rfl rfl rfl) σ) (pa_cons (pv 0) pa_nil))))
pss_nil)
(pss_cons (ps_set (i := 2) sc__law_is_right.nd rfl (Or.inl rfl) (pe_callSD (ok_names_of T) (hr.mono (by decide)) (by rfl) T.g_names_of T.F_names_of.kp T.B_names_of .nil (fun σ => passAt (takes_of rfl rfl rfl rfl) σ) (pa_cons (pv 0) pa_nil)))
(pss_cons (ps_if (PW.pt (pw_or (pt_cmpR (neA (K := K) rfl hr.units) (pv 2) (pv 1) (nomark _)) (pw_or1 (pt_not (truA (K := K) rfl (pe_callB (isiA (K := K) rfl) (by rfl) T.b_isinstance (by decide +kernel) (pa_cons (pv 2) (pa_cons (pe_bltn (v := .ty "list") (by rfl) T.b_list (by decide +kernel) rfl) pa_nil))) (by intro _; rfl))))))
(pss_one (ps_ret pe_bl))
pss_nil)
(pss_cons (ps_expr (pe_bm PySem.F.plainAttrs_list PySem.F.slot_list_append PySem.F.type_list_append mt_append (pv 2) (pa_cons pe_str pa_nil)))
(pss_one (ps_ret (pe_cmpR (eqA (K := K) rfl hr.units) (pe_callN0 (ok_names_of T) (hr.mono (by decide)) (by rfl) T.g_names_of T.F_names_of.kp T.B_names_of_0_path (passes_call (takes_of rfl rfl rfl rfl) (fun _ _ _ _ h => h)) (pk_cons (pv 0) pk_nil)) (pv 1) (nomark _))))))))), ?_⟩
  exact body_ok (m := m__law_is_right) rfl (by decide) (ss_seq (ss_set 1 (se_callS0 (fun _ _ _ _ h => h) (sa_cons (se_var 0) sa_nil)))
(ss_seq (ss_if (st_test (se_op r2_is (se_var 1) se_non))
(ss_ret (se_callS0 (fun _ _ _ _ h => h) (sa_cons (se_var 0) sa_nil)))
ss_next)
(ss_seq (ss_set 2 (se_callS0 (fun _ _ _ _ h => h) (sa_cons (se_var 0) sa_nil)))
(ss_seq (ss_if (st_or (st_test (se_op r2_ne (se_var 2) (se_var 1))) (st_not (st_tru (se_isTy (by decide +kernel) (se_var 2)))))
(ss_ret (se_bl false))
ss_next)
(ss_seq (ss_drop (se_mut 2 mo_append (sa_cons (se_str "x") sa_nil)))
(ss_ret (se_op r2_eq (se_callN (fun _ _ _ _ h => h) (hg_pick [0] .nil) sa_nil (sa_cons (se_var 0) sa_nil) aNil_len (aCons_len aNil_len)) (se_var 1)))))))) h

theorem ok_law (T : Txt K mg A) : FnOk P w K mg base (L2.CX P w) 5 A.f_law A.d_law ["_law_script"] (spM (tb K A) m_law) := by
  refine T.F_law.okX sc_law (fun vs H Q E h => h.1) (fun cdv A0 outer s H vs Q E hr h => ?_)
  refine ⟨_, (pss_cons (ps_for (passes_of rfl) rfl (pi_range1 (by rfl) T.b_range (pa_cons (pe_callB (call_max2 rfl) (by rfl) T.b_max (by decide +kernel) (pa_cons pe_int (pa_cons (pe_callB (call_min2 rfl) (by rfl) T.b_min (by decide +kernel) (pa_cons (pe_callB (lenA (K := K) rfl) (by rfl) T.b_len PySem.boot_len (pa_cons (pv 0) pa_nil)) (pa_cons pe_int pa_nil))) pa_nil))) pa_nil)) (pg_name (i := 1) sc_law.nd rfl (Or.inl rfl))
(pss_cons (ps_set (i := 2) sc_law.nd rfl (Or.inl rfl) (pe_callSD (ok__law_pool T) (hr.mono (by decide)) (by rfl) T.g__law_pool T.F__law_pool.kp T.B__law_pool .nil (fun σ => passAt (takes_of rfl rfl rfl rfl) σ) (pa_cons (pv 0) (pa_cons (pv 1) pa_nil))))
(pss_one (ps_if (PW.pt (pw_or (pt_not (truA (K := K) rfl (pe_callSD (ok__law_is_right T) (hr.mono (by decide)) (by rfl) T.g__law_is_right T.F__law_is_right.kp T.B__law_is_right .nil (fun σ => passAt (takes_of rfl rfl rfl rfl) σ) (pa_cons (pe_callSD (ok__law_text T) (hr.mono (by decide)) (by rfl) T.g__law_text T.F__law_text.kp T.B__law_text .nil (fun σ => passAt (takes_of rfl rfl rfl rfl) σ) (pa_cons (pv 2) pa_nil)) pa_nil)) (by intro _; rfl))) (pw_or1 (pt_not (truA (K := K) rfl (pe_callSD (ok__law_is_right T) (hr.mono (by decide)) (by rfl) T.g__law_is_right T.F__law_is_right.kp T.B__law_is_right .nil (fun σ => passAt (takes_of rfl rfl rfl rfl) σ) (pa_cons (pe_op (addA (K := K) rfl) pe_str (pe_join pe_str (pe_op op_mulA (pe_lst (pa_cons pe_str pa_nil)) (pe_op (addA (K := K) rfl) pe_int (pe_callSD (ok__law_take T) (hr.mono (by decide)) (by rfl) T.g__law_take T.F__law_take.kp T.B__law_take .nil (fun σ => passAt (takes_of rfl rfl rfl rfl) σ) (pa_cons (pv 2) (pa_cons pe_int pa_nil))))))) pa_nil)) (by intro _; rfl))))))
(pss_one (ps_ret pe_bl))
pss_nil))))
(pss_cons (ps_for (passes_of rfl) rfl (pi_seq (pe_lst (pa_cons pe_str (pa_cons pe_str (pa_cons pe_str (pa_cons pe_str (pa_cons pe_str (pa_cons pe_str (pa_cons pe_str (pa_cons pe_str (pa_cons pe_str pa_nil))))))))))) (pg_name (i := 3) sc_law.nd rfl (Or.inl rfl))
(pss_one (ps_if (pt_not (truA (K := K) rfl (pe_callSD (ok__law_is_right T) (hr.mono (by decide)) (by rfl) T.g__law_is_right T.F__law_is_right.kp T.B__law_is_right .nil (fun σ => passAt (takes_of rfl rfl rfl rfl) σ) (pa_cons (pv 3) pa_nil)) (by intro _; rfl)))
(pss_one (ps_ret pe_bl))
pss_nil)))
(pss_one (ps_ret (pe_and (pe_callSD (ok__law_is_refused T) (hr.mono (by decide)) (by rfl) T.g__law_is_refused T.F__law_is_refused.kp T.B__law_is_refused .nil (fun σ => passAt (takes_of rfl rfl rfl rfl) σ) (pa_cons pe_non pa_nil)) (pe_and (pe_callSD (ok__law_is_refused T) (hr.mono (by decide)) (by rfl) T.g__law_is_refused T.F__law_is_refused.kp T.B__law_is_refused .nil (fun σ => passAt (takes_of rfl rfl rfl rfl) σ) (pa_cons pe_int pa_nil)) (pe_and (pe_callSD (ok__law_is_refused T) (hr.mono (by decide)) (by rfl) T.g__law_is_refused T.F__law_is_refused.kp T.B__law_is_refused .nil (fun σ => passAt (takes_of rfl rfl rfl rfl) σ) (pa_cons (pe_lst (pa_cons pe_str pa_nil)) pa_nil)) (pe_one (pe_callSD (ok__law_is_refused T) (hr.mono (by decide)) (by rfl) T.g__law_is_refused T.F__law_is_refused.kp T.B__law_is_refused .nil (fun σ => passAt (takes_of rfl rfl rfl rfl) σ) (pa_cons (pe_tup (pa_cons pe_str (pa_cons pe_str pa_nil))) pa_nil)))))))))), ?_⟩
  exact body_ok (m := m_law) rfl (by decide) (ss_seq (ss_for (si_range1 (sa_cons (se_cb rc_max (sa_cons (se_int 1) (sa_cons (se_cb rc_min (sa_cons (se_cb rc_len (sa_cons (se_var 0) sa_nil)) (sa_cons (se_int 10) sa_nil))) sa_nil))) sa_nil)) (sg_name 1)
(ss_seq (ss_set 2 (se_callS0 (fun _ _ _ _ h => h) (sa_cons (se_var 0) (sa_cons (se_var 1) sa_nil))))
(ss_if (st_or (st_not (st_tru (se_callS0 (fun _ _ _ _ h => h) (sa_cons (se_callS0 (fun _ _ _ _ h => h) (sa_cons (se_var 2) sa_nil)) sa_nil)))) (st_not (st_tru (se_callS0 (fun _ _ _ _ h => h) (sa_cons (se_op r2_add (se_str "/") (se_m1 m1_join (se_str "/") (se_op r2_mul (se_lst (sa_cons (se_str "ab") sa_nil)) (se_op r2_add (se_int 1) (se_callS0 (fun _ _ _ _ h => h) (sa_cons (se_var 2) (sa_cons (se_int 8) sa_nil))))))) sa_nil)))))
(ss_ret (se_bl false))
ss_next)))
(ss_seq (ss_for (si_any (se_lst (sa_cons (se_str "/") (sa_cons (se_str "") (sa_cons (se_str "//") (sa_cons (se_str "/a/") (sa_cons (se_str "a") (sa_cons (se_str "/a//b") (sa_cons (se_str "/zzzz") (sa_cons (se_str "/a/b/c/d/e/f") (sa_cons (se_str "/a/b/c/d/e/f/g") sa_nil))))))))))) (sg_name 3)
(ss_if (st_not (st_tru (se_callS0 (fun _ _ _ _ h => h) (sa_cons (se_var 3) sa_nil))))
(ss_ret (se_bl false))
ss_next))
(ss_ret (se_and (se_callS0 (fun _ _ _ _ h => h) (sa_cons se_non sa_nil)) (se_and (se_callS0 (fun _ _ _ _ h => h) (sa_cons (se_int 7) sa_nil)) (se_and (se_callS0 (fun _ _ _ _ h => h) (sa_cons (se_lst (sa_cons (se_str "a") sa_nil)) sa_nil)) (se_callS0 (fun _ _ _ _ h => h) (sa_cons (se_tup (sa_cons (se_str "/") (sa_cons (se_str "a") sa_nil))) sa_nil)))))))) h

end
end Lw
namespace Lw
open PySem L2 Mr
theorem v_mulL {m n : Int} (h : -18446744073709551616 < m ∧ m < 18446744073709551616) : pyMul (.int m) (.int n) = .im (.int (m * n)) := v_mul (cMul_l h.1 h.2)
theorem v_mulR {m n : Int} (h : -18446744073709551616 < n ∧ n < 18446744073709551616) : pyMul (.int m) (.int n) = .im (.int (m * n)) := v_mul (cMul_r h.1 h.2)
theorem v_mulB {m : Int} {x : Bool} : pyMul (.int m) (.int (if x = true then 1 else 0)) = .im (.int (m * if x = true then 1 else 0)) := by
  cases x
  · exact v_mulR ⟨by decide, by decide⟩
  · exact v_mulR ⟨by decide, by decide⟩
theorem v_pow18 : pyPow (.int 10) (.int 18) = .im (.int 1000000000000000000) := by
  show (if cPow 10 18 = true then OV.im (.int (10 ^ (18 : Int).toNat)) else .st) = _
  rw [if_pos (by decide +kernel), show (10 : Int) ^ (18 : Int).toNat = 1000000000000000000 by decide +kernel]
theorem g0 {s : Sl} {ρ : Rho} : (s :: ρ)[0]? = some s := rfl
theorem gS {s : Sl} {ρ : Rho} {n : Nat} : (s :: ρ)[n + 1]? = ρ[n]? := rfl
theorem s0 {s t : Sl} {ρ : Rho} : List.set (s :: ρ) 0 t = t :: ρ := rfl
theorem sS {s t : Sl} {ρ : Rho} {n : Nat} : List.set (s :: ρ) (n + 1) t = s :: List.set ρ n t := rfl
theorem atI0 {a : Int} {z : List Int} : pyAt (iL (a :: z)) 0 = .im (.int a) := at0
theorem atI1 {a b : Int} {z : List Int} : pyAt (iL (a :: b :: z)) 1 = .im (.int b) := at1
theorem atI2 {a b c : Int} {z : List Int} : pyAt (iL (a :: b :: c :: z)) 2 = .im (.int c) := at2
theorem atI3 {a b c d : Int} {z : List Int} : pyAt (iL (a :: b :: c :: d :: z)) 3 = .im (.int d) := at3
theorem v_revL {l : List Py} : pyRev (.lst l) = .fr (.lst l.reverse) := rfl
theorem v_revS {l : List Py} : pyRev (.scr l) = .fr (.lst l.reverse) := rfl
theorem v_append {l : List Py} {d : Py} (h : l.length < 16777216) : fAppend (.lst l) [d] = some (.lst (l ++ [d]), .non) := if_pos h
local macro_rules | `(tactic| walk_at "mev") => `(tactic| try simp -implicitDefEqProofs (disch := first | omega | (simp only [List.length_cons, List.length_nil, List.length_append, List.length_map, List.length_set, List.length_take, List.length_drop]; omega)) only [wm_var, wm_c, wm_op, wm_op1, wm_op2, wm_un, wm_un1, wm_B, wm_B1, wm_tru, wm_tru1, wm_if, wm_andT, wm_orT, wm_and, wm_or, wm_if1, wm_notT, wm_not, wm_not1, wm_int, wm_int1, wm_sl, wm_sl1, wm_sl2n, wm_sl2i, wm_sl3n, wm_sl3i, wm_anil, wm_acons, wm_a1, wm_a2, wm_its1, oTup_ok, oLst_ok, wm_tup, wm_lst, wm_cb, wm_cb1, wm_def, wm_def1, wm_kw, wm_kw1, wm_kw2, pick_nil, pick_cons, pick2_some, p0, pS, mapIm_cons, mapIm_nil, wm_call, wm_call1, wm_seq, wm_seqN, wm_seqR, wm_seqB, wm_seqC, wm_next, wm_brk, wm_cont, wm_drop, wm_drop1, wm_ret, wm_ret1, wm_retN, wm_set, wm_aug, wm_set1, wm_ifS, wm_ifS1, wm_asg, wm_asg1, wm_putL, wm_put1, wm_putS, wm_mut, wm_mutL, wm_mut1, mut2_some, mut3_some, wm_put2, wm_par, wm_par1, wm_par2, wm_forOf, wm_forOf1, for2_some, for3_some, wm_forAny, wm_forAny1, fe_L, fe_T, fe_S, fr_1, fr_2, io_L, io_T, io_S, setSl_fS, wm_lcOf, wm_lcOf1, lc2_some, wm_lcAny, wm_lcAny1, wo_some, woe_some, gT_eq, gN_eq, Nat.reduceEqDiff, eq_self, wm_m1, wm_m11, wm_m12, wm_ch, wm_ch1, wm_ch2, ch2_some, wm_ch3t, wm_ch3f, wm_ch4, ovb, wm_raise, wm_raise1, rs2_some, wm_try, wm_tryN, wm_tryR, wm_suit, wx_drop, wx_set, wx_ret, wr_ex, wm_seqX, kt_ex, kj_nx, kj_ct, kj_bk, kj_rt, kj_ex, st_ii, st_if, st_fi, st_ff, st3_some, gsl_c, gsl2_some, gsl3_some, set_iL, kl_T, kl_t, kl_f, kt_nx, kt_ct, kt_bk, kt_rt, g0, gS, s0, sS, varR_im, varR_ow, dat_im, dat_fr, dat_bo, slDat_im, slDat_ow, op2_some, op1_some, ov_im, ov_fr, bl_im, bR_some, truR_some, tru_bl, ifE_t, ifE_f, int_im, intR_some, slR_some, set_im', set_fr', set_bo', frz_nil, frz_im, frz_bo, ev_freeze, freezeS_ow, freezeS_im, frzR_im, frzR_fr, frzR_bo, dats_nil, dats_cons, dats2_some, its2_some, one_1, two_2, optS_some, ifS_t, ifS_f, setRv_im, setRv_fr, setRv_bo, setRv2_some, ev_setSl, setSl_no, setSl_im, setSl_ow, ev_owS, owR_ow, put2_some, put3_some, asg2_some, gN_eq, gT_eq, gs0_eq, gs1_eq, gs2_some, v_add, v_addT, v_addL, v_addI, v_sub, v_mulB, v_mulL, v_mulR, v_div, v_mod, v_neg, v_lt, v_le, v_gt, v_ge, v_isB, v_isNB, v_eq, v_ne, v_eqT, v_neT, v_eqL, v_neL, v_lenL, v_lenT, v_lenS, v_tupL, v_tupT, v_lstL, v_lstT, v_int, v_intB, v_i2, v_pow18, v_append, v_revL, v_revS, v_slL, v_slT, v_ixL, v_ixT, v_ixS, atI0, atI1, atI2, atI3, at0, at1, at2, at3, at4, set0, set1, wr_im, wr_fr, wr_nx, wr_bo, boR_f, boR_t, boR_im, outs_nil, outs_im, outs_ow, outs_imt, List.length_cons, List.length_nil, List.replicate, List.cons_append, List.nil_append, Nat.reduceAdd, Nat.reduceSub, Int.reduceNeg, arrP, Bool.true_and, Bool.and_true, Bool.false_and, Bool.and_false, Bool.not_true, Bool.not_false, decide_true, decide_false, Option.map_some, if_true, reduceIte])
/-! ### what is drawn -/
def Src (d : Py) : Prop := ∃ p q : Int, d = .lst [.int p, .int q] ∧ 0 ≤ p ∧ 0 ≤ q ∧ q < 2147483647
theorem run_take {d : Py} {t : Int} (hd : Src d) (ht : 0 < t) (ht2 : t < 1073741824) (K : DR → Prop) (k : ∀ (r : Int) (d' : Py), 0 ≤ r → r < t → Src d' → K (.ok (.im (.int r)) [.ow true d', .no])) : K (m__law_take.run [.ow true d, .im false (.int t)]) := by
  obtain ⟨p, q, rfl, hp, hq, hq2⟩ := hd
  refine w_run ?_
  simp only [m__law_take]
  walk_at "mev"
  refine wc_ifS (fun h => ?_) (fun h => ?_)
  · walk_at "mev"
    have h := of_decide_eq_true h
    exact k _ _ (Int.emod_nonneg _ (by omega)) (Int.emod_lt_of_pos _ ht) ⟨_, _, rfl, Int.ediv_nonneg hp (by omega), hq, hq2⟩
  · walk_at "mev"
    exact k _ _ (Int.emod_nonneg _ (by omega)) (Int.emod_lt_of_pos _ ht) ⟨_, _, rfl, hp, Int.emod_nonneg _ (by omega), Int.emod_lt_of_pos _ (by omega)⟩
theorem w_take {ρ : Rho} {i : Nat} {io : Bool} {d : Py} {t : Int} {K : ER → Prop} (ho : ρ[i]? = some (.ow io d)) (hd : Src d) (ht : 0 < t) (ht2 : t < 1073741824) (k : ∀ (r : Int) (d' : Py), 0 ≤ r → r < t → Src d' → WE (.ok (.im (.int r)) (ρ.set i (.ow io d'))) K) : WE (callR m__law_take ρ [.bo i, .im (.int t)]) K := by
  refine wc_turns (args := [.int t]) (P := fun x d' => ∃ r : Int, x = .im (.int r) ∧ 0 ≤ r ∧ r < t ∧ Src d') rfl ?_ rfl ho ?_
  · exact run_take hd ht ht2 (fun D => ∃ x d', (∃ r : Int, x = .im (.int r) ∧ 0 ≤ r ∧ r < t ∧ Src d') ∧ D = .ok x (.ow true d' :: [.no])) fun r d' h1 h2 h3 => ⟨_, _, ⟨r, rfl, h1, h2, h3⟩, rfl⟩
  · rintro x d' ⟨r, rfl, h1, h2, h3⟩
    exact k r d' h1 h2 h3
theorem run_one {d : Py} {l : List Py} (hd : Src d) (hl : 0 < l.length) (hl2 : l.length < 1000000) (K : DR → Prop) (k : ∀ (x d' : Py), x ∈ l → Src d' → K (.ok (.im x) [.ow true d', .no])) : K (m__law_one.run [.ow true d, .im false (.lst l)]) := by
  refine w_run ?_
  simp only [m__law_one]
  walk_at "mev"
  refine w_take (t := (l.length : Int)) rfl hd (by omega) (by omega) fun r d' h1 h2 h3 => ?_
  walk_at "mev"
  have hr : r.toNat < l.length := by omega
  rw [at_int h1 (List.getElem?_eq_getElem hr)]
  walk_at "mev"
  exact k _ _ (List.getElem_mem hr) h3
theorem w_one {ρ : Rho} {i : Nat} {io : Bool} {d : Py} {l : List Py} {K : ER → Prop} (ho : ρ[i]? = some (.ow io d)) (hd : Src d) (hl : 0 < l.length) (hl2 : l.length < 1000000) (k : ∀ (x d' : Py), x ∈ l → Src d' → WE (.ok (.im x) (ρ.set i (.ow io d'))) K) : WE (callR m__law_one ρ [.bo i, .im (.lst l)]) K := by
  refine wc_turns (args := [.lst l]) (P := fun x d' => ∃ y, x = .im y ∧ y ∈ l ∧ Src d') rfl ?_ rfl ho ?_
  · exact run_one hd hl hl2 (fun D => ∃ x d', (∃ y, x = .im y ∧ y ∈ l ∧ Src d') ∧ D = .ok x (.ow true d' :: [.no])) fun x d' h1 h2 => ⟨_, _, ⟨x, rfl, h1, h2⟩, rfl⟩
  · rintro x d' ⟨y, rfl, h2, h3⟩
    exact k y d' h2 h3
theorem run_pool {ns : List Int} {c : Int} (h0 : 0 ≤ c) (h1 : c < 64) (K : DR → Prop) (k : ∀ d, Src d → K (.ok (.fr d) [.no, .no])) : K (m__law_pool.run [.im false (.scr (iL ns)), .im false (.int c)]) := by
  refine w_run ?_
  simp only [m__law_pool]
  walk_at "mev"
  refine wc_ifS (fun h => ?_) (fun h => ?_)
  · have h := of_decide_eq_true h
    rw [iL_len] at h
    have hc : c.toNat < ns.length := by omega
    walk_at "mev"
    rw [at_iL h0 (List.getElem?_eq_getElem hc)]
    walk_at "mev"
    refine k _ ⟨_, _, rfl, Int.mul_nonneg ?_ ?_, Int.emod_nonneg _ (by omega), Int.emod_lt_of_pos _ (by omega)⟩
    · unfold max2; split <;> omega
    · split <;> decide
  · walk_at "mev"
    refine k _ ⟨_, _, rfl, Int.mul_nonneg ?_ ?_, Int.emod_nonneg _ (by omega), Int.emod_lt_of_pos _ (by omega)⟩
    · unfold max2; split <;> omega
    · split <;> decide
theorem w_pool {ρ : Rho} {rs : List Rv} {ns : List Int} {c : Int} {K : ER → Prop} (hd : dats ρ rs = some [.scr (iL ns), .int c]) (h0 : 0 ≤ c) (h1 : c < 64) (k : ∀ d, Src d → WE (.ok (.fr d) (frz ρ rs)) K) : WE (callR m__law_pool ρ rs) K := by
  refine wc_pure (args := [.scr (iL ns), .int c]) (P := fun x => ∃ d, x = .fr d ∧ Src d) rfl ?_ hd ?_
  · exact run_pool h0 h1 (fun D => ∃ x, (∃ d, x = .fr d ∧ Src d) ∧ D = .ok x [.no, .no]) fun d hd => ⟨_, ⟨d, rfl, hd⟩, rfl⟩
  · rintro x ⟨d, rfl, h⟩
    exact k d h
/-! ### names -/
theorem v_isTy {t : String} {d : Py} {s : String} (h : tyOfD d = some s) : pyIsTy t d = .im (.bl (isB t s)) := by
  unfold pyIsTy
  rw [h]
  rfl
theorem ty_str {x : Str} : tyOfD (.str x) = some "str" := rfl
def letters : Str := "abcdefghijklmnopqrstuvwxyz"
def sign (c : Nat) : Py := .str ⟨#[c]⟩
def isLetter (c : Nat) : Bool := decide (c ∈ letters.cps.toList)
theorem v_in {c : Nat} {z : Str} : pyInS (sign c) (.str z) = .im (.bl (decide (c ∈ z.cps.toList))) := rfl
theorem v_notIn {c : Nat} {z : Str} : pyNotInS (sign c) (.str z) = .im (.bl (!decide (c ∈ z.cps.toList))) := rfl
def isName (x : Str) : Bool := decide (1 ≤ x.length) && (decide (x.length ≤ 4) && x.cps.toList.all isLetter)
theorem bls_map (l : List Bool) : blsOf (l.map Py.bl) = some l := by
  induction l with
  | nil => rfl
  | cons b l ih => show (blsOf (l.map Py.bl)).map (b :: ·) = _; rw [ih]; rfl
theorem all_id (l : List Nat) : (l.map isLetter).all id = l.all isLetter := by
  rw [List.all_map]; rfl
theorem len_str {x : Str} (h : x.length ≤ 16777216) : pyLen (.str x) = .im (.int x.length) := if_pos h
theorem signs_get {l : List Nat} {i : Nat} {d : Py} (h : (l.map sign)[i]? = some d) : ∃ c, l[i]? = some c ∧ d = sign c := by
  rw [List.getElem?_map] at h
  cases e : l[i]? with
  | none => rw [e] at h; cases h
  | some n => rw [e] at h; exact ⟨n, rfl, (Option.some.inj h).symm⟩
theorem io_Z {z : Str} : (some (Py.str z)).bind itemsOf = some (z.cps.toList.map sign) := rfl
theorem c_letters : (Py.str "abcdefghijklmnopqrstuvwxyz") = .str letters := rfl
theorem wc_ch3 {mc : ME} {g : Py → Py → OV} {y : Rv} {ρ : Rho} {K : ER → Prop} {t : Bool} (h1 : t = true → WE (ch3 mc g y ρ (some true)) K) (h2 : t = false → WE (ch3 mc g y ρ (some false)) K) : WE (ch3 mc g y ρ (some t)) K := by
  cases t
  · exact h2 rfl
  · exact h1 rfl
theorem run_is_name {x : Str} (h : x.length ≤ 16777216) : m_is_name.run [.im false (.str x)] = .ok (.im (.bl (isName x))) [.no] := by
  refine w_run (K := fun D => D = .ok (.im (.bl (isName x))) [.no]) ?_
  simp only [m_is_name, c_letters]
  walk_at "mev"
  rw [v_isTy ty_str, show isB "str" "str" = true from rfl]
  walk_at "mev"
  rw [len_str h]
  walk_at "mev"
  refine wc_ch3 (fun h1 => ?_) (fun h1 => ?_)
  · have h1 := of_decide_eq_true h1
    walk_at "mev"
    by_cases h2 : (x.length : Int) ≤ 4
    · rw [decide_eq_true h2]
      walk_at "mev"
      rw [io_Z]
      refine wc_lc (P := fun n acc ρ => ρ = [.im false (.str x), .no] ∧ acc = ((x.cps.toList.take n).map isLetter).map Py.bl) rfl ⟨rfl, rfl⟩ ?_ ?_
      · rintro n d acc ρ' hd ⟨rfl, rfl⟩
        obtain ⟨c, hc, rfl⟩ := signs_get hd
        walk_at "mev"
        rw [v_in]
        walk_at "mev"
        have hl : n < x.cps.toList.length := (List.getElem?_eq_some_iff.mp hc).1
        have hl2 : x.cps.toList.length ≤ 16777216 := h
        refine kl_I rfl rfl (by rw [List.length_map, List.length_map, List.length_take]; omega) ⟨rfl, ?_⟩
        rw [List.take_succ, hc, List.map_append, List.map_append]
        rfl
      · rintro acc ρ' ⟨rfl, rfl⟩
        show WE (.ok (.fr (.lst (((x.cps.toList.take (x.cps.toList.map sign).length).map isLetter).map Py.bl))) [.im false (.str x), .no]) _
        rw [List.length_map, List.take_length]
        walk_at "mev"
        rw [show pyAll (.lst ((x.cps.toList.map isLetter).map Py.bl)) = .im (.bl (x.cps.toList.all isLetter)) from by
          show blO ((blsOf ((x.cps.toList.map isLetter).map Py.bl)).map fun bs => bs.all id) = _
          rw [bls_map]
          show blO (some ((x.cps.toList.map isLetter).all id)) = _
          rw [all_id]
          rfl]
        walk_at "mev"
        unfold isName
        rw [decide_eq_true (by omega), decide_eq_true (by omega)]
        rfl
    · rw [decide_eq_false h2]
      walk_at "mev"
      unfold isName
      rw [decide_eq_false (p := x.length ≤ 4) (by omega), Bool.false_and, Bool.and_false]
  · have h1 := of_decide_eq_false h1
    walk_at "mev"
    unfold isName
    rw [decide_eq_false (by omega), Bool.false_and]
/-! ### rows of texts -/
abbrev sL (ys : List Str) : List Py := ys.map Py.str
theorem toDs_sL : ∀ ys : List Str, Py.toDs (sL ys) = ys.map PyData.str
  | [] => by simp only [List.map, Py.toDs]
  | y :: ys => by
    have := toDs_sL ys
    simp only [List.map, Py.toDs, Py.toD]
    rw [← this]
def Oks (ys : List Str) : Prop := ∀ y ∈ ys, PyData.strOk y = true
theorem canAll_sL : ∀ ys : List Str, Oks ys → PyData.canLayAll0 (ys.map PyData.str) = true
  | [], _ => by simp only [List.map, PyData.canLayAll0]
  | y :: ys, h => by simp only [List.map, PyData.canLayAll0, PyData.canLay0, canAll_sL ys fun z hz => h z (List.mem_cons_of_mem _ hz), Bool.and_true, h y (List.mem_cons_self ..)]
theorem eqv_str (x y : Str) : PyData.eqv (.str x) (.str y) = decide (x = y) := by
  simp only [PyData.eqv]
  by_cases h : x = y
  · subst h; simp
  · rw [decide_eq_false h]
    simp [h]
theorem eqvAll_sL : ∀ ys zs : List Str, PyData.eqvAll (ys.map PyData.str) (zs.map PyData.str) = decide (ys = zs)
  | [], [] => by simp only [List.map, PyData.eqvAll, decide_true]
  | [], m :: ms => by simp only [List.map, PyData.eqvAll]; rfl
  | n :: ns, [] => by simp only [List.map, PyData.eqvAll]; rfl
  | n :: ns, m :: ms => by
    simp only [List.map, PyData.eqvAll]
    rw [eqvAll_sL ns ms, eqv_str]
    by_cases h : n = m <;> by_cases h2 : ns = ms <;> simp [h, h2]
theorem depthAll_sL : ∀ ys : List Str, PyData.depthAll (ys.map PyData.str) ≤ 1
  | [] => by simp only [List.map, PyData.depthAll]; omega
  | y :: ys => by
    have := depthAll_sL ys
    simp only [List.map, PyData.depthAll, PyData.depth]
    omega
theorem shL_sL (ys : List Str) (o : Oks ys) : SeqAt.shaped (Py.lst (sL ys)).toD = true := by
  have h := depthAll_sL ys
  simp only [Py.toD, toDs_sL, SeqAt.shaped, PyData.canLay0, canAll_sL ys o, PyData.depth, Bool.true_and]
  exact decide_eq_true (by omega)
theorem v_eqS {ys zs : List Str} (o : Oks ys) (p : Oks zs) : pyEq (.lst (sL ys)) (.lst (sL zs)) = .im (.bl (decide (ys = zs))) := by
  unfold pyEq
  rw [shL_sL ys o, shL_sL zs p, if_pos (by rfl)]
  simp only [Py.toD, toDs_sL, PyData.eqv, eqvAll_sL]
theorem v_neS {ys zs : List Str} (o : Oks ys) (p : Oks zs) : pyNe (.lst (sL ys)) (.lst (sL zs)) = .im (.bl (!decide (ys = zs))) := by
  unfold pyNe
  rw [shL_sL ys o, shL_sL zs p, if_pos (by rfl)]
  simp only [Py.toD, toDs_sL, PyData.eqv, eqvAll_sL]
theorem sh_str (x : Str) (o : PyData.strOk x = true) : SeqAt.shaped (Py.str x).toD = true := by
  simp [Py.toD, SeqAt.shaped, PyData.canLay0, PyData.depth, o]
theorem v_eqZ {x y : Str} (o : PyData.strOk x = true) (p : PyData.strOk y = true) : pyEq (.str x) (.str y) = .im (.bl (decide (x = y))) := by
  unfold pyEq
  rw [sh_str x o, sh_str y p, if_pos (by rfl)]
  simp only [Py.toD, eqv_str]
theorem v_neZ {x y : Str} (o : PyData.strOk x = true) (p : PyData.strOk y = true) : pyNe (.str x) (.str y) = .im (.bl (!decide (x = y))) := by
  unfold pyNe
  rw [sh_str x o, sh_str y p, if_pos (by rfl)]
  simp only [Py.toD, eqv_str]
/-! ### the law's own test of a name -/
theorem sign_ok {c : Nat} {x : Str} (h : c ∈ x.cps.toList) (o : PyData.strOk x = true) : PyData.strOk ⟨#[c]⟩ = true := by
  unfold PyData.strOk at o ⊢
  rw [Array.all_eq_true'] at o
  have := o c (Array.mem_def.mpr h)
  simpa using this
theorem not_letters {l : List Nat} : ((l.filter fun c => !isLetter c).map fun c => (⟨#[c]⟩ : Str)) = [] ↔ l.all isLetter = true := by
  rw [List.map_eq_nil_iff, List.filter_eq_nil_iff, List.all_eq_true]
  constructor
  · intro h c hc
    have := h c hc
    simpa using this
  · intro h c hc
    rw [h c hc]
    decide
theorem run_law_name {x : Str} (h : x.length ≤ 16777216) (o : PyData.strOk x = true) : m__law_is_name.run [.im false (.str x)] = .ok (.im (.bl (isName x))) [.no] := by
  refine w_run (K := fun D => D = .ok (.im (.bl (isName x))) [.no]) ?_
  simp only [m__law_is_name, c_letters]
  walk_at "mev"
  rw [len_str h]
  walk_at "mev"
  refine wc_ch3 (fun h1 => ?_) (fun h1 => ?_)
  · have h1 := of_decide_eq_true h1
    walk_at "mev"
    by_cases h2 : (x.length : Int) ≤ 4
    · rw [decide_eq_true h2]
      walk_at "mev"
      rw [io_Z]
      refine wc_lc (P := fun n acc ρ => ρ = [.im false (.str x), .no] ∧ acc = sL (((x.cps.toList.take n).filter fun c => !isLetter c).map fun c => (⟨#[c]⟩ : Str))) rfl ⟨rfl, rfl⟩ ?_ ?_
      · rintro n d acc ρ' hd ⟨rfl, rfl⟩
        obtain ⟨c, hc, rfl⟩ := signs_get hd
        walk_at "mev"
        rw [v_notIn]
        walk_at "mev"
        have hl : n < x.cps.toList.length := (List.getElem?_eq_some_iff.mp hc).1
        have hl2 : x.cps.toList.length ≤ 16777216 := h
        have e : (x.cps.toList.take (n + 1)) = x.cps.toList.take n ++ [c] := by rw [List.take_succ, hc]; rfl
        cases hb : isLetter c with
        | true =>
          rw [show decide (c ∈ letters.cps.toList) = true from hb]
          walk_at "mev"
          refine ⟨rfl, rfl, ?_⟩
          rw [e, List.filter_append, List.filter_cons, hb]
          simp
        | false =>
          rw [show decide (c ∈ letters.cps.toList) = false from hb]
          walk_at "mev"
          have hf := List.length_filter_le (fun c => !isLetter c) (x.cps.toList.take n)
          rw [List.length_take] at hf
          refine kl_I rfl rfl (by rw [List.length_map, List.length_map]; omega) ⟨rfl, ?_⟩
          rw [e, List.filter_append, List.filter_cons, hb]
          simp [sign]
      · rintro acc ρ' ⟨rfl, rfl⟩
        show WE (.ok (.fr (.lst (sL (((x.cps.toList.take (x.cps.toList.map sign).length).filter fun c => !isLetter c).map fun c => (⟨#[c]⟩ : Str))))) [.im false (.str x), .no]) _
        rw [List.length_map, List.take_length]
        walk_at "mev"
        rw [show ([] : List Py) = sL [] from rfl, v_eqS (fun y hy => by
          obtain ⟨c, hc, rfl⟩ := List.mem_map.mp hy
          exact sign_ok (List.mem_filter.mp hc).1 o) (fun y hy => by cases hy)]
        walk_at "mev"
        unfold isName
        rw [decide_eq_true (p := 1 ≤ x.length) (by omega), decide_eq_true (p := x.length ≤ 4) (by omega), Bool.true_and, Bool.true_and]
        have e : decide (((x.cps.toList.filter fun c => !isLetter c).map fun c => (⟨#[c]⟩ : Str)) = []) = x.cps.toList.all isLetter := by
          cases hb : x.cps.toList.all isLetter with
          | true => exact decide_eq_true (not_letters.mpr hb)
          | false => exact decide_eq_false fun z => by rw [not_letters.mp z] at hb; cases hb
        rw [e]
    · rw [decide_eq_false h2]
      walk_at "mev"
      unfold isName
      rw [decide_eq_false (p := x.length ≤ 4) (by omega), Bool.false_and, Bool.and_false]
  · have h1 := of_decide_eq_false h1
    walk_at "mev"
    unfold isName
    rw [decide_eq_false (by omega), Bool.false_and]
/-! ### the names of a path -/
def slash : Str := "/"
def parts (x : Str) : List Str := Txt.split x slash
def dueP (x : Str) : Option (List Str) := if x = slash then some [] else if (parts x)[0]? = some ("" : Str) ∧ 2 ≤ (parts x).length ∧ (parts x).length ≤ 7 ∧ ((parts x).drop 1).all isName = true then some ((parts x).drop 1) else none
/-- a text that may be looked at -/
structure Fit (x : Str) : Prop where
  len : x.length + 2 ≤ 16777216
  ok : PyData.strOk x = true
  oks : Oks (parts x)
  ne : parts x ≠ []
  each : ∀ y ∈ parts x, y.length ≤ 16777216
theorem cut_1 {l : List Py} : cutA l (some 1) none = l.drop 1 := by
  unfold cutA
  show (l.drop (if (1 : Int) < 0 then ((1 : Int) + (l.length : Int)).toNat else min (1 : Int).toNat l.length)).take (l.length - (if (1 : Int) < 0 then ((1 : Int) + (l.length : Int)).toNat else min (1 : Int).toNat l.length)) = _
  rw [if_neg (by decide)]
  show (l.drop (min 1 l.length)).take (l.length - min 1 l.length) = l.drop 1
  cases l with
  | nil => rfl
  | cons a l =>
    rw [show min 1 (a :: l).length = 1 by rw [List.length_cons]; omega]
    exact List.take_of_length_le (by rw [List.length_drop]; exact Nat.le_refl _)
theorem w_is_name {ρ : Rho} {rs : List Rv} {x : Str} {K : ER → Prop} (hd : dats ρ rs = some [.str x]) (h : x.length ≤ 16777216) (k : WE (.ok (.im (.bl (isName x))) (frz ρ rs)) K) : WE (callR m_is_name ρ rs) K := by
  have p : Pure m_is_name [.str x] (.im (.bl (isName x))) := ⟨rfl, run_is_name h⟩
  rw [call_pure p hd]
  exact k
theorem v_split {x : Str} (h : x.length + 2 ≤ 16777216) : fSplit x (.str slash) = .fr (.lst (sL (parts x))) := if_pos ⟨by decide +kernel, h⟩
theorem c_slash : (Py.str "/") = .str slash := rfl
theorem run_names {x : Str} (f : Fit x) (K : DR → Prop) (h1 : ∀ l, dueP x = some l → K (.ok (.fr (.lst (sL l))) [.no])) (h2 : dueP x = none → K (.ex 0 (.str x) [.no])) : K (m_names_of.run [.im false (.str x)]) := by
  refine w_run ?_
  simp only [m_names_of, c_slash]
  walk_at "mev"
  rw [v_isTy ty_str, show isB "str" "str" = true from rfl]
  walk_at "mev"
  rw [v_eqZ f.ok (by decide +kernel)]
  walk_at "mev"
  refine wc_ifS (fun e => ?_) (fun e => ?_)
  · have e := of_decide_eq_true e
    walk_at "mev"
    exact h1 [] (by unfold dueP; rw [if_pos e])
  · have e := of_decide_eq_false e
    walk_at "mev"
    rw [v_split f.len]
    walk_at "mev"
    obtain ⟨y0, tl, ep⟩ : ∃ y0 tl, parts x = y0 :: tl := by
      cases h : parts x with
      | nil => exact absurd h f.ne
      | cons a l => exact ⟨a, l, rfl⟩
    have o0 : PyData.strOk y0 = true := f.oks y0 (by rw [ep]; exact List.mem_cons_self ..)
    have hlen : (sL (parts x)).length = (parts x).length := List.length_map ..
    rw [show pyAt (sL (parts x)) 0 = .im (.str y0) by rw [ep]; exact at0]
    walk_at "mev"
    rw [show (Py.str (Str.ofString "")) = .str ("" : Str) from rfl, v_neZ o0 (by decide +kernel)]
    have no : ∀ (P : Prop), (dueP x = none → P) → (¬ (y0 = ("" : Str) ∧ 2 ≤ (parts x).length ∧ (parts x).length ≤ 7 ∧ ((parts x).drop 1).all isName = true)) → P := fun P hp hn => hp (by
      unfold dueP
      rw [if_neg e, if_neg]
      rintro ⟨q1, q2⟩
      refine hn ⟨?_, q2⟩
      rw [ep] at q1
      exact Option.some.inj q1)
    by_cases hy : y0 = ("" : Str)
    · rw [decide_eq_true hy]
      walk_at "mev"
      rw [hlen]
      refine wc_ch3 (fun c1 => ?_) (fun c1 => ?_)
      · have c1 := of_decide_eq_true c1
        walk_at "mev"
        by_cases c2 : ((parts x).length : Int) ≤ 6 + 1
        · rw [decide_eq_true c2]
          walk_at "mev"
          rw [cut_1, show (sL (parts x)).drop 1 = sL ((parts x).drop 1) from List.map_drop.symm]
          refine wc_for (P := fun n ρ => ∃ o, ρ = [.im false (.str x), .ow false (.lst (sL (parts x))), fS o] ∧ ∀ y ∈ ((parts x).drop 1).take n, isName y = true) ⟨none, rfl, fun y h => by cases h⟩ ?_ ?_
          · rintro n d ρ' hd ⟨o, rfl, hn⟩
            obtain ⟨y, hy2, rfl⟩ : ∃ y, ((parts x).drop 1)[n]? = some y ∧ d = .str y := by
              rw [List.getElem?_map] at hd
              cases e2 : ((parts x).drop 1)[n]? with
              | none => rw [e2] at hd; cases hd
              | some y => rw [e2] at hd; exact ⟨y, rfl, (Option.some.inj hd).symm⟩
            have hm : y ∈ (parts x).drop 1 := List.mem_of_getElem? hy2
            walk_at "mev"
            refine w_is_name rfl (f.each y (List.mem_of_mem_drop hm)) ?_
            walk_at "mev"
            cases hb : isName y with
            | true =>
              walk_at "mev"
              refine ⟨some (false, .str y), rfl, fun z hz => ?_⟩
              rw [List.take_succ, hy2] at hz
              rcases List.mem_append.mp hz with hz | hz
              · exact hn z hz
              · have : z = y := by simpa using hz
                rw [this]; exact hb
            | false =>
              walk_at "mev"
              refine no _ h2 fun q => ?_
              have := List.all_eq_true.mp q.2.2.2 y hm
              rw [hb] at this
              cases this
          · rintro ρ' ⟨o, rfl, hn⟩
            rw [show (sL ((parts x).drop 1)).length = ((parts x).drop 1).length from List.length_map .., List.take_length] at hn
            walk_at "mev"
            rw [cut_1, show (sL (parts x)).drop 1 = sL ((parts x).drop 1) from List.map_drop.symm]
            walk_at "mev"
            refine h1 _ ?_
            unfold dueP
            rw [if_neg e, if_pos ⟨by rw [ep, hy]; rfl, by omega, by omega, List.all_eq_true.mpr hn⟩]
        · rw [decide_eq_false c2]
          walk_at "mev"
          exact no _ h2 fun q => by omega
      · have c1 := of_decide_eq_false c1
        walk_at "mev"
        exact no _ h2 fun q => by omega
    · rw [decide_eq_false hy]
      walk_at "mev"
      exact no _ h2 fun q => hy q.1
/-! ### the names that the law finds -/
theorem w_law_name {ρ : Rho} {rs : List Rv} {x : Str} {K : ER → Prop} (hd : dats ρ rs = some [.str x]) (h : x.length ≤ 16777216) (o : PyData.strOk x = true) (k : WE (.ok (.im (.bl (isName x))) (frz ρ rs)) K) : WE (callR m__law_is_name ρ rs) K := by
  have p : Pure m__law_is_name [.str x] (.im (.bl (isName x))) := ⟨rfl, run_law_name h o⟩
  rw [call_pure p hd]
  exact k
def dueR (x : Str) : Rv := match dueP x with
  | some l => .fr (.lst (sL l))
  | none => .im .non
theorem run_due {x : Str} (f : Fit x) : m__law_due.run [.im false (.str x)] = .ok (dueR x) [.no] := by
  refine w_run (K := fun D => D = .ok (dueR x) [.no]) ?_
  simp only [m__law_due, c_slash]
  walk_at "mev"
  rw [v_eqZ f.ok (by decide +kernel)]
  walk_at "mev"
  refine wc_ifS (fun e => ?_) (fun e => ?_)
  · have e := of_decide_eq_true e
    walk_at "mev"
    unfold dueR dueP
    rw [if_pos e]
    rfl
  · have e := of_decide_eq_false e
    walk_at "mev"
    rw [v_split f.len]
    walk_at "mev"
    obtain ⟨y0, tl, ep⟩ : ∃ y0 tl, parts x = y0 :: tl := by
      cases h : parts x with
      | nil => exact absurd h f.ne
      | cons a l => exact ⟨a, l, rfl⟩
    have o0 : PyData.strOk y0 = true := f.oks y0 (by rw [ep]; exact List.mem_cons_self ..)
    have hlen : (sL (parts x)).length = (parts x).length := List.length_map ..
    rw [hlen]
    have no : (¬ (y0 = ("" : Str) ∧ 2 ≤ (parts x).length ∧ (parts x).length ≤ 7 ∧ ((parts x).drop 1).all isName = true)) → dueR x = .im .non := fun hn => by
      unfold dueR dueP
      rw [if_neg e, if_neg]
      rintro ⟨q1, q2⟩
      refine hn ⟨?_, q2⟩
      rw [ep] at q1
      exact Option.some.inj q1
    by_cases c1 : ((parts x).length : Int) < 2
    · rw [decide_eq_true c1]
      walk_at "mev"
      rw [no fun q => by omega]
    · rw [decide_eq_false c1]
      walk_at "mev"
      rw [hlen]
      by_cases c2 : (7 : Int) < (parts x).length
      · rw [decide_eq_true c2]
        walk_at "mev"
        rw [no fun q => by omega]
      · rw [decide_eq_false c2]
        walk_at "mev"
        rw [show pyAt (sL (parts x)) 0 = .im (.str y0) by rw [ep]; exact at0]
        walk_at "mev"
        rw [show (Py.str (Str.ofString "")) = .str ("" : Str) from rfl, v_neZ o0 (by decide +kernel)]
        by_cases hy : y0 = ("" : Str)
        · rw [decide_eq_true hy]
          walk_at "mev"
          rw [cut_1, show (sL (parts x)).drop 1 = sL ((parts x).drop 1) from List.map_drop.symm]
          refine wc_lc (P := fun n acc ρ => ρ = [.im false (.str x), .ow false (.lst (sL (parts x))), .no] ∧ acc = sL ((((parts x).drop 1).take n).filter fun y => !isName y)) rfl ⟨rfl, rfl⟩ ?_ ?_
          · rintro n d acc ρ' hd ⟨rfl, rfl⟩
            obtain ⟨y, hy2, rfl⟩ : ∃ y, ((parts x).drop 1)[n]? = some y ∧ d = .str y := by
              rw [List.getElem?_map] at hd
              cases e2 : ((parts x).drop 1)[n]? with
              | none => rw [e2] at hd; cases hd
              | some y => rw [e2] at hd; exact ⟨y, rfl, (Option.some.inj hd).symm⟩
            have hm : y ∈ (parts x).drop 1 := List.mem_of_getElem? hy2
            have hn : n < ((parts x).drop 1).length := (List.getElem?_eq_some_iff.mp hy2).1
            have et : ((parts x).drop 1).take (n + 1) = ((parts x).drop 1).take n ++ [y] := by rw [List.take_succ, hy2]; rfl
            rw [List.length_drop] at hn
            walk_at "mev"
            refine w_law_name rfl (f.each y (List.mem_of_mem_drop hm)) (f.oks y (List.mem_of_mem_drop hm)) ?_
            walk_at "mev"
            cases hb : isName y with
            | true =>
              walk_at "mev"
              refine ⟨rfl, rfl, ?_⟩
              rw [et, List.filter_append, List.filter_cons, hb]
              simp
            | false =>
              walk_at "mev"
              have hf := List.length_filter_le (fun y => !isName y) (((parts x).drop 1).take n)
              rw [List.length_take] at hf
              refine kl_I rfl rfl (by rw [List.length_map]; omega) ⟨rfl, ?_⟩
              rw [et, List.filter_append, List.filter_cons, hb]
              simp
          · rintro acc ρ' ⟨rfl, rfl⟩
            show WE (.ok (.fr (.lst (sL ((((parts x).drop 1).take (sL ((parts x).drop 1)).length).filter fun y => !isName y)))) [.im false (.str x), .ow false (.lst (sL (parts x))), .no]) _
            rw [show (sL ((parts x).drop 1)).length = ((parts x).drop 1).length from List.length_map .., List.take_length]
            walk_at "mev"
            rw [show ([] : List Py) = sL [] from rfl, v_eqS (fun y hy3 => f.oks y (List.mem_of_mem_drop (List.mem_filter.mp hy3).1)) (fun y hy3 => by cases hy3)]
            walk_at "mev"
            cases hb : ((parts x).drop 1).all isName with
            | true =>
              rw [decide_eq_true (by rw [List.filter_eq_nil_iff]; intro y hy3; rw [List.all_eq_true.mp hb y hy3]; decide)]
              walk_at "mev"
              rw [cut_1, show (sL (parts x)).drop 1 = sL ((parts x).drop 1) from List.map_drop.symm]
              walk_at "mev"
              unfold dueR dueP
              rw [if_neg e, if_pos ⟨by rw [ep, hy]; rfl, by omega, by omega, hb⟩]
            | false =>
              rw [decide_eq_false (fun z => by
                rw [List.filter_eq_nil_iff] at z
                have : ((parts x).drop 1).all isName = true := List.all_eq_true.mpr fun y hy3 => by
                  have := z y hy3
                  simpa using this
                rw [hb] at this
                cases this)]
              walk_at "mev"
              rw [no fun q => by rw [hb] at q; cases q.2.2.2]
        · rw [decide_eq_false hy]
          walk_at "mev"
          rw [no fun q => hy q.1]
/-! ### a call that raises -/
theorem call_ex {ρ : Rho} {m : DM} {args : List Py} {c : Nat} {w : Py} {rs : List Rv} (hi : m.ios = (args.map fun _ => false)) (h : m.run (args.map (Sl.im false)) = .ex c w (args.map fun _ => .no)) (hd : dats ρ rs = some args) : callR m ρ rs = .ex c w (frz ρ rs) := by
  unfold callR
  rw [hi, frzI_pure hd]
  have hd2 : dats (frz ρ rs) rs = some args := dats_frz.trans hd
  rw [argSls_pure hd2]
  show (if (ioIxs (args.map fun _ => false) rs).Nodup then (match m.run (args.map (Sl.im false)) with | .ok r os => ER.ok r (putU (frz ρ rs) (ups (args.map fun _ => false) rs os)) | .ex c w os => .ex c w (putU (frz ρ rs) (ups (args.map fun _ => false) rs os)) | .st => .st) else .st) = _
  rw [h, ioIxs_pure, if_pos List.nodup_nil]
  show ER.ex c w (putU (frz ρ rs) (ups (args.map fun _ => false) rs _)) = _
  rw [ups_pure]
  rfl
theorem w_names {ρ : Rho} {rs : List Rv} {x : Str} {K : ER → Prop} (f : Fit x) (hd : dats ρ rs = some [.str x]) (k1 : ∀ l, dueP x = some l → WE (.ok (.fr (.lst (sL l))) (frz ρ rs)) K) (k2 : dueP x = none → WE (.ex 0 (.str x) (frz ρ rs)) K) : WE (callR m_names_of ρ rs) K := by
  refine run_names f (fun D => D = m_names_of.run [.im false (.str x)] → WE (callR m_names_of ρ rs) K) (fun l h e => ?_) (fun h e => ?_) rfl
  · have p : Pure m_names_of [.str x] (.fr (.lst (sL l))) := ⟨rfl, e.symm⟩
    rw [call_pure p hd]
    exact k1 l h
  · rw [call_ex (args := [.str x]) rfl e.symm hd]
    exact k2 h
/-- what is no text is refused -/
theorem run_odd {d : Py} {s : String} (ht : tyOfD d = some s) (hs : isB "str" s = false) : m_names_of.run [.im false d] = .ex 0 d [.no] := by
  refine w_run (K := fun D => D = .ex 0 d [.no]) ?_
  simp only [m_names_of]
  walk_at "mev"
  rw [v_isTy ht, hs]
  walk_at "mev"
theorem run_refused {d : Py} (hn : m_names_of.run [.im false d] = .ex 0 d [.no]) (he : pyEq d d = .im (.bl true)) : m__law_is_refused.run [.im false d] = .ok (.im (.bl true)) [.no] := by
  refine w_run (K := fun D => D = .ok (.im (.bl true)) [.no]) ?_
  simp only [m__law_is_refused]
  walk_at "mev"
  rw [call_ex (args := [d]) rfl hn rfl]
  walk_at "mev"
  rw [wm_tryX (ρ2 := [.im false d, .no]) (by decide) (by decide) rfl]
  walk_at "mev"
  rw [he]
  walk_at "mev"
  rw [show is_Refused 0 = true from rfl, show is_BadName_NoName 0 = false from rfl]
  walk_at "mev"
/-! ### the law of one text -/
theorem refused_str {x : Str} (f : Fit x) (h : dueP x = none) : m_names_of.run [.im false (.str x)] = .ex 0 (.str x) [.no] :=
  run_names f (fun D => D = .ex 0 (.str x) [.no]) (fun l e => by rw [h] at e; cases e) (fun _ => rfl)
theorem w_due {ρ : Rho} {rs : List Rv} {x : Str} {K : ER → Prop} (f : Fit x) (hd : dats ρ rs = some [.str x]) (k : WE (.ok (dueR x) (frz ρ rs)) K) : WE (callR m__law_due ρ rs) K := by
  have p : Pure m__law_due [.str x] (dueR x) := ⟨rfl, run_due f⟩
  rw [call_pure p hd]
  exact k
theorem w_refused {ρ : Rho} {rs : List Rv} {d : Py} {K : ER → Prop} (hd : dats ρ rs = some [d]) (hn : m_names_of.run [.im false d] = .ex 0 d [.no]) (he : pyEq d d = .im (.bl true)) (k : WE (.ok (.im (.bl true)) (frz ρ rs)) K) : WE (callR m__law_is_refused ρ rs) K := by
  have p : Pure m__law_is_refused [d] (.im (.bl true)) := ⟨rfl, run_refused hn he⟩
  rw [call_pure p hd]
  exact k
theorem due_oks {x : Str} (f : Fit x) {l : List Str} (h : dueP x = some l) : Oks l ∧ l.length ≤ 7 := by
  unfold dueP at h
  by_cases e : x = slash
  · rw [if_pos e] at h
    cases h
    exact ⟨fun y hy => (by cases hy), by decide⟩
  · rw [if_neg e] at h
    by_cases q : (parts x)[0]? = some ("" : Str) ∧ 2 ≤ (parts x).length ∧ (parts x).length ≤ 7 ∧ ((parts x).drop 1).all isName = true
    · rw [if_pos q] at h
      cases h
      exact ⟨fun y hy => f.oks y (List.mem_of_mem_drop hy), by rw [List.length_drop]; omega⟩
    · rw [if_neg q] at h
      cases h
theorem run_right {x : Str} (f : Fit x) : m__law_is_right.run [.im false (.str x)] = .ok (.im (.bl true)) [.no] := by
  refine w_run (K := fun D => D = .ok (.im (.bl true)) [.no]) ?_
  simp only [m__law_is_right]
  walk_at "mev"
  refine w_due f rfl ?_
  cases h : dueP x with
  | none =>
    rw [show dueR x = .im .non by unfold dueR; rw [h]]
    walk_at "mev"
    rw [v_isN, nn_non]
    walk_at "mev"
    refine w_refused rfl (refused_str f h) (by rw [v_eqZ f.ok f.ok, decide_eq_true rfl]) ?_
    walk_at "mev"
  | some l =>
    rw [show dueR x = .fr (.lst (sL l)) by unfold dueR; rw [h]]
    walk_at "mev"
    rw [v_isN, nn_lst]
    walk_at "mev"
    refine w_names f rfl (fun l2 h2 => ?_) (fun h2 => by rw [h] at h2; cases h2)
    rw [h] at h2
    cases h2
    walk_at "mev"
    rw [v_neS (due_oks f h).1 (due_oks f h).1, decide_eq_true rfl]
    walk_at "mev"
    rw [v_isTy (s := "list") rfl, show isB "list" "list" = true from rfl]
    walk_at "mev"
    have hl : (sL l).length ≤ 7 := by rw [show (sL l).length = l.length from List.length_map ..]; exact (due_oks f h).2
    walk_at "mev"
    refine w_names f rfl (fun l2 h2 => ?_) (fun h2 => by rw [h] at h2; cases h2)
    rw [h] at h2
    cases h2
    walk_at "mev"
    rw [v_eqS (due_oks f h).1 (due_oks f h).1, decide_eq_true rfl]
    walk_at "mev"
/-! ### what a split text is made of -/
theorem spl_of (S : List Nat) : ∀ (l : List Nat) (k : Nat) (acc : List Nat), TL.spl S k acc l ≠ [] ∧ ∀ p ∈ TL.spl S k acc l, (∀ c ∈ p, c ∈ acc ∨ c ∈ l) ∧ p.length ≤ acc.length + l.length
  | [], k, acc => by
    rw [show TL.spl S k acc [] = [acc] by cases k <;> rfl]
    refine ⟨by simp, fun p hp => ?_⟩
    rw [List.mem_singleton.mp hp]
    exact ⟨fun c h => .inl h, by simp⟩
  | c :: r, 0, acc => by
    show (if TL.pre S (c :: r) = true then acc :: TL.spl S (S.length - 1) [] r else TL.spl S 0 (acc ++ [c]) r) ≠ [] ∧ ∀ p ∈ (if TL.pre S (c :: r) = true then acc :: TL.spl S (S.length - 1) [] r else TL.spl S 0 (acc ++ [c]) r), _
    by_cases h : TL.pre S (c :: r) = true
    · rw [if_pos h]
      refine ⟨by simp, fun p hp => ?_⟩
      rcases List.mem_cons.mp hp with rfl | hp
      · exact ⟨fun c h => .inl h, by omega⟩
      · obtain ⟨q1, q2⟩ := (spl_of S r (S.length - 1) []).2 p hp
        refine ⟨fun c h => ?_, by simp only [List.length_nil, List.length_cons] at q2 ⊢; omega⟩
        rcases q1 c h with z | z
        · cases z
        · exact .inr (List.mem_cons_of_mem _ z)
    · rw [if_neg h]
      refine ⟨(spl_of S r 0 (acc ++ [c])).1, fun p hp => ?_⟩
      obtain ⟨q1, q2⟩ := (spl_of S r 0 (acc ++ [c])).2 p hp
      refine ⟨fun d h => ?_, by simp only [List.length_append, List.length_nil, List.length_cons] at q2 ⊢; omega⟩
      rcases q1 d h with z | z
      · rcases List.mem_append.mp z with z | z
        · exact .inl z
        · rw [List.mem_singleton.mp z]; exact .inr (List.mem_cons_self ..)
      · exact .inr (List.mem_cons_of_mem _ z)
  | _ :: r, k + 1, acc => by
    show TL.spl S k acc r ≠ [] ∧ ∀ p ∈ TL.spl S k acc r, _
    refine ⟨(spl_of S r k acc).1, fun p hp => ?_⟩
    obtain ⟨q1, q2⟩ := (spl_of S r k acc).2 p hp
    exact ⟨fun c h => (q1 c h).imp id (List.mem_cons_of_mem _), by rw [List.length_cons]; omega⟩
theorem fit_of {x : Str} (h : x.length + 2 ≤ 16777216) (o : PyData.strOk x = true) : Fit x := by
  have e := TL.split_spl x slash (by decide +kernel) (TL.kind_ok (by decide +kernel))
  have q := spl_of (TL.tl slash) (TL.tl x) 0 []
  rw [← e] at q
  have mem : ∀ y ∈ parts x, (∀ c ∈ TL.tl y, c ∈ TL.tl x) ∧ (TL.tl y).length ≤ (TL.tl x).length := fun y hy => by
    obtain ⟨q1, q2⟩ := q.2 (TL.tl y) (List.mem_map_of_mem hy)
    exact ⟨fun c hc => (q1 c hc).elim (fun z => by cases z) id, by simpa using q2⟩
  refine ⟨h, o, fun y hy => ?_, fun z => ?_, fun y hy => ?_⟩
  · have m := (mem y hy).1
    unfold PyData.strOk at o ⊢
    rw [Array.all_eq_true'] at o ⊢
    intro c hc
    exact o c (Array.mem_def.mpr (m c (Array.mem_def.mp hc)))
  · have z2 : Txt.split x slash = [] := z
    rw [z2] at q
    exact q.1 rfl
  · have m := (mem y hy).2
    have m2 : y.length ≤ x.length := m
    omega
/-! ### short texts -/
structure Short (k : Nat) (x : Str) : Prop where
  len : x.length ≤ k
  ok : PyData.strOk x = true
theorem ok_iff {x : Str} : PyData.strOk x = true ↔ ∀ c ∈ TL.tl x, c < 1114112 := by
  unfold PyData.strOk
  rw [Array.all_eq_true']
  constructor
  · intro h c hc
    have := h c (Array.mem_def.mpr hc)
    simpa using this
  · intro h c hc
    have := h c (Array.mem_def.mp hc)
    simpa using this
theorem joinL_of (S : List Nat) (k : Nat) (hS : S.length ≤ 1) (hc : ∀ c ∈ S, c < 1114112) : ∀ ps : List (List Nat), (∀ p ∈ ps, p.length ≤ k ∧ ∀ c ∈ p, c < 1114112) → (TL.joinL S ps).length ≤ ps.length * (k + 1) ∧ ∀ c ∈ TL.joinL S ps, c < 1114112
  | [], _ => ⟨Nat.zero_le _, fun c h => by cases h⟩
  | [p], h => by
    obtain ⟨h1, h2⟩ := h p (List.mem_cons_self ..)
    exact ⟨by show p.length ≤ 1 * (k + 1); omega, h2⟩
  | p :: q :: r, h => by
    obtain ⟨h1, h2⟩ := h p (List.mem_cons_self ..)
    obtain ⟨i1, i2⟩ := joinL_of S k hS hc (q :: r) fun z hz => h z (List.mem_cons_of_mem _ hz)
    refine ⟨?_, fun c hcm => ?_⟩
    · show (p ++ (S ++ TL.joinL S (q :: r))).length ≤ ((q :: r).length + 1) * (k + 1)
      rw [List.length_append, List.length_append, Nat.add_mul]
      omega
    · have hcm : c ∈ p ++ (S ++ TL.joinL S (q :: r)) := hcm
      rcases List.mem_append.mp hcm with z | z
      · exact h2 c z
      · rcases List.mem_append.mp z with z | z
        · exact hc c z
        · exact i2 c z
theorem join_short {a : Str} {ys : List Str} {k : Nat} (ha : Short 1 a) (h : ∀ y ∈ ys, Short k y) : Short (ys.length * (k + 1)) (Txt.join a ys) := by
  have q := joinL_of (TL.tl a) k ha.len (ok_iff.mp ha.ok) (ys.map TL.tl) fun p hp => by
    obtain ⟨y, hy, rfl⟩ := List.mem_map.mp hp
    exact ⟨(h y hy).len, ok_iff.mp (h y hy).ok⟩
  have e : TL.tl (Txt.join a ys) = TL.joinL (TL.tl a) (ys.map TL.tl) := by rw [TL.join_eq]; exact TL.tl_join a ys
  rw [← e, List.length_map] at q
  exact ⟨q.1, ok_iff.mpr q.2⟩
theorem app_short {x y : Str} {j k : Nat} (hx : Short j x) (hy : Short k y) : Short (j + k) (x ++ y) := by
  have e : TL.tl (x ++ y) = TL.tl x ++ TL.tl y := by
    show (x.cps ++ y.cps).toList = _
    rw [Array.toList_append]
  refine ⟨?_, ok_iff.mpr fun c hc => ?_⟩
  · show (TL.tl (x ++ y)).length ≤ j + k
    rw [e, List.length_append]
    have := hx.len
    have := hy.len
    exact Nat.add_le_add hx.len hy.len
  · rw [e] at hc
    rcases List.mem_append.mp hc with z | z
    · exact ok_iff.mp hx.ok c z
    · exact ok_iff.mp hy.ok c z
/-! ### what is drawn -/
theorem strs_sL : ∀ ys : List Str, strsOf (sL ys) = some ys
  | [] => rfl
  | y :: ys => by
    show (strsOf (sL ys)).map (y :: ·) = _
    rw [strs_sL ys]; rfl
theorem sum_le {ys : List Str} {k : Nat} (h : ∀ y ∈ ys, y.length ≤ k) : (ys.map (·.length)).sum ≤ ys.length * k := by
  induction ys with
  | nil => simp
  | cons y ys ih =>
    have h1 := h y (List.mem_cons_self ..)
    have h2 := ih fun z hz => h z (List.mem_cons_of_mem _ hz)
    rw [List.map_cons, List.sum_cons, List.length_cons, Nat.add_mul]
    omega
theorem v_join {a : Str} {ys : List Str} {j k : Nat} (ha : Short j a) (h : ∀ y ∈ ys, Short k y) (hl : ys.length * k + ys.length * j ≤ 16777216) : fJoin a (.lst (sL ys)) = .im (.str (Txt.join a ys)) := by
  show joinO a (strsOf (sL ys)) = _
  rw [strs_sL]
  refine if_pos ?_
  have h1 := sum_le fun y hy => (h y hy).len
  have h2 : ys.length * a.length ≤ ys.length * j := Nat.mul_le_mul_left _ ha.len
  omega
theorem sign_short {c : Nat} (h : c < 1114112) : Short 1 (⟨#[c]⟩ : Str) := ⟨Nat.le_refl 1, ok_iff.mpr fun d hd => by
  have e : d = c := List.mem_singleton.mp hd
  subst e
  exact h⟩
theorem letters_ok : PyData.strOk letters = true := by decide +kernel
theorem ix_str {z : Str} {m : Int} {c : Nat} (hl : z.length ≤ 16777216) (h0 : 0 ≤ m) (h : z.cps.toList[m.toNat]? = some c) : pyIx (.str z) (.int m) = .im (.str ⟨#[c]⟩) := by
  have hlt : m.toNat < z.cps.toList.length := (List.getElem?_eq_some_iff.mp h).1
  show (if z.length ≤ sizeLine then (match atI z.cps.toList m with | some c => OV.im (.str ⟨#[c]⟩) | none => .st) else .st) = _
  refine (if_pos (show z.length ≤ sizeLine from hl)).trans ?_
  unfold atI ixN
  rw [if_pos h0, if_pos (by omega)]
  show (match z.cps.toList[m.toNat]? with | some c => OV.im (.str ⟨#[c]⟩) | none => .st) = _
  rw [h]
theorem ix_letters {r : Int} (h0 : 0 ≤ r) (h1 : r < 26) : ∃ c, pyIx (.str letters) (.int r) = .im (.str ⟨#[c]⟩) ∧ Short 1 (⟨#[c]⟩ : Str) := by
  have hl : letters.cps.toList.length = 26 := by decide +kernel
  have hr : r.toNat < letters.cps.toList.length := by omega
  exact ⟨letters.cps.toList[r.toNat], ix_str (by decide +kernel) h0 (List.getElem?_eq_getElem hr), sign_short (ok_iff.mp letters_ok _ (List.getElem_mem hr))⟩
theorem Short.up {j k : Nat} {x : Str} (h : Short j x) (hk : j ≤ k) : Short k x := ⟨Nat.le_trans h.len hk, h.ok⟩
theorem mem_sL {l : List Str} {x : Py} (h : x ∈ sL l) : ∃ y ∈ l, x = .str y := by
  obtain ⟨y, hy, e⟩ := List.mem_map.mp h
  exact ⟨y, hy, e.symm⟩
theorem empty_short : Short 0 ("" : Str) := ⟨by decide +kernel, by decide +kernel⟩
def bads : List Str := ["", "abcde", "A", "a1", "a b", "aB", ".", "a@b", "zzzzz", " a"]
def heads : List Str := ["/", "/", "/", "/", "", "//"]
def tails : List Str := ["", "", "", "", "", "", "/", " "]
theorem all_short {l : List Str} {k : Nat} (h : (l.all fun y => decide (y.length ≤ k) && PyData.strOk y) = true) : ∀ y ∈ l, Short k y := fun y hy => by
  have q := List.all_eq_true.mp h y hy
  rw [Bool.and_eq_true] at q
  exact ⟨of_decide_eq_true q.1, q.2⟩
theorem bads_short : ∀ y ∈ bads, Short 7 y := all_short (by decide +kernel)
theorem heads_short : ∀ y ∈ heads, Short 2 y := all_short (by decide +kernel)
theorem tails_short : ∀ y ∈ tails, Short 1 y := all_short (by decide +kernel)
theorem v_addZ {x y : Str} (h : x.length + y.length ≤ 16777216) : pyAdd (.str x) (.str y) = .im (.str (x ++ y)) := if_pos h
theorem joinL_nil : ∀ ps : List (List Nat), TL.joinL [] ps = ps.flatten
  | [] => rfl
  | [p] => by simp [TL.joinL]
  | p :: q :: r => by
    show p ++ ([] ++ TL.joinL [] (q :: r)) = _
    rw [joinL_nil (q :: r), List.nil_append]; simp
theorem flat_le : ∀ {ps : List (List Nat)}, (∀ p ∈ ps, p.length ≤ 1) → ps.flatten.length ≤ ps.length
  | [], _ => Nat.le_refl _
  | p :: ps, h => by
    have h1 := h p (List.mem_cons_self ..)
    have h2 := flat_le fun z hz => h z (List.mem_cons_of_mem _ hz)
    rw [List.flatten_cons, List.length_append, List.length_cons]
    omega
theorem join_empty {cs : List Str} (h : ∀ y ∈ cs, Short 1 y) : (Txt.join ("" : Str) cs).length ≤ cs.length := by
  have e : TL.tl (Txt.join ("" : Str) cs) = TL.joinL (TL.tl ("" : Str)) (cs.map TL.tl) := by rw [TL.join_eq]; exact TL.tl_join _ cs
  rw [show TL.tl ("" : Str) = [] by decide +kernel, joinL_nil] at e
  show (TL.tl (Txt.join ("" : Str) cs)).length ≤ cs.length
  rw [e]
  have := flat_le (ps := cs.map TL.tl) fun p hp => by
    obtain ⟨y, hy, rfl⟩ := List.mem_map.mp hp
    exact (h y hy).len
  rwa [List.length_map] at this
theorem sL_snoc {ys : List Str} {y : Str} : sL ys ++ [Py.str y] = sL (ys ++ [y]) := by
  show List.map Py.str ys ++ [Py.str y] = List.map Py.str (ys ++ [y])
  rw [List.map_append]; rfl
/-! ### the text that is drawn -/
theorem c_empty : (Py.str "") = .str ("" : Str) := rfl
theorem run_text {d : Py} (hd : Src d) (K : DR → Prop) (k : ∀ (x : Str) (d' : Py), Short 100 x → Src d' → K (.ok (.im (.str x)) [.ow true d'])) : K (m__law_text.run [.ow true d]) := by
  refine w_run ?_
  simp only [m__law_text, c_letters, c_slash]
  walk_at "mev"
  refine w_take rfl hd (by omega) (by omega) fun r d1 h1 h2 hs1 => ?_
  walk_at "mev"
  refine wc_for (P := fun n ρ => ∃ d' ws o2 o3 o4 o5, ρ = [.ow true d', .ow false (.lst (sL ws)), fS o2, fS o3, fS o4, fS o5, .no, .no] ∧ Src d' ∧ ws.length = n ∧ ∀ y ∈ ws, Short 7 y) ⟨d1, [], none, none, none, none, rfl, hs1, rfl, fun y hy => by cases hy⟩ ?_ ?_
  · rintro n e ρ' he ⟨d', ws, o2, o3, o4, o5, rfl, hs, hn, hw⟩
    obtain ⟨hn2, rfl⟩ := rangeL_get _ _ _ _ he
    walk_at "mev"
    refine w_take rfl hs (by omega) (by omega) fun r2 d2 h3 h4 hs2 => ?_
    walk_at "mev"
    refine wc_lc (P := fun m acc ρ => ∃ d' cs, ρ = [.ow true d', .ow false (.lst (sL ws)), .im false (.int (0 + (n : Int))), .im false (.str letters), fS o4, fS o5, .no, .no] ∧ Src d' ∧ acc = sL cs ∧ cs.length = m ∧ ∀ y ∈ cs, Short 1 y) rfl ⟨d2, [], rfl, hs2, rfl, rfl, fun y hy => by cases hy⟩ ?_ ?_
    · rintro m e2 acc ρ' he2 ⟨d', cs, rfl, hs, rfl, hm, hc⟩
      obtain ⟨hm2, rfl⟩ := rangeL_get _ _ _ _ he2
      walk_at "mev"
      refine w_take rfl hs (by omega) (by omega) fun r3 d3 h5 h6 hs3 => ?_
      walk_at "mev"
      obtain ⟨c, hc1, hc2⟩ := ix_letters h5 h6
      rw [hc1]
      walk_at "mev"
      refine kl_I rfl rfl (by rw [List.length_map]; omega) ⟨d3, cs ++ [⟨#[c]⟩], rfl, hs3, sL_snoc, by rw [List.length_append, hm]; rfl, fun y hy => ?_⟩
      rcases List.mem_append.mp hy with z | z
      · exact hc y z
      · rw [List.mem_singleton.mp z]; exact hc2
    · rintro acc ρ' ⟨d', cs, rfl, hs, rfl, hm, hc⟩
      rw [rangeL_len] at hm
      have hm4 : cs.length ≤ 4 := by omega
      show WE (.ok (.fr (.lst (sL cs))) [.ow true d', .ow false (.lst (sL ws)), .im false (.int (0 + (n : Int))), .im false (.str letters), fS o4, fS o5, .no, .no]) _
      walk_at "mev"
      rw [c_empty, v_join (k := 1) (j := 0) empty_short hc (by omega)]
      have hg : Short 7 (Txt.join ("" : Str) cs) := by
        have q := join_short (a := ("" : Str)) (k := 1) (empty_short.up (by omega)) hc
        have q2 := join_empty hc
        exact ⟨by omega, q.ok⟩
      walk_at "mev"
      refine w_one (l := sL bads) rfl hs (by decide) (by decide) fun x d4 hx hs4 => ?_
      obtain ⟨bad, hbad, rfl⟩ := mem_sL hx
      walk_at "mev"
      refine w_take rfl hs4 (by omega) (by omega) fun r4 d5 h7 h8 hs5 => ?_
      walk_at "mev"
      have hl : (sL ws).length ≤ 8 := by rw [List.length_map]; omega
      refine wc_ifE (fun h => ?_) (fun h => ?_)
      · walk_at "mev"
        exact ⟨d5, ws ++ [bad], some (false, _), some (false, _), some (false, _), some (false, _), by rw [sL_snoc]; rfl, hs5, by rw [List.length_append, hn]; rfl, fun y hy => by
          rcases List.mem_append.mp hy with z | z
          · exact hw y z
          · rw [List.mem_singleton.mp z]; exact bads_short _ hbad⟩
      · walk_at "mev"
        exact ⟨d5, ws ++ [Txt.join ("" : Str) cs], some (false, _), some (false, _), some (false, _), some (false, _), by rw [sL_snoc]; rfl, hs5, by rw [List.length_append, hn]; rfl, fun y hy => by
          rcases List.mem_append.mp hy with z | z
          · exact hw y z
          · rw [List.mem_singleton.mp z]; exact hg⟩
  · rintro ρ' ⟨d', ws, o2, o3, o4, o5, rfl, hs, hn, hw⟩
    rw [rangeL_len] at hn
    have hl : ws.length ≤ 8 := by omega
    walk_at "mev"
    refine w_one (l := sL heads) rfl hs (by decide) (by decide) fun x d2 hx hs2 => ?_
    obtain ⟨hh, hhm, rfl⟩ := mem_sL hx
    walk_at "mev"
    have sj : Short 1 slash := ⟨by decide +kernel, by decide +kernel⟩
    rw [v_join (k := 7) sj hw (by omega)]
    have q1 : Short 64 (Txt.join slash ws) := (join_short (k := 7) sj hw).up (by omega)
    walk_at "mev"
    have q2 := app_short (heads_short _ hhm) q1
    rw [v_addZ (by have := q2.len; have := (heads_short _ hhm).len; have := q1.len; omega)]
    walk_at "mev"
    refine w_one (l := sL tails) rfl hs2 (by decide) (by decide) fun x d3 hx hs3 => ?_
    obtain ⟨tt, htm, rfl⟩ := mem_sL hx
    walk_at "mev"
    have q3 := app_short q2 (tails_short _ htm)
    rw [v_addZ (by have := q2.len; have := (tails_short _ htm).len; omega)]
    walk_at "mev"
    exact k _ _ (q3.up (by omega)) hs3
/-! ### the law -/
theorem w_text {ρ : Rho} {i : Nat} {io : Bool} {d : Py} {K : ER → Prop} (ho : ρ[i]? = some (.ow io d)) (hd : Src d) (k : ∀ (x : Str) (d' : Py), Short 100 x → Src d' → WE (.ok (.im (.str x)) (ρ.set i (.ow io d'))) K) : WE (callR m__law_text ρ [.bo i]) K := by
  refine wc_turns (args := []) (P := fun y d' => ∃ x, y = .im (.str x) ∧ Short 100 x ∧ Src d') rfl ?_ rfl ho ?_
  · exact run_text hd (fun D => ∃ x d', (∃ z, x = .im (.str z) ∧ Short 100 z ∧ Src d') ∧ D = .ok x (.ow true d' :: [])) fun x d' h1 h2 => ⟨_, _, ⟨x, rfl, h1, h2⟩, rfl⟩
  · rintro y d' ⟨x, rfl, h1, h2⟩
    exact k x d' h1 h2
theorem w_right {ρ : Rho} {rs : List Rv} {x : Str} {K : ER → Prop} (f : Fit x) (hd : dats ρ rs = some [.str x]) (k : WE (.ok (.im (.bl true)) (frz ρ rs)) K) : WE (callR m__law_is_right ρ rs) K := by
  have p : Pure m__law_is_right [.str x] (.im (.bl true)) := ⟨rfl, run_right f⟩
  rw [call_pure p hd]
  exact k
theorem fit_short {x : Str} {k : Nat} (h : Short k x) (hk : k ≤ 10000) : Fit x := fit_of (by have := h.len; omega) h.ok
theorem eq_me {d : Py} (h : (SeqAt.shaped d.toD && SeqAt.shaped d.toD) = true) (e : PyData.eqv d.toD d.toD = true) : pyEq d d = .im (.bl true) := by
  unfold pyEq
  rw [if_pos h, e]
theorem rep_ab (n : Nat) : (List.replicate n [Py.str "ab"]).flatten = sL (List.replicate n ("ab" : Str)) := by
  induction n with
  | zero => rfl
  | succ n ih => rw [List.replicate_succ, List.flatten_cons, ih]; rfl
theorem v_rep {l : List Py} {m : Int} (h0 : 0 ≤ m) (h1 : m < 1000) (hl : l.length ≤ 1000) : pyMul (.lst l) (.int m) = .fr (.lst (List.replicate m.toNat l).flatten) := if_pos ⟨by omega, by omega, by
  have h2 : m.toNat ≤ 1000 := by omega
  have h3 : l.length * m.toNat ≤ 1000 * 1000 := Nat.mul_le_mul hl h2
  show l.length * m.toNat ≤ 16777216
  omega⟩
theorem ab_short : Short 2 ("ab" : Str) := ⟨by decide +kernel, by decide +kernel⟩
theorem slash_short : Short 1 slash := ⟨by decide +kernel, by decide +kernel⟩
def asked : List Str := ["/", "", "//", "/a/", "a", "/a//b", "/zzzz", "/a/b/c/d/e/f", "/a/b/c/d/e/f/g"]
theorem asked_short : ∀ y ∈ asked, Short 20 y := all_short (by decide +kernel)
theorem cells (n : Nat) : ∃ c : Int, max2 1 (min2 (n : Int) 10) = c ∧ 1 ≤ c ∧ c ≤ 10 := by
  refine ⟨_, rfl, ?_, ?_⟩ <;> (unfold max2 min2; repeat' split) <;> omega
theorem law_run (ns : List Int) (h : ns.length ≤ 63) : ∃ os, m_law.run [.im false (.scr (ns.map Py.int))] = .ok (.im (.bl true)) os := by
  refine w_run (K := fun D => ∃ os, D = .ok (.im (.bl true)) os) ?_
  simp only [m_law]
  show WS _ (kRun [.im false (.scr (iL ns))] _)
  walk_at "mev"
  obtain ⟨c, hc, hc1, hc2⟩ := cells (iL ns).length
  rw [hc]
  walk_at "mev"
  refine wc_for (P := fun n ρ => ∃ o1 o2 o3, ρ = [.im false (.scr (iL ns)), fS o1, fS o2, fS o3]) ⟨none, none, none, rfl⟩ ?_ ?_
  · rintro n d ρ' hd ⟨o1, o2, o3, rfl⟩
    obtain ⟨hn, rfl⟩ := rangeL_get _ _ _ _ hd
    walk_at "mev"
    refine w_pool rfl (by omega) (by omega) fun d0 h0 => ?_
    walk_at "mev"
    refine w_text rfl h0 fun x d1 hx h1 => ?_
    walk_at "mev"
    refine w_right (fit_short hx (by omega)) rfl ?_
    walk_at "mev"
    refine w_take rfl h1 (by omega) (by omega) fun r d2 hr1 hr2 h2 => ?_
    walk_at "mev"
    rw [v_rep (by omega) (by omega) (by decide), rep_ab]
    walk_at "mev"
    have hab : ∀ y ∈ List.replicate (1 + r).toNat ("ab" : Str), Short 2 y := fun y hy => by rw [List.eq_of_mem_replicate hy]; exact ab_short
    have hl : (List.replicate (1 + r).toNat ("ab" : Str)).length ≤ 8 := by rw [List.length_replicate]; omega
    rw [show (Str.ofString "/") = slash from rfl, v_join slash_short hab (by omega)]
    have q1 := (join_short slash_short hab).up (k := 24) (by omega)
    walk_at "mev"
    have q2 := app_short slash_short q1
    rw [v_addZ (by have := slash_short.len; have := q1.len; omega)]
    walk_at "mev"
    refine w_right (fit_short q2 (by omega)) rfl ?_
    walk_at "mev"
    exact ⟨some (false, _), some (true, _), o3, rfl⟩
  · rintro ρ' ⟨o1, o2, o3, rfl⟩
    walk_at "mev"
    show WS (Mr.forM (gN 3) _ (sL asked) _) _
    refine wc_for (P := fun n ρ => ∃ o1 o2 o3, ρ = [.im false (.scr (iL ns)), fS o1, fS o2, fS o3]) ⟨o1, o2, o3, rfl⟩ ?_ ?_
    · rintro n d ρ' hd ⟨o1, o2, o3, rfl⟩
      obtain ⟨y, hy, rfl⟩ := mem_sL (List.mem_of_getElem? hd)
      walk_at "mev"
      refine w_right (fit_short (asked_short y hy) (by omega)) rfl ?_
      walk_at "mev"
      exact ⟨o1, o2, some (false, _), rfl⟩
    · rintro ρ' ⟨o1, o2, o3, rfl⟩
      walk_at "mev"
      refine w_refused rfl (run_odd (d := .non) rfl rfl) (eq_me (by decide +kernel) (by decide +kernel)) ?_
      walk_at "mev"
      refine w_refused rfl (run_odd (d := .int 7) rfl rfl) (eq_me (by decide +kernel) (by decide +kernel)) ?_
      walk_at "mev"
      refine w_refused rfl (run_odd rfl rfl) (eq_me (by decide +kernel) (by decide +kernel)) ?_
      walk_at "mev"
      refine w_refused rfl (run_odd rfl rfl) (eq_me (by decide +kernel) (by decide +kernel)) ?_
      walk_at "mev"
      exact ⟨_, rfl⟩
end Lw
namespace Lw
open PySem PySem.Spec PyProof.Rows L2 Mr
theorem all_mk {l : PySem.W.OpenLaw} {w : World} {K : PySem.W.Frag} {h : Heap} {mg : Str → Option Value} {fa : Addr} (X : K.In h) (G : h.Ns mainGlobals mg) (hfa : mg "law" = some (.ref fa))
  {f_is_name : Addr} {oc_is_name kV_is_name dc_is_name pm_is_name cd_is_name ct_is_name : Value} {od_is_name an_is_name : Option Addr} {sl_is_name : Array (Option Value)}
  {f_names_of : Addr} {oc_names_of kV_names_of dc_names_of pm_names_of cd_names_of ct_names_of : Value} {od_names_of an_names_of : Option Addr} {sl_names_of : Array (Option Value)}
  {f__law_pool : Addr} {oc__law_pool kV__law_pool dc__law_pool pm__law_pool cd__law_pool ct__law_pool : Value} {od__law_pool an__law_pool : Option Addr} {sl__law_pool : Array (Option Value)}
  {f__law_take : Addr} {oc__law_take kV__law_take dc__law_take pm__law_take cd__law_take ct__law_take : Value} {od__law_take an__law_take : Option Addr} {sl__law_take : Array (Option Value)}
  {f__law_one : Addr} {oc__law_one kV__law_one dc__law_one pm__law_one cd__law_one ct__law_one : Value} {od__law_one an__law_one : Option Addr} {sl__law_one : Array (Option Value)}
  {f__law_is_name : Addr} {oc__law_is_name kV__law_is_name dc__law_is_name pm__law_is_name cd__law_is_name ct__law_is_name : Value} {od__law_is_name an__law_is_name : Option Addr} {sl__law_is_name : Array (Option Value)}
  {f__law_due : Addr} {oc__law_due kV__law_due dc__law_due pm__law_due cd__law_due ct__law_due : Value} {od__law_due an__law_due : Option Addr} {sl__law_due : Array (Option Value)}
  {f__law_text : Addr} {oc__law_text kV__law_text dc__law_text pm__law_text cd__law_text ct__law_text : Value} {od__law_text an__law_text : Option Addr} {sl__law_text : Array (Option Value)}
  {f__law_is_refused : Addr} {oc__law_is_refused kV__law_is_refused dc__law_is_refused pm__law_is_refused cd__law_is_refused ct__law_is_refused : Value} {od__law_is_refused an__law_is_refused : Option Addr} {sl__law_is_refused : Array (Option Value)}
  {f__law_is_right : Addr} {oc__law_is_right kV__law_is_right dc__law_is_right pm__law_is_right cd__law_is_right ct__law_is_right : Value} {od__law_is_right an__law_is_right : Option Addr} {sl__law_is_right : Array (Option Value)}
  {f_law : Addr} {oc_law kV_law dc_law pm_law cd_law ct_law : Value} {od_law an_law : Option Addr} {sl_law : Array (Option Value)}
  {t_LETTERS : Tok}
  {t_MOST_LETTERS : Tok}
  {t_MOST_NAMES : Tok}
  {c_Refused : Addr}
  {c_BadName : Addr}
  {c_BadPath : Addr}
  {c_NoName : Addr}
  {fI : Addr} {oc_I dc_I pm_I cd_I ct_I : Value} {od_I an_I : Option Addr} {sl_I : Array (Option Value)}
  {nm_BadPath q_BadPath : Str} {N_BadPath : Addr} {bs_BadPath : List Value} {sn_BadPath : List Str} {sub_BadPath : List Value} {ab_BadPath : Bool} {col_BadPath : Option Bool} {dd_BadPath : Option Addr} {m0_BadPath m1_BadPath m2_BadPath m3_BadPath m5_BadPath : Option Value}
  (a_is_name : PySem.W.nsIn K mainGlobals "is_name" = some (some (.ref f_is_name)))
  (l_is_name : K.lookup f_is_name = some ⟨oc_is_name, od_is_name, .func (PySem.W.fnOf "is_name" "is_name" (defArgs s_is_name) (defBody s_is_name) (defScope s_is_name) .none kV_is_name dc_is_name pm_is_name an_is_name cd_is_name ct_is_name), sl_is_name⟩)
  (c_is_name : PySem.W.codeIn K cd_is_name "is_name" = true)
  (k_is_name : PySem.W.keepIn K (.ref f_is_name) = true)
  (a_names_of : PySem.W.nsIn K mainGlobals "names_of" = some (some (.ref f_names_of)))
  (l_names_of : K.lookup f_names_of = some ⟨oc_names_of, od_names_of, .func (PySem.W.fnOf "names_of" "names_of" (defArgs s_names_of) (defBody s_names_of) (defScope s_names_of) .none kV_names_of dc_names_of pm_names_of an_names_of cd_names_of ct_names_of), sl_names_of⟩)
  (c_names_of : PySem.W.codeIn K cd_names_of "names_of" = true)
  (k_names_of : PySem.W.keepIn K (.ref f_names_of) = true)
  (a__law_pool : PySem.W.nsIn K mainGlobals "_law_pool" = some (some (.ref f__law_pool)))
  (l__law_pool : K.lookup f__law_pool = some ⟨oc__law_pool, od__law_pool, .func (PySem.W.fnOf "_law_pool" "_law_pool" (defArgs s__law_pool) (defBody s__law_pool) (defScope s__law_pool) .none kV__law_pool dc__law_pool pm__law_pool an__law_pool cd__law_pool ct__law_pool), sl__law_pool⟩)
  (c__law_pool : PySem.W.codeIn K cd__law_pool "_law_pool" = true)
  (k__law_pool : PySem.W.keepIn K (.ref f__law_pool) = true)
  (a__law_take : PySem.W.nsIn K mainGlobals "_law_take" = some (some (.ref f__law_take)))
  (l__law_take : K.lookup f__law_take = some ⟨oc__law_take, od__law_take, .func (PySem.W.fnOf "_law_take" "_law_take" (defArgs s__law_take) (defBody s__law_take) (defScope s__law_take) .none kV__law_take dc__law_take pm__law_take an__law_take cd__law_take ct__law_take), sl__law_take⟩)
  (c__law_take : PySem.W.codeIn K cd__law_take "_law_take" = true)
  (k__law_take : PySem.W.keepIn K (.ref f__law_take) = true)
  (a__law_one : PySem.W.nsIn K mainGlobals "_law_one" = some (some (.ref f__law_one)))
  (l__law_one : K.lookup f__law_one = some ⟨oc__law_one, od__law_one, .func (PySem.W.fnOf "_law_one" "_law_one" (defArgs s__law_one) (defBody s__law_one) (defScope s__law_one) .none kV__law_one dc__law_one pm__law_one an__law_one cd__law_one ct__law_one), sl__law_one⟩)
  (c__law_one : PySem.W.codeIn K cd__law_one "_law_one" = true)
  (k__law_one : PySem.W.keepIn K (.ref f__law_one) = true)
  (a__law_is_name : PySem.W.nsIn K mainGlobals "_law_is_name" = some (some (.ref f__law_is_name)))
  (l__law_is_name : K.lookup f__law_is_name = some ⟨oc__law_is_name, od__law_is_name, .func (PySem.W.fnOf "_law_is_name" "_law_is_name" (defArgs s__law_is_name) (defBody s__law_is_name) (defScope s__law_is_name) .none kV__law_is_name dc__law_is_name pm__law_is_name an__law_is_name cd__law_is_name ct__law_is_name), sl__law_is_name⟩)
  (c__law_is_name : PySem.W.codeIn K cd__law_is_name "_law_is_name" = true)
  (k__law_is_name : PySem.W.keepIn K (.ref f__law_is_name) = true)
  (a__law_due : PySem.W.nsIn K mainGlobals "_law_due" = some (some (.ref f__law_due)))
  (l__law_due : K.lookup f__law_due = some ⟨oc__law_due, od__law_due, .func (PySem.W.fnOf "_law_due" "_law_due" (defArgs s__law_due) (defBody s__law_due) (defScope s__law_due) .none kV__law_due dc__law_due pm__law_due an__law_due cd__law_due ct__law_due), sl__law_due⟩)
  (c__law_due : PySem.W.codeIn K cd__law_due "_law_due" = true)
  (k__law_due : PySem.W.keepIn K (.ref f__law_due) = true)
  (a__law_text : PySem.W.nsIn K mainGlobals "_law_text" = some (some (.ref f__law_text)))
  (l__law_text : K.lookup f__law_text = some ⟨oc__law_text, od__law_text, .func (PySem.W.fnOf "_law_text" "_law_text" (defArgs s__law_text) (defBody s__law_text) (defScope s__law_text) .none kV__law_text dc__law_text pm__law_text an__law_text cd__law_text ct__law_text), sl__law_text⟩)
  (c__law_text : PySem.W.codeIn K cd__law_text "_law_text" = true)
  (k__law_text : PySem.W.keepIn K (.ref f__law_text) = true)
  (a__law_is_refused : PySem.W.nsIn K mainGlobals "_law_is_refused" = some (some (.ref f__law_is_refused)))
  (l__law_is_refused : K.lookup f__law_is_refused = some ⟨oc__law_is_refused, od__law_is_refused, .func (PySem.W.fnOf "_law_is_refused" "_law_is_refused" (defArgs s__law_is_refused) (defBody s__law_is_refused) (defScope s__law_is_refused) .none kV__law_is_refused dc__law_is_refused pm__law_is_refused an__law_is_refused cd__law_is_refused ct__law_is_refused), sl__law_is_refused⟩)
  (c__law_is_refused : PySem.W.codeIn K cd__law_is_refused "_law_is_refused" = true)
  (k__law_is_refused : PySem.W.keepIn K (.ref f__law_is_refused) = true)
  (a__law_is_right : PySem.W.nsIn K mainGlobals "_law_is_right" = some (some (.ref f__law_is_right)))
  (l__law_is_right : K.lookup f__law_is_right = some ⟨oc__law_is_right, od__law_is_right, .func (PySem.W.fnOf "_law_is_right" "_law_is_right" (defArgs s__law_is_right) (defBody s__law_is_right) (defScope s__law_is_right) .none kV__law_is_right dc__law_is_right pm__law_is_right an__law_is_right cd__law_is_right ct__law_is_right), sl__law_is_right⟩)
  (c__law_is_right : PySem.W.codeIn K cd__law_is_right "_law_is_right" = true)
  (k__law_is_right : PySem.W.keepIn K (.ref f__law_is_right) = true)
  (a_law : PySem.W.nsIn K mainGlobals "law" = some (some (.ref f_law)))
  (l_law : K.lookup f_law = some ⟨oc_law, od_law, .func (PySem.W.fnOf "law" "law" (defArgs s_law) (defBody s_law) (defScope s_law) .none kV_law dc_law pm_law an_law cd_law ct_law), sl_law⟩)
  (c_law : PySem.W.codeIn K cd_law "law" = true)
  (k_law : PySem.W.keepIn K (.ref f_law) = true)
  (z_LETTERS : PySem.W.nsIn K mainGlobals "LETTERS" = some (some (.str "abcdefghijklmnopqrstuvwxyz" t_LETTERS)))
  (z_MOST_LETTERS : PySem.W.nsIn K mainGlobals "MOST_LETTERS" = some (some (.int 4 t_MOST_LETTERS)))
  (z_MOST_NAMES : PySem.W.nsIn K mainGlobals "MOST_NAMES" = some (some (.int 6 t_MOST_NAMES)))
  (a_Refused : PySem.W.nsIn K mainGlobals "Refused" = some (some (.ref c_Refused)))
  (a_BadName : PySem.W.nsIn K mainGlobals "BadName" = some (some (.ref c_BadName)))
  (a_BadPath : PySem.W.nsIn K mainGlobals "BadPath" = some (some (.ref c_BadPath)))
  (a_NoName : PySem.W.nsIn K mainGlobals "NoName" = some (some (.ref c_NoName)))
  (t_I : PySem.W.typeIn K (.ref fI) = some (.type "function"))
  (l_I : K.lookup fI = some ⟨oc_I, od_I, .func (PySem.W.fnOf "__init__" "Refused.__init__" (PySem.ExX.iA ⟨4, 17, 4, 21⟩ ⟨4, 23, 4, 27⟩) (PySem.ExX.iB ⟨5, 8, 5, 12⟩ ⟨5, 8, 5, 17⟩ ⟨5, 20, 5, 24⟩ ⟨5, 8, 5, 24⟩) PySem.ExX.iS .none .none dc_I pm_I an_I cd_I ct_I), sl_I⟩)
  (c_I : PySem.W.codeIn K cd_I "Refused.__init__" = true)
  (xL_BadPath : K.lookup c_BadPath = some (excClassObj nm_BadPath q_BadPath c_BadPath N_BadPath bs_BadPath [.ref c_Refused, .type "ValueError", .type "Exception", .type "BaseException", .type "object"] true sn_BadPath sub_BadPath ab_BadPath col_BadPath dd_BadPath m0_BadPath m1_BadPath m2_BadPath m3_BadPath m5_BadPath "ValueError.__new__"))
  (sa_BadPath : PySem.W.findIn K (.ref c_BadPath) "__setattr__" = some (some (.builtin "object.__setattr__")))
  (ga_BadPath : PySem.W.findIn K (.ref c_BadPath) "__getattribute__" = some (some (.builtin "BaseException.__getattribute__")))
  (gg_BadPath : PySem.W.findIn K (.ref c_BadPath) "__getattr__" = some none)
  (nb_BadPath : PySem.W.findIn K (.ref c_BadPath) "what" = some none)
  (ai_BadPath : PySem.W.findIn K (.ref c_BadPath) "__init__" = some (some (.ref fI)))
  (kC_BadPath : PySem.W.keepIn K (.ref c_BadPath) = true)
  (eC_BadPath : PySem.W.subIn K (.ref c_BadPath) (.type "BaseException") = some true)
  (tC_BadPath : PySem.W.typeIn K (.ref c_BadPath) = some (.type "type"))
  (hC_BadPath : PySem.W.hasDictIn K c_BadPath = true)
  (iC_BadPath : PySem.W.isClsIn K c_BadPath = true)
  (cA_BadPath : PySem.W.findIn K (.ref c_BadPath) "__class__" = some (some (.builtin "object.__class__")))
  (mO_BadPath : PySem.W.mroIn K c_BadPath (.type "object") = some true)
  (sp_get : PySem.W.specialIn K (.builtin "object.__class__") "__get__" = some (some (.builtin "getset_descriptor.__get__")))
  (tk_cls : PySem.W.takesIn K (.builtin "object.__class__") = some true)
  (m_BadPath_BadPath : PySem.W.exmOne K (.ref c_BadPath) (.ref c_BadPath) = some true)
  (k_BadPath__Refused : PySem.W.kitOne K (.ref c_BadPath) (.ref c_Refused) = some true)
  (k_BadPath__BadName_NoName : PySem.W.kitAny K (.ref c_BadPath) [.ref c_BadName, .ref c_NoName] = some false)
  (z_all : PySem.W.nsIn K mainGlobals "all" = some none)
  (z_int : PySem.W.nsIn K mainGlobals "int" = some none)
  (z_isinstance : PySem.W.nsIn K mainGlobals "isinstance" = some none)
  (z_len : PySem.W.nsIn K mainGlobals "len" = some none)
  (z_list : PySem.W.nsIn K mainGlobals "list" = some none)
  (z_max : PySem.W.nsIn K mainGlobals "max" = some none)
  (z_min : PySem.W.nsIn K mainGlobals "min" = some none)
  (z_range : PySem.W.nsIn K mainGlobals "range" = some none)
  (z_str : PySem.W.nsIn K mainGlobals "str" = some none) :
    ∃ fd : FuncData, (∀ (s : Shared) (v : Value), BindsTo s fd ⟨[v], []⟩ [("_law_script", v)]) ∧ ∀ base : Heap, K.In base → base.Ns mainGlobals mg → FnOk l.prog w K mg base (L2.CX l.prog w) 5 fa fd ["_law_script"] (spLaw K) := by
  have e := hfa.symm.trans (PySem.W.mg_of X G a_law)
  cases e
  have F_is_name := fun_mk (st := s_is_name) l_is_name c_is_name k_is_name
  have B_is_name := F_is_name.binds (ps := ["text"]) fun _ _ _ _ _ _ us hl => match us, hl with | [_], _ => rfl
  have F_names_of := fun_mk (st := s_names_of) l_names_of c_names_of k_names_of
  have B_names_of := F_names_of.binds (ps := ["path"]) fun _ _ _ _ _ _ us hl => match us, hl with | [_], _ => rfl
  have B_names_of_0_path := kbn0 (ps := ["path"]) F_names_of 0 ["path"] [0] fun _ _ _ _ _ _ us ws h1 h2 => match us, ws, h1, h2 with | [], [_], _, _ => rfl
  have F__law_pool := fun_mk (st := s__law_pool) l__law_pool c__law_pool k__law_pool
  have B__law_pool := F__law_pool.binds (ps := ["_law_script", "_law_k"]) fun _ _ _ _ _ _ us hl => match us, hl with | [_, _], _ => rfl
  have F__law_take := fun_mk (st := s__law_take) l__law_take c__law_take k__law_take
  have B__law_take := F__law_take.binds (ps := ["_law_source", "_law_top"]) fun _ _ _ _ _ _ us hl => match us, hl with | [_, _], _ => rfl
  have F__law_one := fun_mk (st := s__law_one) l__law_one c__law_one k__law_one
  have B__law_one := F__law_one.binds (ps := ["_law_source", "_law_things"]) fun _ _ _ _ _ _ us hl => match us, hl with | [_, _], _ => rfl
  have F__law_is_name := fun_mk (st := s__law_is_name) l__law_is_name c__law_is_name k__law_is_name
  have B__law_is_name := F__law_is_name.binds (ps := ["_law_word"]) fun _ _ _ _ _ _ us hl => match us, hl with | [_], _ => rfl
  have F__law_due := fun_mk (st := s__law_due) l__law_due c__law_due k__law_due
  have B__law_due := F__law_due.binds (ps := ["_law_text_here"]) fun _ _ _ _ _ _ us hl => match us, hl with | [_], _ => rfl
  have F__law_text := fun_mk (st := s__law_text) l__law_text c__law_text k__law_text
  have B__law_text := F__law_text.binds (ps := ["_law_source"]) fun _ _ _ _ _ _ us hl => match us, hl with | [_], _ => rfl
  have F__law_is_refused := fun_mk (st := s__law_is_refused) l__law_is_refused c__law_is_refused k__law_is_refused
  have B__law_is_refused := F__law_is_refused.binds (ps := ["_law_value"]) fun _ _ _ _ _ _ us hl => match us, hl with | [_], _ => rfl
  have F__law_is_right := fun_mk (st := s__law_is_right) l__law_is_right c__law_is_right k__law_is_right
  have B__law_is_right := F__law_is_right.binds (ps := ["_law_value"]) fun _ _ _ _ _ _ us hl => match us, hl with | [_], _ => rfl
  have F_law := fun_mk (st := s_law) l_law c_law k_law
  have B_law := F_law.binds (ps := ["_law_script"]) fun _ _ _ _ _ _ us hl => match us, hl with | [_], _ => rfl
  refine ⟨PySem.W.fnOf "law" "law" (defArgs s_law) (defBody s_law) (defScope s_law) .none kV_law dc_law pm_law an_law cd_law ct_law, fun s v => .of_eq rfl, fun base _ _ => ?_⟩
  have x_BadPath : PySem.ExX.ExTxt K mg "BadPath" c_BadPath fI := { gC := PySem.W.mg_of X G a_BadPath, cls := ⟨nm_BadPath, q_BadPath, N_BadPath, bs_BadPath, _, sn_BadPath, sub_BadPath, ab_BadPath, col_BadPath, dd_BadPath, m0_BadPath, m1_BadPath, m2_BadPath, m3_BadPath, m5_BadPath, xL_BadPath, by rfl⟩, sa := sa_BadPath, ga := ga_BadPath, gg := gg_BadPath, noN := nb_BadPath, iC := ai_BadPath, tC := t_I, kC := kC_BadPath, exC := eC_BadPath, tyC := tC_BadPath, hdC := hC_BadPath, fn := ⟨_, _, _, _, _, _, _, _, _, _, _, _, _, _, l_I, c_I⟩ }
  have exs_all : ∀ C ∈ ([c_BadPath] : List Addr), ∃ nx fI, PySem.ExX.ExTxt K mg nx C fI := (fun C hC => by have e := List.mem_singleton.mp hC; subst e; exact ⟨_, _, x_BadPath⟩)
  have iss_all : ∀ C ∈ ([c_BadPath] : List Addr), ExIs K C := (fun C hC => by have e := List.mem_singleton.mp hC; subst e; exact ⟨iC_BadPath, ga_BadPath, gg_BadPath, eC_BadPath, cA_BadPath, sp_get, tk_cls, mO_BadPath⟩)
  have T : Txt K mg ⟨f_is_name, _, f_names_of, _, f__law_pool, _, f__law_take, _, f__law_one, _, f__law_is_name, _, f__law_due, _, f__law_text, _, f__law_is_refused, _, f__law_is_right, _, fa, _, t_LETTERS, t_MOST_LETTERS, t_MOST_NAMES, c_Refused, c_BadName, c_BadPath, c_NoName, fI⟩ := ⟨F_is_name, B_is_name, PySem.W.mg_of X G a_is_name, F_names_of, B_names_of, PySem.W.mg_of X G a_names_of, F__law_pool, B__law_pool, PySem.W.mg_of X G a__law_pool, F__law_take, B__law_take, PySem.W.mg_of X G a__law_take, F__law_one, B__law_one, PySem.W.mg_of X G a__law_one, F__law_is_name, B__law_is_name, PySem.W.mg_of X G a__law_is_name, F__law_due, B__law_due, PySem.W.mg_of X G a__law_due, F__law_text, B__law_text, PySem.W.mg_of X G a__law_text, F__law_is_refused, B__law_is_refused, PySem.W.mg_of X G a__law_is_refused, F__law_is_right, B__law_is_right, PySem.W.mg_of X G a__law_is_right, F_law, B_law, PySem.W.mg_of X G a_law, PySem.W.mg_of X G z_LETTERS, PySem.W.mg_of X G z_MOST_LETTERS, PySem.W.mg_of X G z_MOST_NAMES, PySem.W.mg_none_of X G z_all, PySem.W.mg_none_of X G z_int, PySem.W.mg_none_of X G z_isinstance, PySem.W.mg_none_of X G z_len, PySem.W.mg_none_of X G z_list, PySem.W.mg_none_of X G z_max, PySem.W.mg_none_of X G z_min, PySem.W.mg_none_of X G z_range, PySem.W.mg_none_of X G z_str, PySem.W.mg_of X G a_Refused, PySem.W.mg_of X G a_BadName, PySem.W.mg_of X G a_BadPath, PySem.W.mg_of X G a_NoName, x_BadPath, exs_all, iss_all, (fun c h => match c, h with | 0, _ => m_BadPath_BadPath | n + 1, h => absurd h (by omega)), (fun c h => match c, h with | 0, _ => k_BadPath__Refused | n + 1, h => absurd h (by omega)), (fun c h => match c, h with | 0, _ => k_BadPath__BadName_NoName | n + 1, h => absurd h (by omega)), B_names_of_0_path⟩
  exact (ok_law (P := l.prog) (w := w) (base := base) T).imp fun vs H Q E q => law_imp (T := tb K _) rfl rfl law_run vs H Q E q
end Lw
open PySem PySem.W PyProof.Rows
set_option maxHeartbeats 0 in
theorem PySem.Challenge.cw_bornroots_k18_paths_read_holds : PySem.Challenge.rw_bornroots_k18_paths_read.Holds := by
  w_on; o_law; k_head; (case hw => w_witness2)
  k_fill
  refine L2.walk_of (l := PySem.Challenge.rw_bornroots_k18_paths_read) (n := 63) (k := 5) (x := "_law_script") (CX := fun w => L2.CX PySem.Challenge.rw_bornroots_k18_paths_read.prog w) (sp := fun w => Mr.spLaw _) rfl (by decide) rfl ⟨rfl, by decide, by decide⟩ (fun w h Y => PySem.W.kIn_of Y) ?F (fun _ _ a ns hl _ hS => ⟨a, ns, rfl, hS, hl, fun _ => rfl⟩) (fun _ _ _ _ _ z => Mr.noCX z)
  case F =>
    intro w mg fa h KX G hmg
    refine' Lw.all_mk KX G hmg ?a_is_name ?l_is_name ?c_is_name ?k_is_name ?a_names_of ?l_names_of ?c_names_of ?k_names_of ?a__law_pool ?l__law_pool ?c__law_pool ?k__law_pool ?a__law_take ?l__law_take ?c__law_take ?k__law_take ?a__law_one ?l__law_one ?c__law_one ?k__law_one ?a__law_is_name ?l__law_is_name ?c__law_is_name ?k__law_is_name ?a__law_due ?l__law_due ?c__law_due ?k__law_due ?a__law_text ?l__law_text ?c__law_text ?k__law_text ?a__law_is_refused ?l__law_is_refused ?c__law_is_refused ?k__law_is_refused ?a__law_is_right ?l__law_is_right ?c__law_is_right ?k__law_is_right ?a_law ?l_law ?c_law ?k_law ?z_LETTERS ?z_MOST_LETTERS ?z_MOST_NAMES ?a_Refused ?a_BadName ?a_BadPath ?a_NoName ?t_I ?l_I ?c_I ?xL_BadPath ?sa_BadPath ?ga_BadPath ?gg_BadPath ?nb_BadPath ?ai_BadPath ?kC_BadPath ?eC_BadPath ?tC_BadPath ?hC_BadPath ?iC_BadPath ?cA_BadPath ?mO_BadPath ?sp_get ?tk_cls ?m_BadPath_BadPath ?k_BadPath__Refused ?k_BadPath__BadName_NoName ?z_all ?z_int ?z_isinstance ?z_len ?z_list ?z_max ?z_min ?z_range ?z_str
    (case a_is_name => k_is)
    (case l_is_name => k_is)
    (case c_is_name => k_is)
    (case k_is_name => k_is)
    (case a_names_of => k_is)
    (case l_names_of => k_is)
    (case c_names_of => k_is)
    (case k_names_of => k_is)
    (case a__law_pool => k_is)
    (case l__law_pool => k_is)
    (case c__law_pool => k_is)
    (case k__law_pool => k_is)
    (case a__law_take => k_is)
    (case l__law_take => k_is)
    (case c__law_take => k_is)
    (case k__law_take => k_is)
    (case a__law_one => k_is)
    (case l__law_one => k_is)
    (case c__law_one => k_is)
    (case k__law_one => k_is)
    (case a__law_is_name => k_is)
    (case l__law_is_name => k_is)
    (case c__law_is_name => k_is)
    (case k__law_is_name => k_is)
    (case a__law_due => k_is)
    (case l__law_due => k_is)
    (case c__law_due => k_is)
    (case k__law_due => k_is)
    (case a__law_text => k_is)
    (case l__law_text => k_is)
    (case c__law_text => k_is)
    (case k__law_text => k_is)
    (case a__law_is_refused => k_is)
    (case l__law_is_refused => k_is)
    (case c__law_is_refused => k_is)
    (case k__law_is_refused => k_is)
    (case a__law_is_right => k_is)
    (case l__law_is_right => k_is)
    (case c__law_is_right => k_is)
    (case k__law_is_right => k_is)
    (case a_law => k_is)
    (case l_law => k_is)
    (case c_law => k_is)
    (case k_law => k_is)
    (case z_LETTERS => k_is)
    (case z_MOST_LETTERS => k_is)
    (case z_MOST_NAMES => k_is)
    (case a_Refused => k_is)
    (case a_BadName => k_is)
    (case a_BadPath => k_is)
    (case a_NoName => k_is)
    (case xL_BadPath => k_is)
    (case sa_BadPath => k_is)
    (case ga_BadPath => k_is)
    (case gg_BadPath => k_is)
    (case nb_BadPath => k_is)
    (case ai_BadPath => k_is)
    (case kC_BadPath => k_is)
    (case eC_BadPath => k_is)
    (case tC_BadPath => k_is)
    (case hC_BadPath => k_is)
    (case iC_BadPath => k_is)
    (case cA_BadPath => k_is)
    (case mO_BadPath => k_is)
    (case sp_get => k_is)
    (case tk_cls => k_is)
    (case m_BadPath_BadPath => first | rfl | (with_unfolding_all rfl) | k_is)
    (case k_BadPath__Refused => first | rfl | (with_unfolding_all rfl) | k_is)
    (case k_BadPath__BadName_NoName => first | rfl | (with_unfolding_all rfl) | k_is)
    (case z_all => k_is)
    (case z_int => k_is)
    (case z_isinstance => k_is)
    (case z_len => k_is)
    (case z_list => k_is)
    (case z_max => k_is)
    (case z_min => k_is)
    (case z_range => k_is)
    (case z_str => k_is)
    (case t_I => k_is)
    (case l_I => k_is)
    (case c_I => k_is)
