import PyProof.Rows.All
import Wide.All
import OpenK.AllK
import Wide.FinOn
import KE.KStateDown
import Lean
import HandS.ForMost
import HandS.Flow
import HandS.Zip
import HandS.Conv
import HandS.IsInst
import HandS.DictComp
import HandS.ListItems
import HandS.NoneIn
import KE.KDictKeyed
import HandS.HeadHook2
import HandS.Head0
import HandS.Head1
import HandS.Head2
import HandS.ExcInit
import HandS.ExcField
import HandS.Lambda
import HandS.EndTab
import HandS.HeadHook4
import HandS.HeadWalk
import KE.GoesMore
import KE.GoesEnum
import HandS.SortRule
import KE.SortData
import KE.DataMinMax
import KE.KOpsOwn
import HandS.TupAny
import HandS.Style
import PySem.Challenge.RW_allbids_k49_whole_gains_never_below
/-! ## AbN -/
set_option Elab.async false
set_option linter.all false
set_option maxRecDepth 100000
set_option maxHeartbeats 1000000
/-! Dicts whose keys are tuples of pairs of ints: one of our own things on the tracked heap, its rules. -/
namespace Ab
open PySem PySem.Spec L2
/-- a key: a tuple of pairs of ints -/
abbrev Key2 := List (Int × Int)
def pk (q : Int × Int) : NestedKey := .tup [.num q.1, .num q.2]
def nk (k : Key2) : NestedKey := .tup (k.map pk)
theorem pk_inj {a b : Int × Int} (e : pk a = pk b) : a = b := by
  unfold pk at e
  injection e with e
  injection e with e1 e
  injection e with e2 e
  injection e1 with e1
  injection e2 with e2
  exact Prod.ext e1 e2
theorem pks_inj : ∀ {a b : Key2}, a.map pk = b.map pk → a = b
  | [], [], _ => rfl
  | [], _ :: _, e => by simp at e
  | _ :: _, [], e => by simp at e
  | x :: xs, y :: ys, e => by
    rw [List.map_cons, List.map_cons] at e
    injection e with e1 e2
    rw [pk_inj e1, pks_inj e2]
theorem nk_inj {a b : Key2} (e : nk a = nk b) : a = b := by
  unfold nk at e
  injection e with e
  exact pks_inj e
theorem pks_depth : ∀ k : Key2, NestedKey.depthAll (k.map pk) ≤ 4
  | [] => by simp [NestedKey.depthAll]
  | q :: r => by
    have ih := pks_depth r
    rw [List.map_cons, NestedKey.depthAll]
    have h : (pk q).depth ≤ 4 := by
      unfold pk
      simp [NestedKey.depth, NestedKey.depthAll]
    omega
theorem nk_depth (k : Key2) : (nk k).depth ≤ 8 := by
  have h := pks_depth k
  unfold nk
  rw [NestedKey.depth]
  omega
/-- the tuple at q is the key k -/
def KeyAt (H : Hp) (q : Addr) (k : Key2) : Prop := ∃ ps : List Addr, H q = some (.tup (ps.map V.ref)) ∧ Paired (fun (p : Addr) (r : Int × Int) => H p = some (.tup [.int r.1, .int r.2])) ps k
theorem KeyAt.mono {H H' : Hp} {q : Addr} {k : Key2} (x : KeyAt H q k) (s : ∀ b xs, H b = some (.tup xs) → H' b = some (.tup xs)) : KeyAt H' q k :=
  let ⟨ps, e, r⟩ := x
  ⟨ps, s _ _ e, Paired.mapP r fun _ _ z => s _ _ z⟩
theorem tup_is {P : Program} {w : World} {H : Hp} {h : Heap} {q : Addr} {xs : List V} {ks : List NestedKey} (ok : HOk P w H h) (e : H q = some (.tup xs)) (all : ∀ us : List Value, Vals xs us → NestedAll h ks us) : NestedIs h (.tup ks) (.ref q) := by
  have x : ObjOk P w H h q (.tup xs) := ok q _ e
  obtain ⟨_, us, rel, ob, hg, hc, n, hd⟩ := x
  exact .tup hg hc hd (by simpa using all us rel)
theorem key_is {P : Program} {w : World} {H : Hp} {h : Heap} {q : Addr} {k : Key2} (ok : HOk P w H h) (x : KeyAt H q k) : (nestedKind P w).is h (nk k) q := by
  obtain ⟨ps, e, r⟩ := x
  refine ⟨tup_is ok e ?_, nk_depth k⟩
  clear e
  induction r with
  | nil =>
    intro us hu
    cases hu
    exact .nil
  | @cons p s l1 l2 h1 t ih =>
    intro us hu
    rw [List.map_cons] at hu ⊢
    cases hu with
    | cons a b =>
      obtain rfl := a
      refine .cons (tup_is ok h1 fun vs hv => ?_) (ih _ b)
      cases hv with
      | cons a b =>
        obtain ⟨t1, rfl⟩ := a
        cases b with
        | cons a b =>
          obtain ⟨t2, rfl⟩ := a
          cases b
          exact .cons (.int _ _) (.cons (.int _ _) .nil)
/-! ### entries -/
abbrev Ents := List (Key2 × Addr × V)
abbrev EN : Ents → List (NestedKey × Addr × Value) → Prop := Paired fun y x => x.1 = nk y.1 ∧ x.2.1 = y.2.1 ∧ RelV y.2.2 x.2.2
def atN (ys : Ents) (k : Key2) : Option V := (ys.find? fun y => decide (y.1 = k)).map (·.2.2)
def putN (ys : Ents) (k : Key2) (q : Addr) (v : V) : Ents := if (atN ys k).isSome = true then ys.map (fun y => if y.1 = k then (y.1, y.2.1, v) else y) else ys ++ [(k, q, v)]
theorem putN_length (ys : Ents) (k : Key2) (q : Addr) (v : V) : (putN ys k q v).length ≤ ys.length + 1 := by
  unfold putN
  split
  · rw [List.length_map]
    exact Nat.le_succ _
  · rw [List.length_append]
    exact Nat.le_refl _
theorem EN.at_ {ys : Ents} {xs : List (NestedKey × Addr × Value)} (r : EN ys xs) (k : Key2) : RelO (atN ys k) ((atKey xs (nk k)).map (·.2)) := by
  induction r with
  | nil => exact True.intro
  | @cons y x l1 l2 h t ih =>
    obtain ⟨h1, h2, h3⟩ := h
    by_cases e : y.1 = k
    · have e2 : x.1 = nk k := by rw [h1, e]
      have z1 : atN (y :: l1) k = some y.2.2 := by simp [atN, e]
      have z2 : atKey (x :: l2) (nk k) = some x.2 := by simp [atKey, e2]
      rw [z1, z2]
      exact h3
    · have e2 : ¬ x.1 = nk k := fun z => e (nk_inj (h1.symm.trans z))
      have z1 : atN (y :: l1) k = atN l1 k := by simp [atN, e]
      have z2 : atKey (x :: l2) (nk k) = atKey l2 (nk k) := by simp [atKey, e2]
      rw [z1, z2]
      exact ih
theorem EN.put {ys : Ents} {xs : List (NestedKey × Addr × Value)} (r : EN ys xs) (k : Key2) (q : Addr) {v : V} {u : Value} (rv : RelV v u) : EN (putN ys k q v) (storedH xs (nk k) q u) := by
  have z : (atN ys k).isSome = (atKey xs (nk k)).isSome := by
    have := (r.at_ k).isSome_eq
    rwa [Option.isSome_map] at this
  unfold putN storedH
  rw [z]
  by_cases c : (atKey xs (nk k)).isSome = true
  · rw [if_pos c, if_pos c]
    clear z c
    induction r with
    | nil => exact .nil
    | @cons y x l1 l2 h t ih =>
      obtain ⟨h1, h2, h3⟩ := h
      rw [List.map_cons, List.map_cons]
      refine .cons ?_ ih
      unfold putAt
      by_cases e : y.1 = k
      · rw [if_pos e, if_pos (by rw [h1, e])]
        exact ⟨h1, h2, rv⟩
      · rw [if_neg e, if_neg fun z => e (nk_inj (h1.symm.trans z))]
        exact ⟨h1, h2, h3⟩
  · rw [if_neg c, if_neg c]
    exact Paired.snoc r ⟨rfl, rfl, rv⟩
/-! ### the dict -/
/-- the dict at a, with its epoch and its entries -/
def dnP (P : Program) (w : World) (a : Addr) (ep : Nat) (ys : Ents) : Heap → Prop := fun h => ys.length ≤ sizeLine ∧ (a == sysModules) = false ∧ ∃ xs, EN ys xs ∧ ∃ (o : Obj) (es : Array DictEntry), h.get? a = some o ∧ o.ExactDict ∧ o.data = .dict es ep ∧
  es.toList = xs.map (entryOfKey (nestedKind P w)) ∧ (xs.map (·.1)).Nodup
def dnO (P : Program) (w : World) (a : Addr) (ep : Nat) (ys : Ents) : HO := .ext (dnP P w a ep ys)
theorem dn_ok {P : Program} {w : World} {H : Hp} {h : Heap} {a : Addr} {ep : Nat} {ys : Ents} (x : dnP P w a ep ys h) : ObjOk P w H h a (dnO P w a ep ys) := by
  refine ⟨x, ?_, fun h1 h2 y k => ?_⟩
  · obtain ⟨_, _, _, _, o, _, e, _⟩ := x
    exact ⟨o, e⟩
  · obtain ⟨z, m, xs, r, o, es, e, c⟩ := y
    exact ⟨z, m, xs, r, o, es, k o e, c⟩
section
variable {X : Cx} {pins : List (Addr × Obj)} {σ : L2.St} {H : Hp} {s : Shared} {a q : Addr} {ep : Nat} {ys : Ents} {k : Key2} {A : Around} {E : Value → Shared → Prop}
abbrev Keys (H : Hp) (ys : Ents) : Prop := ∀ y ∈ ys, KeyAt H y.2.1 y.1
theorem dn_at (I : Inv X pins σ H s) (e : H a = some (dnO X.prog X.w a ep ys)) : dnP X.prog X.w a ep ys s.heap := (I.hok a _ e).1
theorem dn_of (I : Inv X pins σ H s) (e : H a = some (dnO X.prog X.w a ep ys)) (ks : Keys H ys) : ys.length ≤ sizeLine ∧ (a == sysModules) = false ∧ ∃ xs, EN ys xs ∧ s.heap.DictOfH (nestedKind X.prog X.w) a xs := by
  obtain ⟨z, m, xs, r, o, es, h1, h2, h3, h4, h5⟩ := dn_at I e
  refine ⟨z, m, xs, r, o, es, ep, h1, h2, h3, h4, ?_, h5⟩
  clear h4 h5 e z
  induction r with
  | nil => exact fun x hx => absurd hx List.not_mem_nil
  | @cons y x l1 l2 h t ih =>
    intro x' hx
    rcases List.mem_cons.mp hx with rfl | hx
    · obtain ⟨e1, e2, _⟩ := h
      rw [e1, e2]
      exact key_is I.hok (ks y List.mem_cons_self)
    · exact ih (fun y hy => ks y (List.mem_cons_of_mem _ hy)) x' hx
theorem room_n (hu : A.units + 9 < cLine) : (nestedKind X.prog X.w).room A.in1 := by
  show A.units + 1 + 8 < cLine
  omega
theorem dn_raw {o : Obj} {es : Array DictEntry} (x : s.heap.get? a = some o) (c : o.ExactDict) : s.TypeIs (.ref a) "dict" ∧ ∀ b, Value.ref a = .ref b → ∃ ob, s.heap.get? b = some ob ∧ ob.dict = none := by
  refine ⟨⟨o, x, c.1⟩, fun b z => ?_⟩
  cases z
  exact ⟨o, x, c.2.1⟩
end
/-! ### readings -/
def DN (P : Program) (w : World) (H : Hp) (a : Addr) (ep : Nat) (ys : Ents) : Prop := H a = some (dnO P w a ep ys) ∧ Keys H ys
def tNNew (P : Program) (w : World) : TE := fun _ H Q => ∀ p, H p = none → Q (.ref p) (upd H p (dnO P w p 0 []))
def tNGet (P : Program) (w : World) (td ty : TE) : TE := fun σ H Q => td σ H fun x H1 => ty σ H1 fun y H2 => ∃ a ep ys q k v, x = .ref a ∧ DN P w H2 a ep ys ∧ y = .ref q ∧ KeyAt H2 q k ∧ atN ys k = some v ∧ Q v H2
def tNGet2 (P : Program) (w : World) (td ty tx : TE) : TE := fun σ H Q => td σ H fun x H1 => ∃ a, x = .ref a ∧ (∃ ep ys, H1 a = some (dnO P w a ep ys)) ∧ ty σ H1 fun y H2 => tx σ H2 fun z H3 => ∃ ep ys q k, DN P w H3 a ep ys ∧ y = .ref q ∧ KeyAt H3 q k ∧ Q ((atN ys k).getD z) H3
def tNNotIn (P : Program) (w : World) (ty td : TE) : TE := fun σ H Q => ty σ H fun y H1 => td σ H1 fun x H2 => ∃ a ep ys q k, x = .ref a ∧ DN P w H2 a ep ys ∧ y = .ref q ∧ KeyAt H2 q k ∧ Q (.bl (!(atN ys k).isSome)) H2
def sNPut (P : Program) (w : World) (td ty tv : TE) : TS := fun D σ H => tv σ H fun v H1 => td σ H1 fun x H2 => ty σ H2 fun y H3 => ∃ a ep ys q k, x = .ref a ∧ DN P w H3 a ep ys ∧ y = .ref q ∧ KeyAt H3 q k ∧ ys.length < sizeLine ∧ ∀ ep', D.nx σ (upd H3 a (dnO P w a ep' (putN ys k q v)))
section
variable {X : Cx} {P : Program} {w : World} {o i e f value tg : Expr} {pos pos' apos cpos : Pos} {td ty tv tx : TE}
theorem pe_nnew (hP : X.prog = P) (hw : X.w = w) : PE X (.Dict [] [] pos) (tNNew P w) := by
  subst hP hw
  refine ⟨fun pins s σ H Q I h => wpAny_Dict_empty ?_⟩
  have nw : ObjOk X.prog X.w (upd H s.heap.objs.size (dnO X.prog X.w s.heap.objs.size 0 [])) (s.heap.push { cls := .type "dict", data := .dict #[] }) s.heap.objs.size (dnO X.prog X.w s.heap.objs.size 0 []) :=
    dn_ok ⟨Nat.zero_le _, beq_eq_false_iff_ne.mpr (Ne.symm (Nat.ne_of_lt I.big)), [], .nil, _, #[], Heap.get?_push_size _ rfl, ⟨rfl, rfl, rfl⟩, rfl, rfl, List.nodup_nil⟩
  exact ⟨.ref s.heap.objs.size, _, I.laid (t' := s.toks) (fun _ _ q => Heap.get?_push_of_some _ q) (Nat.le_refl _) nw, rfl, h _ (I.hok.fresh (Nat.le_refl _))⟩
theorem pe_nget (hP : X.prog = P) (hw : X.w = w) (hu : X.A.units + 9 < cLine) (ho : PE X o td) (hi : PE X i ty) (hs : NoSl i) : PE X (.Subscript o i pos) (tNGet P w td ty) := by
  subst hP hw
  refine ⟨fun pins s σ H Q I h => subD_of PySem.F.slot_dict_getitem.lookup hs (thn (ho.run pins s σ H _ I h) fun u s1 ⟨x, H1, I1, rx, q1⟩ => thn (hi.run pins s1 σ H1 _ I1 q1) fun iv s2 ⟨y, H2, I2, ry, a, ep, ys, q, k, v, ex, ⟨g, ks⟩, ey, hk, hv, q2⟩ => ?_)⟩
  subst ex ey
  obtain rfl := rx
  obtain rfl := ry
  obtain ⟨z, m, xs, r, dd⟩ := dn_of I2 g ks
  have ra := r.at_ k
  rw [hv] at ra
  cases hp : atKey xs (nk k) with
  | none =>
    rw [hp] at ra
    exact ra.elim
  | some p =>
    rw [hp] at ra
    exact ⟨dd.typeIs, wpAny_getItem_heap (room_n hu) (key_is I2.hok hk) dd hp ⟨v, H2, I2.tok _, ra, q2⟩⟩
theorem pe_nget2 (hP : X.prog = P) (hw : X.w = w) (hu : X.A.units + 9 < cLine) (ho : PE X o td) (he : PE X e ty) (hf : PE X f tx) (m : M2 X o "get" apos e f cpos) : PE X (.Call (.Attribute o "get" apos) [e, f] [] cpos) (tNGet2 P w td ty tx) := by
  subst hP hw
  refine ⟨fun pins s σ H Q I h => wpAny_Call_method m.base m.few m.line PySem.F.plainAttrs_dict PySem.F.slot_dict_get PySem.F.type_dict_get (thn (ho.run pins s σ H _ I h) fun u s1 ⟨x, H1, I1, rx, a, ex, ⟨ep0, ys0, g0⟩, q1⟩ => ?_)⟩
  subst ex
  obtain rfl := rx
  obtain ⟨_, hm, _, _, ob, es, e1, e2, _⟩ := dn_at I1 g0
  obtain ⟨t1, t2⟩ := dn_raw (es := es) e1 e2
  refine ⟨t1, t2, ?_⟩
  rw [m.trees]
  refine Calls.callWith_builtin rfl (Calls.evalArgs_plain (Calls.spliced_cons (thn (he.run pins s1 σ H1 _ I1 q1) fun iv s2 ⟨y, H2, I2, ry, q2⟩ =>
    Calls.spliced_cons (thn (hf.run pins s2 σ H2 _ I2 q2) fun fv s3 ⟨z, H3, I3, rz, ep, ys, q, k, ⟨g, ks⟩, ey, hk, q3⟩ => Calls.spliced_nil ?_))))
  subst ey
  obtain rfl := ry
  obtain ⟨_, _, xs, r, dd⟩ := dn_of I3 g ks
  refine call_meetsIn PySem.F.slot_dict_get dd.typeIs PySem.F.entry_dict_get (PySem.F.args_dict_get_3 _ _ _) (meetsH_dict_get_default (nestedKind X.prog X.w) a q hm fv) ⟨room_n hu, nk k, xs, key_is I3.hok hk, dd, ?_⟩
  exact ⟨_, H3, I3.tok _, (r.at_ k).getD rz, q3⟩
theorem pc_nnotin (hP : X.prog = P) (hw : X.w = w) (hu : X.A.units + 9 < cLine) (hi : PE X i ty) (ho : PE X o td) : PC X .NotIn i o (tNNotIn P w ty td) := by
  subst hP hw
  refine ⟨fun pins s σ H Q I h => thn (hi.run pins s σ H _ I h) fun iv s1 ⟨y, H1, I1, ry, q1⟩ => thn (ho.run pins s1 σ H1 _ I1 q1) fun u s2 ⟨x, H2, I2, rx, a, ep, ys, q, k, ex, ⟨g, ks⟩, ey, hk, q2⟩ => ?_⟩
  subst ex ey
  obtain rfl := rx
  obtain rfl := ry
  obtain ⟨z, m, xs, r, dd⟩ := dn_of I2 g ks
  refine PyProof.Rows.wpAny_notIn_heap (room_n hu) (key_is I2.hok hk) m dd ?_
  have c := (r.at_ k).isSome_eq
  rw [Option.isSome_map] at c
  rw [← c]
  exact ⟨V.bl (!(atN ys k).isSome), H2, I2.tok _, rfl, q2⟩
theorem ps_nput (hP : X.prog = P) (hw : X.w = w) (hu : X.A.units + 9 < cLine) (ho : PE X o td) (hi : PE X i ty) (hv : PE X value tv) (hs : swapsWith value (some (.Subscript o i pos')) pos.line X.env = pure false) : PS X (.Assign [.Subscript o i pos'] value pos) (sNPut P w td ty tv) := by
  subst hP hw
  refine ⟨fun pins s σ H D I h => wpAny_Assign_Subscript (thn (hv.run pins s σ H _ I h) fun r0 s1 ⟨v, H1, I1, rv, q1⟩ => thn (ho.run pins s1 σ H1 _ I1 q1) fun u s2 ⟨x, H2, I2, rx, q2⟩ => thn (hi.run pins s2 σ H2 _ I2 q2) fun iv s3 ⟨y, H3, I3, ry, a, ep, ys, q, k, ex, ⟨g, ks⟩, ey, hk, hl, q3⟩ => ?_) hs⟩
  subst ex ey
  obtain rfl := rx
  obtain rfl := ry
  obtain ⟨z, m, xs, r, dd⟩ := dn_of I3 g ks
  have lx : ys.length = xs.length := Paired.length r
  refine wpAny_setItem_heap (hsz := by omega) (room_n hu) (key_is I3.hok hk) dd fun h' dd' sb => ?_
  obtain ⟨ob, es, ep', e1, e2, e3, e4, _, e5⟩ := dd'
  have lp := putN_length ys k q v
  exact ⟨σ, _, d_write I3 (by rw [g]; exact True.intro) sb ⟨ob, e1⟩ (dn_ok ⟨by omega, m, _, r.put k q rv, ob, es, e1, e2, e3, e4, e5⟩), q3 ep'⟩
/-! walks -/
def Itn (P : Program) (w : World) (d : Addr) (ep : Nat) (ys : Ents) : It :=
  ⟨fun i H => H d = some (dnO P w d ep ys) ∧ i < ys.length, fun i H x H' => H' = H ∧ ∃ y, ys[i]? = some y ∧ x = .ref y.2.1, fun i H => H d = some (dnO P w d ep ys) ∧ ys.length ≤ i⟩
def iNKeys (P : Program) (w : World) (td : TE) : TI := fun σ H R => td σ H fun x H1 => ∃ d ep ys, x = .ref d ∧ H1 d = some (dnO P w d ep ys) ∧ R (Itn P w d ep ys) H1
theorem dn_ent {X : Cx} {pins : List (Addr × Obj)} {σ : L2.St} {H : Hp} {s : Shared} {d : Addr} {ep : Nat} {ys : Ents} (I : Inv X pins σ H s) (e : H d = some (dnO X.prog X.w d ep ys)) :
    (d == sysModules) = false ∧ ∃ (o : Obj) (es : Array DictEntry), s.heap.get? d = some o ∧ o.ExactDict ∧ o.data = .dict es ep ∧ es.size = ys.length ∧ ∀ (i : Nat) (y : Key2 × Addr × V), ys[i]? = some y → ∃ en : DictEntry, es[i]? = some en ∧ en.key = .ref y.2.1 := by
  obtain ⟨z, m, xs, r, o, es, h1, h2, h3, h4, h5⟩ := dn_at I e
  refine ⟨m, o, es, h1, h2, h3, ?_, fun i y hy => ?_⟩
  · have l1 := size_of_entries h4
    have l2 : ys.length = xs.length := Paired.length r
    omega
  · obtain ⟨x, hx, _, e2, _⟩ := paired_get r hy
    have q := entry_at h4 i
    rw [hx] at q
    refine ⟨_, q, ?_⟩
    show Value.ref x.2.1 = _
    rw [e2]
theorem turn_n {K : PySem.W.Frag} (it d : Addr) (ep : Nat) (ys : Ents) : Turn P w K tg (Itn P w d ep ys) [it] it (fun i h => h.IsKeyIter it d i ys.length ep) where
  mem := List.mem_cons_self
  obj := fun i h st b hb => by
    have e : b = it := List.mem_singleton.mp hb
    rw [e]
    obtain ⟨oi, e, c, dd⟩ := st
    refine ⟨oi, e, fun v z => ?_⟩
    rw [dd] at z
    cases z
  keep := fun i h h' st k => st.at fun oi e => k it List.mem_cons_self oi e
  item := by
    intro X hP hw hK hc i pins s σ H E I hf st hg
    subst hP hw hK
    obtain ⟨hd, hi⟩ := hg
    obtain ⟨f0, f1, f2, f3, f4, f5⟩ := hf it List.mem_cons_self
    obtain ⟨hs, o, es, hgd, hx, hdt, hsz, ent⟩ := dn_ent I hd
    have hy : ys[i]? = some ys[i] := List.getElem?_eq_getElem hi
    obtain ⟨en, hen, hkey⟩ := ent i _ hy
    refine next_key_item st hgd hdt hsz hen fun h' st' sb => ?_
    have I1 : Inv X pins σ H { s with heap := h' } := I.turned (t' := s.toks) (fun b ob hb z => (sb.2 b hb).trans z) f0 f1 f3 f4 f5
    obtain ⟨oi, e, c, dd⟩ := id st'
    exact ⟨en.key, rfl, go_of (s := { s with heap := h' }) e c dd (by decide) ⟨.ref ys[i].2.1, H, I1, hkey, ⟨rfl, _, hy, rfl⟩, st', fun b hb => (hf b hb).1⟩⟩
  done := by
    intro X hP hw hK hc i pins s σ H E I hf st hg
    subst hP hw hK
    obtain ⟨hd, hi⟩ := hg
    obtain ⟨f0, f1, f2, f3, f4, f5⟩ := hf it List.mem_cons_self
    obtain ⟨hs, o, es, hgd, hx, hdt, hsz, ent⟩ := dn_ent I hd
    exact next_key_end (I.ok.hd hc) st hgd hdt hsz hi fun h' eb => ⟨rfl, I.turned (t' := s.toks) (fun b ob hb z => eb b ob hb z) f0 f1 f3 f4 f5⟩
  self := fun A i s Q E st h => wpAny_pyIter_keyiter st h
theorem pi_nkeys (hP : X.prog = P) (hw : X.w = w) (he : PE X e td) : PI X tg e (iNKeys P w td) := by
  subst hP hw
  refine ⟨fun pins s σ H R I h => thn (he.run pins s σ H _ I h) fun u s1 ⟨x, H1, I1, rx, d, ep, ys, ex, hd, q⟩ => ?_⟩
  subst ex
  obtain rfl := rx
  obtain ⟨hs, o, es, hgd, hx, hdt, hsz, ent⟩ := dn_ent I1 hd
  refine iter_keys hs hgd hx hdt (pi_one (tk := s1.toks) I1 _ (turn_n _ d ep ys) ⟨_, Heap.get?_push_size _ rfl, rfl, ?_⟩ q)
  rw [hsz] <;> rfl
end
end Ab

/-! ## AbA -/
set_option Elab.async false
set_option linter.all false
set_option maxRecDepth 100000
set_option maxHeartbeats 1000000
/-! Readings told by data alone: a state is the slots' data and the things that may still be changed; the heap is out of sight. -/
namespace Ab
open PySem L2

/-! ### data -/
theorem sqL_mono {K : PySem.W.Frag} {H H' : Hp} {a : Addr} {xs : List V} (s : Same H H') (h : SqL K H a xs) : SqL K H' a xs := by
  rcases h with (h | ⟨o, h⟩) | h
  · exact .inl (.inl (s _ _ h))
  · exact .inl (.inr ⟨o, s _ _ h⟩)
  · exact .inr h
inductive D where
  | non | bl (b : Bool) | int (i : Int) | str (x : Str) | ty (n : String)
  | lst (ds : List D) | tup (ds : List D)
  | dK (kvs : List (Key × D)) | dT (kvs : List (List Key × D))
  | ins (C : Addr) (fs : List (Str × D))
  | dN (P : Program) (w : World) (kvs : List (Key2 × V))
  | sl (K : PySem.W.Frag) (ns : List Int)
  | adr (a : Addr)
/-- the entries' keys and values, without where the keys stand -/
abbrev EK (H : Hp) : Ents → List (Key2 × V) → Prop := Paired fun y kv => y.1 = kv.1 ∧ KeyAt H y.2.1 kv.1 ∧ y.2.2 = kv.2
theorem EK.mono {H H' : Hp} (s : Same H H') {ys : Ents} {kvs : List (Key2 × V)} (r : EK H ys kvs) : EK H' ys kvs := Paired.mapP r fun _ _ z => ⟨z.1, z.2.1.mono fun b xs => s b _, z.2.2⟩

mutual
inductive Dt (H : Hp) : V → D → Prop
  | non : Dt H .non .non
  | bl (b : Bool) : Dt H (.bl b) (.bl b)
  | int (i : Int) : Dt H (.int i) (.int i)
  | str (x : Str) : Dt H (.str x) (.str x)
  | ty (n : String) : Dt H (.ty n) (.ty n)
  | adr (a : Addr) : Dt H (.ref a) (.adr a)
  | lst {a : Addr} {xs : List V} {ds : List D} : H a = some (.lst xs) → DtL H xs ds → Dt H (.ref a) (.lst ds)
  | tup {a : Addr} {xs : List V} {ds : List D} : H a = some (.tup xs) → DtL H xs ds → Dt H (.ref a) (.tup ds)
  | dK {a : Addr} {ks : List (Key × V)} {kvs : List (Key × D)} : H a = some (.dK ks) → DtK H ks kvs → Dt H (.ref a) (.dK kvs)
  | dT {a : Addr} {ks : List (List Key × V)} {kvs : List (List Key × D)} : H a = some (.dT ks) → DtT H ks kvs → Dt H (.ref a) (.dT kvs)
  | ins {a C dx : Addr} {fs : List (Str × V)} {gs : List (Str × D)} : H a = some (.ins C dx fs) → DtF H fs gs → Dt H (.ref a) (.ins C gs)
  | dN {P : Program} {w : World} {a : Addr} {ep : Nat} {ys : Ents} {kvs : List (Key2 × V)} : H a = some (dnO P w a ep ys) → EK H ys kvs → Dt H (.ref a) (.dN P w kvs)
  | sl {K : PySem.W.Frag} {a : Addr} {ns : List Int} : SqL K H a (ns.map V.int) → Dt H (.ref a) (.sl K ns)
inductive DtL (H : Hp) : List V → List D → Prop
  | nil : DtL H [] []
  | cons {v : V} {vs : List V} {d : D} {ds : List D} : Dt H v d → DtL H vs ds → DtL H (v :: vs) (d :: ds)
inductive DtK (H : Hp) : List (Key × V) → List (Key × D) → Prop
  | nil : DtK H [] []
  | cons {k : Key} {v : V} {vs : List (Key × V)} {d : D} {ds : List (Key × D)} : Dt H v d → DtK H vs ds → DtK H ((k, v) :: vs) ((k, d) :: ds)
inductive DtT (H : Hp) : List (List Key × V) → List (List Key × D) → Prop
  | nil : DtT H [] []
  | cons {k : List Key} {v : V} {vs : List (List Key × V)} {d : D} {ds : List (List Key × D)} : Dt H v d → DtT H vs ds → DtT H ((k, v) :: vs) ((k, d) :: ds)
inductive DtF (H : Hp) : List (Str × V) → List (Str × D) → Prop
  | nil : DtF H [] []
  | cons {k : Str} {v : V} {vs : List (Str × V)} {d : D} {ds : List (Str × D)} : Dt H v d → DtF H vs ds → DtF H ((k, v) :: vs) ((k, d) :: ds)
end

section
variable {H H' : Hp}
mutual
theorem Dt.mono (s : Same H H') : ∀ {v : V} {d : D}, Dt H v d → Dt H' v d
  | _, _, .non => .non
  | _, _, .bl b => .bl b
  | _, _, .int i => .int i
  | _, _, .str x => .str x
  | _, _, .ty n => .ty n
  | _, _, .adr a => .adr a
  | _, _, .lst h r => .lst (s _ _ h) (DtL.mono s r)
  | _, _, .tup h r => .tup (s _ _ h) (DtL.mono s r)
  | _, _, .dK h r => .dK (s _ _ h) (DtK.mono s r)
  | _, _, .dT h r => .dT (s _ _ h) (DtT.mono s r)
  | _, _, .ins h r => .ins (s _ _ h) (DtF.mono s r)
  | _, _, .dN h r => .dN (s _ _ h) (EK.mono s r)
  | _, _, .sl h => .sl (sqL_mono s h)
theorem DtL.mono (s : Same H H') : ∀ {v : List V} {d : List D}, DtL H v d → DtL H' v d
  | _, _, .nil => .nil
  | _, _, .cons h r => .cons (Dt.mono s h) (DtL.mono s r)
theorem DtK.mono (s : Same H H') : ∀ {v : List (Key × V)} {d : List (Key × D)}, DtK H v d → DtK H' v d
  | _, _, .nil => .nil
  | _, _, .cons h r => .cons (Dt.mono s h) (DtK.mono s r)
theorem DtT.mono (s : Same H H') : ∀ {v : List (List Key × V)} {d : List (List Key × D)}, DtT H v d → DtT H' v d
  | _, _, .nil => .nil
  | _, _, .cons h r => .cons (Dt.mono s h) (DtT.mono s r)
theorem DtF.mono (s : Same H H') : ∀ {v : List (Str × V)} {d : List (Str × D)}, DtF H v d → DtF H' v d
  | _, _, .nil => .nil
  | _, _, .cons h r => .cons (Dt.mono s h) (DtF.mono s r)
end
theorem DtL.length : ∀ {xs : List V} {ds : List D}, DtL H xs ds → xs.length = ds.length
  | _, _, .nil => rfl
  | _, _, .cons _ r => congrArg (· + 1) (DtL.length r)
theorem DtL.get : ∀ {xs : List V} {ds : List D} {i : Nat} {d : D}, DtL H xs ds → ds[i]? = some d → ∃ x, xs[i]? = some x ∧ Dt H x d
  | _, _, _, _, .nil, e => by simp at e
  | _, _, 0, _, .cons h _, e => ⟨_, rfl, by cases Option.some.inj e; exact h⟩
  | _, _, i + 1, d, .cons _ r, e => DtL.get (i := i) r e
theorem DtL.get' : ∀ {xs : List V} {ds : List D} {i : Nat} {x : V}, DtL H xs ds → xs[i]? = some x → ∃ d, ds[i]? = some d ∧ Dt H x d
  | _, _, _, _, .nil, e => by simp at e
  | _, _, 0, _, .cons h _, e => ⟨_, rfl, by cases Option.some.inj e; exact h⟩
  | _, _, i + 1, d, .cons _ r, e => DtL.get' (i := i) r e
theorem DtL.append : ∀ {xs ys : List V} {ds es : List D}, DtL H xs ds → DtL H ys es → DtL H (xs ++ ys) (ds ++ es)
  | _, _, _, _, .nil, s => s
  | _, _, _, _, .cons h r, s => .cons h (DtL.append r s)
theorem DtL.one {x : V} {d : D} (h : Dt H x d) : DtL H [x] [d] := .cons h .nil
theorem DtL.set {x : V} {d : D} (h : Dt H x d) : ∀ {xs : List V} {ds : List D} (i : Nat), DtL H xs ds → DtL H (xs.set i x) (ds.set i d)
  | _, _, _, .nil => .nil
  | _, _, 0, .cons _ r => .cons h r
  | _, _, i + 1, .cons g r => .cons g (DtL.set h i r)
theorem DtL.ints : ∀ {xs : List V} {ns : List Int}, DtL H xs (ns.map D.int) → xs = ns.map V.int
  | [], [], _ => rfl
  | _ :: _, n :: ns, .cons h r => by
    cases h
    rw [DtL.ints (ns := ns) r, List.map_cons]
theorem DtL.bls : ∀ {xs : List V} {ns : List Bool}, DtL H xs (ns.map D.bl) → xs = ns.map V.bl
  | [], [], _ => rfl
  | _ :: _, n :: ns, .cons h r => by
    cases h
    rw [DtL.bls (ns := ns) r, List.map_cons]
theorem dtL_ints (H : Hp) : ∀ ns : List Int, DtL H (ns.map V.int) (ns.map D.int)
  | [] => .nil
  | n :: ns => .cons (.int n) (dtL_ints H ns)
end

/-! ### things that may be changed -/
structure Ot where
  ok : Hp → HO → Prop
  mono : ∀ {B B' : Hp} {o : HO}, Same B B' → ok B o → ok B' o
  nt : ∀ {B : Hp} {o : HO}, ok B o → ∀ xs, o ≠ .tup xs
abbrev Ow := List (Addr × Ot)
def oLst (ds : List D) : Ot := ⟨fun B o => ∃ xs, o = .lst xs ∧ DtL B xs ds, fun s ⟨xs, e, h⟩ => ⟨xs, e, h.mono s⟩, fun ⟨xs, e, _⟩ ys z => by
  rw [e] at z
  cases z⟩
def oK (kvs : List (Key × D)) : Ot := ⟨fun B o => ∃ ks, o = .dK ks ∧ DtK B ks kvs, fun s ⟨xs, e, h⟩ => ⟨xs, e, h.mono s⟩, fun ⟨xs, e, _⟩ ys z => by
  rw [e] at z
  cases z⟩
def oT (kvs : List (List Key × D)) : Ot := ⟨fun B o => ∃ ks, o = .dT ks ∧ DtT B ks kvs, fun s ⟨xs, e, h⟩ => ⟨xs, e, h.mono s⟩, fun ⟨xs, e, _⟩ ys z => by
  rw [e] at z
  cases z⟩
def oIns (C : Addr) (fs : List (Str × D)) : Ot := ⟨fun B o => ∃ dx gs, o = .ins C dx gs ∧ DtF B gs fs, fun s ⟨dx, xs, e, h⟩ => ⟨dx, xs, e, h.mono s⟩, fun ⟨dx, xs, e, _⟩ ys z => by
  rw [e] at z
  cases z⟩
def oN (P : Program) (w : World) (a : Addr) (kvs : List (Key2 × V)) : Ot := ⟨fun B o => ∃ ep ys, o = dnO P w a ep ys ∧ EK B ys kvs, fun s ⟨ep, ys, e, h⟩ => ⟨ep, ys, e, EK.mono s h⟩, fun ⟨ep, ys, e, _⟩ ys z => by
  rw [e] at z
  cases z⟩
/-- a thing that is read only, for a while -/
def oLk (t : Ot) (od : Obj) (u : HO) : Ot := ⟨fun B o => o = .frz od u ∧ t.ok B u, fun s ⟨e, h⟩ => ⟨e, t.mono s h⟩, fun ⟨e, _⟩ ys z => by
  rw [e] at z
  cases z⟩

structure Ok (B C : Hp) (O : Ow) : Prop where
  sub : Same B C
  nd : (O.map (·.1)).Nodup
  own : ∀ p ∈ O, B p.1 = none ∧ ∃ o, C p.1 = some o ∧ p.2.ok B o
structure Le (O : Ow) (B C B' C' : Hp) (O' : Ow) : Prop where
  base : Same B B'
  ok : Ok B' C' O'
  frame : ∀ a o, a ∉ O.map (·.1) → C a = some o → C' a = some o
  dom : ∀ a, C a ≠ none → C' a ≠ none
  old : ∀ a o, a ∉ O.map (·.1) → C a = some o → (∀ xs, o ≠ .tup xs) → B' a = B a
  own : ∀ p ∈ O', p.1 ∈ O.map (·.1) ∨ C p.1 = none

section
variable {O O1 O2 : Ow} {B C B1 C1 B2 C2 : Hp}
theorem Ok.le (k : Ok B C O) : Le O B C B C O :=
  ⟨Same.refl _, k, fun _ _ _ e => e, fun _ e => e, fun _ _ _ _ _ => rfl, fun p hp => .inl (List.mem_map_of_mem hp)⟩
theorem Le.trans (a : Le O B C B1 C1 O1) (b : Le O1 B1 C1 B2 C2 O2) : Le O B C B2 C2 O2 := by
  have key : ∀ x, x ∉ O.map (·.1) → C x ≠ none → x ∉ O1.map (·.1) := fun x hx hc hm => by
    obtain ⟨p, hp, rfl⟩ := List.mem_map.mp hm
    rcases a.own p hp with z | z
    · exact hx z
    · exact hc z
  refine ⟨a.base.trans b.base, b.ok, fun x o hx hc => b.frame x o (key x hx (by rw [hc]; exact Option.some_ne_none _)) (a.frame x o hx hc), fun x hc => b.dom x (a.dom x hc), fun x o hx hc nt => ?_, fun p hp => ?_⟩
  · rw [b.old x o (key x hx (by rw [hc]; exact Option.some_ne_none _)) (a.frame x o hx hc) nt, a.old x o hx hc nt]
  · rcases b.own p hp with z | z
    · obtain ⟨q, hq, e⟩ := List.mem_map.mp z
      rw [← e]
      exact a.own q hq
    · refine .inr ?_
      cases e : C p.1 with
      | none => rfl
      | some o => exact absurd z (a.dom _ (by rw [e]; exact Option.some_ne_none _))
theorem Ok.fresh (k : Ok B C O) {p : Addr} (h : C p = none) : B p = none := k.sub.free h
theorem Ok.notin (k : Ok B C O) {p : Addr} (h : C p = none) : p ∉ O.map (·.1) := fun z => by
  obtain ⟨q, hq, rfl⟩ := List.mem_map.mp z
  obtain ⟨_, o, e, _⟩ := k.own q hq
  rw [h] at e
  cases e
/-- something new, never changed -/
theorem Ok.lay (k : Ok B C O) {p : Addr} {o : HO} (h : C p = none) : Le O B C (upd B p o) (upd C p o) O := by
  have hb := k.fresh h
  have hn := k.notin h
  have sB : Same B (upd B p o) := fun b u e => by
    rw [upd_ne (ne_of_none e hb)]
    exact e
  refine ⟨sB, ⟨fun b u e => ?_, k.nd, fun q hq => ?_⟩, fun a u _ e => ?_, fun a e => ?_, fun a u _ e _ => ?_, fun q hq => .inl (List.mem_map_of_mem hq)⟩
  · by_cases hp : b = p
    · subst hp
      rw [upd_same] at e ⊢
      exact e
    · rw [upd_ne hp] at e ⊢
      exact k.sub b u e
  · have hq1 : q.1 ≠ p := fun z => hn (z ▸ List.mem_map_of_mem hq)
    obtain ⟨x, u, y, z⟩ := k.own q hq
    exact ⟨by rw [upd_ne hq1]; exact x, u, by rw [upd_ne hq1]; exact y, q.2.mono sB z⟩
  · rw [upd_ne (ne_of_none e h)]
    exact e
  · by_cases hp : a = p
    · rw [hp, upd_same]
      exact Option.some_ne_none _
    · rw [upd_ne hp]
      exact e
  · exact upd_ne (ne_of_none e h)
/-- something new that is ours -/
theorem Ok.layO (k : Ok B C O) {p : Addr} {o : HO} {t : Ot} (h : C p = none) (ho : t.ok B o) : Le O B C B (upd C p o) ((p, t) :: O) := by
  have hb := k.fresh h
  have hn := k.notin h
  refine ⟨Same.refl _, ⟨fun b u e => ?_, ?_, fun q hq => ?_⟩, fun a u _ e => ?_, fun a e => ?_, fun _ _ _ _ _ => rfl, fun q hq => ?_⟩
  · rw [upd_ne (ne_of_none e hb)]
    exact k.sub b u e
  · rw [List.map_cons]
    exact List.nodup_cons.mpr ⟨hn, k.nd⟩
  · rcases List.mem_cons.mp hq with rfl | hq
    · exact ⟨hb, o, upd_same, ho⟩
    · have hq1 : q.1 ≠ p := fun z => hn (z ▸ List.mem_map_of_mem hq)
      obtain ⟨x, u, y, z⟩ := k.own q hq
      exact ⟨x, u, by rw [upd_ne hq1]; exact y, z⟩
  · rw [upd_ne (ne_of_none e h)]
    exact e
  · by_cases hp : a = p
    · rw [hp, upd_same]
      exact Option.some_ne_none _
    · rw [upd_ne hp]
      exact e
  · rcases List.mem_cons.mp hq with rfl | hq
    · exact .inr h
    · exact .inl (List.mem_map_of_mem hq)
theorem nd_at {O : Ow} (nd : (O.map (·.1)).Nodup) {i j : Nat} {a : Addr} {t u : Ot} (hi : O[i]? = some (a, t)) (hj : O[j]? = some (a, u)) : i = j := by
  have h1 : (O.map (·.1))[i]? = some a := by rw [List.getElem?_map, hi]; rfl
  have h2 : (O.map (·.1))[j]? = some a := by rw [List.getElem?_map, hj]; rfl
  obtain ⟨l1, e1⟩ := List.getElem?_eq_some_iff.mp h1
  obtain ⟨l2, e2⟩ := List.getElem?_eq_some_iff.mp h2
  exact (List.getElem_inj nd).mp (e1.trans e2.symm)
theorem map_set_same {O : Ow} {j : Nat} {a : Addr} {t u : Ot} (hj : O[j]? = some (a, t)) : (O.set j (a, u)).map (·.1) = O.map (·.1) := by
  rw [List.map_set]
  apply List.ext_getElem?
  intro i
  rw [List.getElem?_set]
  by_cases h : j = i
  · subst h
    rw [if_pos rfl, List.getElem?_map, hj]
    have hl := (List.getElem?_eq_some_iff.mp hj).1
    rw [if_pos (by rw [List.length_map]; exact hl)]
    rfl
  · rw [if_neg h]
/-- a thing of ours is changed -/
theorem Ok.write (k : Ok B C O) {j : Nat} {a : Addr} {o : HO} {t u : Ot} (hj : O[j]? = some (a, t)) (ho : u.ok B o) : Le O B C B (upd C a o) (O.set j (a, u)) := by
  have ha : (a, t) ∈ O := List.mem_of_getElem? hj
  obtain ⟨hb, o0, hc, _⟩ := k.own _ ha
  have hb : B a = none := hb
  have hc : C a = some o0 := hc
  have hm := map_set_same (u := u) hj
  have ham : a ∈ O.map (·.1) := List.mem_map_of_mem ha
  refine ⟨Same.refl _, ⟨fun b v e => ?_, by rw [hm]; exact k.nd, fun q hq => ?_⟩, fun b v hn e => ?_, fun b e => ?_, fun _ _ _ _ _ => rfl, fun q hq => .inl ?_⟩
  · rw [upd_ne (ne_of_none e hb)]
    exact k.sub b v e
  · obtain ⟨i, hi⟩ := List.getElem?_of_mem hq
    rw [List.getElem?_set] at hi
    by_cases hij : j = i
    · rw [if_pos hij] at hi
      split at hi
      · obtain rfl := Option.some.inj hi
        exact ⟨hb, o, upd_same, ho⟩
      · cases hi
    · rw [if_neg hij] at hi
      obtain ⟨x, v, y, z⟩ := k.own q (List.mem_of_getElem? hi)
      have hq1 : q.1 ≠ a := fun z => hij (nd_at (t := t) (u := q.2) k.nd hj (by rw [hi, ← z]))
      exact ⟨x, v, by rw [upd_ne hq1]; exact y, z⟩
  · rw [upd_ne fun z => hn (by rw [z]; exact ham)]
    exact e
  · by_cases hp : b = a
    · rw [hp, upd_same]
      exact Option.some_ne_none _
    · rw [upd_ne hp]
      exact e
  · rw [← hm]
    exact List.mem_map_of_mem hq
/-- a thing of ours is left as it is for good -/
theorem Ok.freeze (k : Ok B C O) {j : Nat} {a : Addr} {o : HO} {t : Ot} (hj : O[j]? = some (a, t)) (hc : C a = some o) : Le O B C (upd B a o) C (O.eraseIdx j) := by
  have ha : (a, t) ∈ O := List.mem_of_getElem? hj
  obtain ⟨hb, _⟩ := k.own _ ha
  have hb : B a = none := hb
  have sB : Same B (upd B a o) := fun b u e => by
    rw [upd_ne (ne_of_none e hb)]
    exact e
  have ham : a ∈ O.map (·.1) := List.mem_map_of_mem ha
  have sub : ∀ q ∈ O.eraseIdx j, q ∈ O ∧ q.1 ≠ a := fun q hq => by
    refine ⟨List.mem_of_mem_eraseIdx hq, fun z => ?_⟩
    obtain ⟨i, hi⟩ := List.getElem?_of_mem hq
    rw [List.getElem?_eraseIdx] at hi
    split at hi
    · rename_i hlt
      have := nd_at (t := q.2) (u := t) k.nd (i := i) (j := j) (a := a) (by rw [hi, ← z]) hj
      omega
    · rename_i hlt
      have := nd_at (t := q.2) (u := t) k.nd (i := i + 1) (j := j) (a := a) (by rw [hi, ← z]) hj
      omega
  refine ⟨sB, ⟨fun b v e => ?_, ?_, fun q hq => ?_⟩, fun _ _ _ e => e, fun _ e => e, fun b _ hn _ _ => upd_ne fun z => hn (by rw [z]; exact ham), fun q hq => .inl (List.mem_map_of_mem (sub q hq).1)⟩
  · by_cases hp : b = a
    · subst hp
      rw [upd_same] at e
      obtain rfl := Option.some.inj e
      exact hc
    · rw [upd_ne hp] at e
      exact k.sub b v e
  · exact k.nd.sublist ((List.eraseIdx_sublist _ _).map _)
  · obtain ⟨h1, h2⟩ := sub q hq
    obtain ⟨x, v, y, z⟩ := k.own q h1
    exact ⟨by rw [upd_ne h2]; exact x, v, y, q.2.mono sB z⟩
end

/-- the tuples of the heap are told too -/
def tups (B C : Hp) : Hp := fun b => match B b with
  | some o => some o
  | none => match C b with
    | some (.tup xs) => some (.tup xs)
    | _ => none
theorem tups_at {B C : Hp} (s : Same B C) {b : Addr} {xs : List V} (h : C b = some (.tup xs)) : tups B C b = some (.tup xs) := by
  unfold tups
  cases e : B b with
  | some o =>
    have z := s b o e
    rw [h] at z
    exact z.symm ▸ rfl
  | none =>
    show (match C b with | some (.tup xs) => some (HO.tup xs) | _ => none) = _
    rw [h]
theorem tups_other {B C : Hp} {b : Addr} {o : HO} (h : C b = some o) (n : ∀ xs, o ≠ .tup xs) : tups B C b = B b := by
  unfold tups
  cases e : B b with
  | some o => rfl
  | none =>
    show (match C b with | some (.tup xs) => some (HO.tup xs) | _ => none) = _
    rw [h]
    cases o with
    | tup xs => exact absurd rfl (n xs)
    | _ => rfl
theorem tups_sub {B C : Hp} : Same B (tups B C) := fun b o e => by
  unfold tups
  rw [e]
theorem Ok.tups {B C : Hp} {O : Ow} (k : Ok B C O) : Le O B C (tups B C) C O := by
  refine ⟨tups_sub, ⟨fun b o e => ?_, k.nd, fun q hq => ?_⟩, fun _ _ _ e => e, fun _ e => e, fun b o _ h n => tups_other h n, fun q hq => .inl (List.mem_map_of_mem hq)⟩
  · unfold Ab.tups at e
    cases z : B b with
    | some u =>
      rw [z] at e
      obtain rfl := Option.some.inj e
      exact k.sub b u z
    | none =>
      rw [z] at e
      cases y : C b with
      | none =>
        rw [y] at e
        cases e
      | some u =>
        rw [y] at e
        cases u with
        | tup xs => exact e
        | _ => cases e
  · obtain ⟨x, u, y, z⟩ := k.own q hq
    exact ⟨(tups_other y (q.2.nt z)).trans x, u, y, q.2.mono tups_sub z⟩

/-! ### slots -/
abbrev Tau := List (Option D)
structure Sl (B : Hp) (σ : L2.St) (τ : Tau) : Prop where
  len : σ.length = τ.length
  at_ : ∀ (i : Nat) (d : D), τ[i]? = some (some d) → ∃ v, σ[i]? = some (some v) ∧ Dt B v d
theorem Sl.mono {B B' : Hp} {σ : L2.St} {τ : Tau} (s : Same B B') (h : Sl B σ τ) : Sl B' σ τ := ⟨h.len, fun i d e => let ⟨v, a, b⟩ := h.at_ i d e; ⟨v, a, b.mono s⟩⟩
theorem Sl.set {B : Hp} {σ : L2.St} {τ : Tau} (h : Sl B σ τ) (i : Nat) {v : V} {d : D} (hv : Dt B v d) : Sl B (σ.set i (some v)) (τ.set i (some d)) := by
  refine ⟨by rw [List.length_set, List.length_set]; exact h.len, fun j e hj => ?_⟩
  rw [List.getElem?_set] at hj
  by_cases hij : i = j
  · rw [if_pos hij] at hj
    split at hj
    · rename_i hl
      obtain rfl := Option.some.inj (Option.some.inj hj)
      subst hij
      exact ⟨v, List.getElem?_set_self (by rw [h.len]; exact hl), hv⟩
    · cases hj
  · rw [if_neg hij] at hj
    obtain ⟨w, a, b⟩ := h.at_ j e hj
    exact ⟨w, by rw [List.getElem?_set_ne hij]; exact a, b⟩
def wipeT (τ : Tau) : List Nat → Tau
  | [] => τ
  | v :: vs => (wipeT τ vs).set v none
theorem Sl.wipe {B : Hp} {σ : L2.St} {τ : Tau} (h : Sl B σ τ) : ∀ vs : List Nat, Sl B (L2.wipe σ vs) (wipeT τ vs)
  | [] => h
  | v :: vs => by
    have ih := Sl.wipe h vs
    refine ⟨by unfold L2.wipe wipeT; rw [List.length_set, List.length_set]; exact ih.len, fun j e hj => ?_⟩
    unfold wipeT at hj
    rw [List.getElem?_set] at hj
    by_cases hij : v = j
    · rw [if_pos hij] at hj
      split at hj
      · cases Option.some.inj hj
      · cases hj
    · rw [if_neg hij] at hj
      obtain ⟨w, a, b⟩ := ih.at_ j e hj
      exact ⟨w, by unfold L2.wipe; rw [List.getElem?_set_ne hij]; exact a, b⟩
theorem sl_start {B : Hp} {N : List Str} {vs : List V} {ds : List D} (h : DtL B vs ds) : Sl B (L2.start N vs) (ds.map some ++ List.replicate (N.length - ds.length) none) := by
  have hl := h.length
  refine ⟨?_, fun i d e => ?_⟩
  · unfold L2.start
    simp [hl]
  · unfold L2.start
    by_cases hi : i < ds.length
    · rw [List.getElem?_append_left (by simpa using hi), List.getElem?_map] at e
      cases q : ds[i]? with
      | none => rw [q] at e; cases e
      | some d' =>
        rw [q] at e
        obtain rfl := Option.some.inj (Option.some.inj e)
        obtain ⟨x, hx, hd⟩ := h.get q
        exact ⟨x, by rw [List.getElem?_append_left (by rw [List.length_map, hl]; exact hi), List.getElem?_map, hx]; rfl, hd⟩
    · rw [List.getElem?_append_right (by simpa using hi), List.getElem?_replicate] at e
      split at e <;> cases e

/-! ### what is wanted, by data -/
abbrev Cd := D → Ow → Prop
def Fin_ (O : Ow) (B C : Hp) (Φ : Cd) (Q : VK) : Prop := ∀ v d B' C' O', Φ d O' → Le O B C B' C' O' → Dt B' v d → Q v C'
def Ec (te : TE) (τ : Tau) (O : Ow) (Φ : Cd) : Prop := ∀ σ B C, Sl B σ τ → Ok B C O → ∀ Q : VK, Fin_ O B C Φ Q → te σ C Q
def Tc (tt : TT) (τ : Tau) (O : Ow) (Φ : Bool → Ow → Prop) : Prop := ∀ σ B C, Sl B σ τ → Ok B C O → ∀ Q : Bool → Hp → Prop, (∀ b B' C' O', Φ b O' → Le O B C B' C' O' → Q b C') → tt σ C Q
def Ac (ta : TA) (τ : Tau) (O : Ow) (Φ : List D → Ow → Prop) : Prop := ∀ σ B C, Sl B σ τ → Ok B C O → ∀ Q : List V → Hp → Prop, (∀ vs ds B' C' O', Φ ds O' → Le O B C B' C' O' → DtL B' vs ds → Q vs C') → ta σ C Q
/-- an operation on two values; on one; a call on values -/
def Rc (r : R2) (x y : D) (O : Ow) (Φ : Cd) : Prop := ∀ B C v u, Ok B C O → Dt B v x → Dt B u y → ∀ Q : VK, Fin_ O B C Φ Q → r v u C Q
def Uc (r : V → Hp → VK → Prop) (x : D) (O : Ow) (Φ : Cd) : Prop := ∀ B C v, Ok B C O → Dt B v x → ∀ Q : VK, Fin_ O B C Φ Q → r v C Q
def Bc (r : List V → Hp → VK → Prop) (ds : List D) (O : Ow) (Φ : Cd) : Prop := ∀ B C vs, Ok B C O → DtL B vs ds → ∀ Q : VK, Fin_ O B C Φ Q → r vs C Q
structure De where
  nx : Tau → Ow → Prop
  rt : Cd
  bk : Tau → Ow → Prop := fun _ _ => False
  ct : Tau → Ow → Prop := fun _ _ => False
def FinS (O : Ow) (B C : Hp) (Ψ : Tau → Ow → Prop) (Q : L2.St → Hp → Prop) : Prop := ∀ σ' τ' B' C' O', Ψ τ' O' → Le O B C B' C' O' → Sl B' σ' τ' → Q σ' C'
structure FinD (O : Ow) (B C : Hp) (E : De) (F : Ends) : Prop where
  nx : FinS O B C E.nx F.nx
  rt : Fin_ O B C E.rt F.rt
  bk : FinS O B C E.bk F.bk
  ct : FinS O B C E.ct F.ct
def Sc (ts : TS) (E : De) (τ : Tau) (O : Ow) : Prop := ∀ σ B C, Sl B σ τ → Ok B C O → ∀ F : Ends, FinD O B C E F → ts F σ C

section
variable {τ : Tau} {O : Ow} {Φ : Cd} {ta tb te tx : TE} {t u : TT} {E : De} {B C : Hp}
theorem Fin_.back {O1 : Ow} {B1 C1 : Hp} {Q : VK} (f : Fin_ O B C Φ Q) (l : Le O B C B1 C1 O1) : Fin_ O1 B1 C1 Φ Q := fun v d B' C' O' p l' h => f v d B' C' O' p (l.trans l') h
theorem FinS.back {O1 : Ow} {B1 C1 : Hp} {Ψ : Tau → Ow → Prop} {Q : L2.St → Hp → Prop} (f : FinS O B C Ψ Q) (l : Le O B C B1 C1 O1) : FinS O1 B1 C1 Ψ Q := fun v d B' C' O' p l' h => f v d B' C' O' p (l.trans l') h
theorem FinD.back {O1 : Ow} {B1 C1 : Hp} {F : Ends} (f : FinD O B C E F) (l : Le O B C B1 C1 O1) : FinD O1 B1 C1 E F := ⟨f.nx.back l, f.rt.back l, f.bk.back l, f.ct.back l⟩
/-! expressions -/
theorem ec_var {i : Nat} {d : D} (h : τ[i]? = some (some d)) (k : Φ d O) : Ec (tVar i) τ O Φ := fun σ B C s o Q f => by
  obtain ⟨v, e, hv⟩ := s.at_ i d h
  exact ⟨v, e, f v d B C O k o.le hv⟩
theorem ec_int {i : Int} (k : Φ (.int i) O) : Ec (tC (.int i)) τ O Φ := fun _ B C _ o _ f => f _ _ B C O k o.le (.int i)
theorem ec_bl {i : Bool} (k : Φ (.bl i) O) : Ec (tC (.bl i)) τ O Φ := fun _ B C _ o _ f => f _ _ B C O k o.le (.bl i)
theorem ec_str {i : Str} (k : Φ (.str i) O) : Ec (tC (.str i)) τ O Φ := fun _ B C _ o _ f => f _ _ B C O k o.le (.str i)
theorem ec_non (k : Φ .non O) : Ec (tC .non) τ O Φ := fun _ B C _ o _ f => f _ _ B C O k o.le .non
theorem ec_ty {n : String} (k : Φ (.ty n) O) : Ec (tC (.ty n)) τ O Φ := fun _ B C _ o _ f => f _ _ B C O k o.le (.ty n)
theorem ec_op {r : R2} (h : Ec ta τ O fun x O1 => Ec tb τ O1 fun y O2 => Rc r x y O2 Φ) : Ec (tOp r ta tb) τ O Φ := fun σ B C s o Q f =>
  h σ B C s o _ fun v x B1 C1 O1 h1 l1 d1 => h1 σ B1 C1 (s.mono l1.base) l1.ok _ fun u y B2 C2 O2 h2 l2 d2 =>
    h2 B2 C2 v u l2.ok (d1.mono l2.base) d2 Q (f.back (l1.trans l2))
theorem ec_un {r : V → Hp → VK → Prop} (h : Ec ta τ O fun x O1 => Uc r x O1 Φ) : Ec (tUn r ta) τ O Φ := fun σ B C s o Q f =>
  h σ B C s o _ fun v x B1 C1 O1 h1 l1 d1 => h1 B1 C1 v l1.ok d1 Q (f.back l1)
theorem ec_cb {r : List V → Hp → VK → Prop} {ta : TA} (h : Ac ta τ O fun ds O1 => Bc r ds O1 Φ) : Ec (tCB r ta) τ O Φ := fun σ B C s o Q f =>
  h σ B C s o _ fun vs ds B1 C1 O1 h1 l1 d1 => h1 B1 C1 vs l1.ok d1 Q (f.back l1)
theorem ac_nil {Φ : List D → Ow → Prop} (k : Φ [] O) : Ac tNil τ O Φ := fun _ B C _ o _ f => f _ _ B C O k o.le .nil
theorem ac_cons {ta : TE} {tr : TA} {Φ : List D → Ow → Prop} (h : Ec ta τ O fun x O1 => Ac tr τ O1 fun xs O2 => Φ (x :: xs) O2) : Ac (tCons ta tr) τ O Φ := fun σ B C s o Q f =>
  h σ B C s o _ fun v x B1 C1 O1 h1 l1 d1 => h1 σ B1 C1 (s.mono l1.base) l1.ok _ fun vs ds B2 C2 O2 h2 l2 d2 =>
    f _ _ B2 C2 O2 h2 (l1.trans l2) (.cons (d1.mono l2.base) d2)
theorem ec_tup {ta : TA} (h : Ac ta τ O fun ds O1 => ds.length ≤ sizeLine ∧ Φ (.tup ds) O1) : Ec (tTup ta) τ O Φ := fun σ B C s o Q f =>
  h σ B C s o _ fun vs ds B1 C1 O1 ⟨hz, h1⟩ l1 d1 => ⟨by rw [d1.length]; exact hz, fun p hp => by
    have l2 := l1.ok.lay (o := .tup vs) hp
    exact f _ _ _ _ O1 h1 (l1.trans l2) (.tup upd_same (d1.mono l2.base))⟩
/-- a new list, never changed again -/
theorem ec_lst {ta : TA} (h : Ac ta τ O fun ds O1 => ds.length ≤ sizeLine ∧ Φ (.lst ds) O1) : Ec (tLst ta) τ O Φ := fun σ B C s o Q f =>
  h σ B C s o _ fun vs ds B1 C1 O1 ⟨hz, h1⟩ l1 d1 => ⟨by rw [d1.length]; exact hz, fun p hp => by
    have l2 := l1.ok.lay (o := .lst vs) hp
    exact f _ _ _ _ O1 h1 (l1.trans l2) (.lst upd_same (d1.mono l2.base))⟩
/-- .. that is ours -/
theorem ec_lstO {ta : TA} (h : Ac ta τ O fun ds O1 => ds.length ≤ sizeLine ∧ ∀ p, Φ (.adr p) ((p, oLst ds) :: O1)) : Ec (tLst ta) τ O Φ := fun σ B C s o Q f =>
  h σ B C s o _ fun vs ds B1 C1 O1 ⟨hz, h1⟩ l1 d1 => ⟨by rw [d1.length]; exact hz, fun p hp => by
    have l2 := l1.ok.layO (t := oLst ds) hp ⟨vs, rfl, d1⟩
    exact f _ _ _ _ _ (h1 p) (l1.trans l2) (.adr p)⟩
theorem ec_if (h : Tc t τ O fun b O1 => if b = true then Ec ta τ O1 Φ else Ec tb τ O1 Φ) : Ec (tIf t ta tb) τ O Φ := fun σ B C s o Q f =>
  h σ B C s o _ fun b B1 C1 O1 h1 l1 => by
    cases b with
    | true => exact h1 σ B1 C1 (s.mono l1.base) l1.ok Q (f.back l1)
    | false => exact h1 σ B1 C1 (s.mono l1.base) l1.ok Q (f.back l1)
theorem ec_or1 (h : Ec ta τ O Φ) : Ec (fun σ H Q => ta σ H Q ∨ tb σ H Q) τ O Φ := fun σ B C s o Q f => .inl (h σ B C s o Q f)
theorem ec_or2 (h : Ec tb τ O Φ) : Ec (fun σ H Q => ta σ H Q ∨ tb σ H Q) τ O Φ := fun σ B C s o Q f => .inr (h σ B C s o Q f)
theorem ec_andV (h : Ec ta τ O fun x O1 => ∃ c, x = .bl c ∧ if c = true then Ec tb τ O1 Φ else Φ (.bl false) O1) : Ec (tAndV ta tb) τ O Φ := fun σ B C s o Q f =>
  h σ B C s o _ fun v x B1 C1 O1 ⟨c, e, h1⟩ l1 d1 => by
    subst e
    cases d1
    refine ⟨c, rfl, ?_⟩
    cases c with
    | true => exact h1 σ B1 C1 (s.mono l1.base) l1.ok Q (f.back l1)
    | false => exact f _ _ B1 C1 O1 h1 l1 (.bl false)
theorem ec_orV (h : Ec ta τ O fun x O1 => ∃ c, x = .bl c ∧ if c = true then Φ (.bl true) O1 else Ec tb τ O1 Φ) : Ec (tOrV ta tb) τ O Φ := fun σ B C s o Q f =>
  h σ B C s o _ fun v x B1 C1 O1 ⟨c, e, h1⟩ l1 d1 => by
    subst e
    cases d1
    refine ⟨c, rfl, ?_⟩
    cases c with
    | true => exact f _ _ B1 C1 O1 h1 l1 (.bl true)
    | false => exact h1 σ B1 C1 (s.mono l1.base) l1.ok Q (f.back l1)
theorem ec_notV (h : Ec ta τ O fun x O1 => ∃ c, x = .bl c ∧ Φ (.bl (!c)) O1) : Ec (tNotV ta) τ O Φ := fun σ B C s o Q f =>
  h σ B C s o _ fun v x B1 C1 O1 ⟨c, e, h1⟩ l1 d1 => by
    subst e
    cases d1
    exact ⟨c, rfl, f _ _ B1 C1 O1 h1 l1 (.bl _)⟩
theorem ec_isN (h : Ec ta τ O fun x O1 => ∃ c : Bool, (∀ B v, Dt B v x → decide (v = .non) = c) ∧ Φ (.bl c) O1) : Ec (tIsN ta) τ O Φ := fun σ B C s o Q f =>
  h σ B C s o _ fun v x B1 C1 O1 ⟨c, e, h1⟩ l1 d1 => by
    show Q (.bl (decide (v = .non))) C1
    rw [e B1 v d1]
    exact f _ _ B1 C1 O1 h1 l1 (.bl c)
theorem ec_notN (h : Ec ta τ O fun x O1 => ∃ c : Bool, (∀ B v, Dt B v x → decide (v = .non) = c) ∧ Φ (.bl (!c)) O1) : Ec (tNotN ta) τ O Φ := fun σ B C s o Q f =>
  h σ B C s o _ fun v x B1 C1 O1 ⟨c, e, h1⟩ l1 d1 => by
    show Q (.bl (!decide (v = .non))) C1
    rw [e B1 v d1]
    exact f _ _ B1 C1 O1 h1 l1 (.bl _)
/-! tests -/
theorem tc_test {Φb : Bool → Ow → Prop} (h : Ec ta τ O fun x O1 => ∃ c, x = .bl c ∧ Φb c O1) : Tc (tTest ta) τ O Φb := fun σ B C s o Q f =>
  h σ B C s o _ fun v x B1 C1 O1 ⟨c, e, h1⟩ l1 d1 => by
    subst e
    cases d1
    exact ⟨c, rfl, f c B1 C1 O1 h1 l1⟩
theorem tc_B {Φb : Bool → Ow → Prop} (h : Ec ta τ O fun x O1 => ∃ c, x = .bl c ∧ Φb c O1) : Tc (tB ta) τ O Φb := fun σ B C s o Q f =>
  h σ B C s o _ fun v x B1 C1 O1 ⟨c, e, h1⟩ l1 d1 => by
    subst e
    cases d1
    exact ⟨c, rfl, f c B1 C1 O1 h1 l1⟩
theorem tc_and {Φb : Bool → Ow → Prop} (h : Tc t τ O fun c O1 => if c = true then Tc u τ O1 Φb else Φb false O1) : Tc (tAnd t u) τ O Φb := fun σ B C s o Q f =>
  h σ B C s o _ fun c B1 C1 O1 h1 l1 => by
    cases c with
    | true => exact h1 σ B1 C1 (s.mono l1.base) l1.ok Q fun b B2 C2 O2 p l2 => f b B2 C2 O2 p (l1.trans l2)
    | false => exact f _ B1 C1 O1 h1 l1
theorem tc_or {Φb : Bool → Ow → Prop} (h : Tc t τ O fun c O1 => if c = true then Φb true O1 else Tc u τ O1 Φb) : Tc (tOr t u) τ O Φb := fun σ B C s o Q f =>
  h σ B C s o _ fun c B1 C1 O1 h1 l1 => by
    cases c with
    | true => exact f _ B1 C1 O1 h1 l1
    | false => exact h1 σ B1 C1 (s.mono l1.base) l1.ok Q fun b B2 C2 O2 p l2 => f b B2 C2 O2 p (l1.trans l2)
theorem tc_not {Φb : Bool → Ow → Prop} (h : Tc t τ O fun c O1 => Φb (!c) O1) : Tc (tNot t) τ O Φb := fun σ B C s o Q f =>
  h σ B C s o _ fun c B1 C1 O1 h1 l1 => f _ B1 C1 O1 h1 l1
theorem tc_yes {Φb : Bool → Ow → Prop} (h : Φb true O) : Tc tYes τ O Φb := fun _ B C _ o _ f => f true B C O h o.le
/-! what follows from more -/
theorem Ec.imp {Φ' : Cd} (h : Ec te τ O Φ) (k : ∀ d O1, Φ d O1 → Φ' d O1) : Ec te τ O Φ' := fun σ B C s o Q f => h σ B C s o Q fun v d B1 C1 O1 p l e => f v d B1 C1 O1 (k d O1 p) l e
theorem Tc.imp {Φ Φ' : Bool → Ow → Prop} (h : Tc t τ O Φ) (k : ∀ d O1, Φ d O1 → Φ' d O1) : Tc t τ O Φ' := fun σ B C s o Q f => h σ B C s o Q fun d B1 C1 O1 p l => f d B1 C1 O1 (k d O1 p) l
/-! operations -/
theorem rc_i0 {f : Int → Int → Int} {a b : Int} (k : Φ (.int (f a b)) O) : Rc (rI0 fun i j => .int (f i j)) (.int a) (.int b) O Φ := fun B C v u o d e Q g => by
  cases d
  cases e
  exact ⟨a, b, rfl, rfl, g _ _ B C O k o.le (.int _)⟩
theorem rc_b0 {f : Int → Int → Bool} {a b : Int} (k : Φ (.bl (f a b)) O) : Rc (rI0 fun i j => .bl (f i j)) (.int a) (.int b) O Φ := fun B C v u o d e Q g => by
  cases d
  cases e
  exact ⟨a, b, rfl, rfl, g _ _ B C O k o.le (.bl _)⟩
theorem rc_i {f : Int → Int → Int} {P : Int → Int → Prop} {a b : Int} (k : P a b ∧ Φ (.int (f a b)) O) : Rc (rI P fun i j => .int (f i j)) (.int a) (.int b) O Φ := fun B C v u o d e Q g => by
  cases d
  cases e
  exact ⟨a, b, rfl, rfl, k.1, g _ _ B C O k.2 o.le (.int _)⟩
theorem rc_eqI {a b : Int} (k : Φ (.bl (decide (a = b))) O) : Rc rEq (.int a) (.int b) O Φ := fun B C v u o d e Q g => by
  cases d
  cases e
  refine ⟨rfl, ?_⟩
  have z : decide (V.int a = V.int b) = decide (a = b) := by
    by_cases h : a = b
    · rw [h, decide_eq_true rfl, decide_eq_true rfl]
    · rw [decide_eq_false h, decide_eq_false fun z => h (V.int.inj z)]
  rw [z]
  exact g _ _ B C O k o.le (.bl _)
theorem rc_neI {a b : Int} (k : Φ (.bl (!decide (a = b))) O) : Rc rNe (.int a) (.int b) O Φ := fun B C v u o d e Q g => by
  cases d
  cases e
  refine ⟨rfl, ?_⟩
  have z : decide (V.int a = V.int b) = decide (a = b) := by
    by_cases h : a = b
    · rw [h, decide_eq_true rfl, decide_eq_true rfl]
    · rw [decide_eq_false h, decide_eq_false fun z => h (V.int.inj z)]
  rw [z]
  exact g _ _ B C O k o.le (.bl _)
theorem rc_eqS {a b : Str} (k : Φ (.bl (decide (a = b))) O) : Rc rEq (.str a) (.str b) O Φ := fun B C v u o d e Q g => by
  cases d
  cases e
  refine ⟨rfl, ?_⟩
  have z : decide (V.str a = V.str b) = decide (a = b) := by
    by_cases h : a = b
    · rw [h, decide_eq_true rfl, decide_eq_true rfl]
    · rw [decide_eq_false h, decide_eq_false fun z => h (V.str.inj z)]
  rw [z]
  exact g _ _ B C O k o.le (.bl _)
theorem uc_neg {a : Int} (k : Φ (.int (-a)) O) : Uc (rU fun i => .int (-i)) (.int a) O Φ := fun B C v o d Q g => by
  cases d
  exact ⟨a, rfl, g _ _ B C O k o.le (.int _)⟩
variable {K : PySem.W.Frag}
theorem rc_ixL {ds : List D} {i : Int} {d : D} (h : atI ds i = some d) (k : Φ d O) : Rc (rIx K) (.lst ds) (.int i) O Φ := fun B C v u o x e Q g => by
  cases e
  cases x with
  | lst ha hl =>
    obtain ⟨j, h1, h2, h3, h4, h5⟩ := atI_get h
    obtain ⟨y, hy, hd⟩ := hl.get h2
    refine .inl ⟨_, _, i, y, rfl, rfl, .inl (.inl (o.sub _ _ ha)), ?_, g _ _ B C O k o.le hd⟩
    unfold atI at h ⊢
    rw [hl.length]
    obtain ⟨j', hj', e⟩ := Option.bind_eq_some_iff.mp h
    rw [hj']
    obtain ⟨y', hy', hd'⟩ := hl.get e
    have : j' = j := by
      obtain ⟨q, _⟩ := ixN_seq hj'
      rw [q] at h1
      exact Option.some.inj h1
    subst this
    exact hy
theorem rc_ixT {ds : List D} {i : Int} {d : D} (h : atI ds i = some d) (k : Φ d O) : Rc (rIx K) (.tup ds) (.int i) O Φ := fun B C v u o x e Q g => by
  cases e
  cases x with
  | tup ha hl =>
    obtain ⟨j, h1, h2, h3, h4, h5⟩ := atI_get h
    obtain ⟨y, hy, hd⟩ := hl.get h2
    refine .inr (.inl ⟨_, _, i, y, rfl, rfl, .inl (.inl (o.sub _ _ ha)), ?_, g _ _ B C O k o.le hd⟩)
    unfold atI at h ⊢
    rw [hl.length]
    obtain ⟨j', hj', e⟩ := Option.bind_eq_some_iff.mp h
    rw [hj']
    have : j' = j := by
      obtain ⟨q, _⟩ := ixN_seq hj'
      rw [q] at h1
      exact Option.some.inj h1
    subst this
    exact hy
/-! statements -/
theorem sc_next (k : E.nx τ O) : Sc tNext E τ O := fun σ B C s o F f => f.nx σ τ B C O k o.le s
theorem sc_break (k : E.bk τ O) : Sc tBreak E τ O := fun σ B C s o F f => f.bk σ τ B C O k o.le s
theorem sc_seq {t u : TS} (h : Sc t { E with nx := fun τ' O' => Sc u E τ' O' } τ O) : Sc (tSeq t u) E τ O := fun σ B C s o F f =>
  h σ B C s o { F with nx := u F } ⟨fun σ' τ' B' C' O' p l s' => p σ' B' C' s' l.ok F (f.back l), f.rt, f.bk, f.ct⟩
theorem sc_asg {i : Nat} (h : Ec te τ O fun d O' => E.nx (τ.set i (some d)) O') : Sc (tAsg te (gName i)) E τ O := fun σ B C s o F f =>
  h σ B C s o _ fun v d B' C' O' p l e => f.nx _ _ B' C' O' p l ((s.mono l.base).set i e)
theorem sc_ret (h : Ec te τ O E.rt) : Sc (tRet te) E τ O := fun σ B C s o F f => h σ B C s o F.rt f.rt
theorem sc_drop (h : Ec te τ O fun _ O' => E.nx τ O') : Sc (tDrop te) E τ O := fun σ B C s o F f => h σ B C s o _ fun v d B' C' O' p l e => f.nx σ τ B' C' O' p l (s.mono l.base)
theorem sc_if {t : TT} {a b : TS} (h : Tc t τ O fun c O' => if c = true then Sc a E τ O' else Sc b E τ O') : Sc (tIfS t a b) E τ O := fun σ B C s o F f =>
  h σ B C s o _ fun c B1 C1 O1 p l => by
    cases c with
    | true => exact p σ B1 C1 (s.mono l.base) l.ok F (f.back l)
    | false => exact p σ B1 C1 (s.mono l.base) l.ok F (f.back l)
theorem sc_par {i j : Nat} {ta : TA} (h : Ac ta τ O fun ds O' => ∃ x y, ds = [x, y] ∧ E.nx ((τ.set i (some x)).set j (some y)) O') : Sc (tPar i j ta) E τ O := fun σ B C s o F f =>
  h σ B C s o _ fun vs ds B' C' O' ⟨x, y, e, p⟩ l d => by
    subst e
    cases d with
    | cons d1 d2 =>
      cases d2 with
      | cons d2 d3 =>
        cases d3
        exact ⟨_, _, rfl, f.nx _ _ B' C' O' p l (((s.mono l.base).set i d1).set j d2)⟩
theorem sc_aug {i : Nat} {x : Int} {f : Int → Int → Int} (hx : τ[i]? = some (some (.int x))) (h : Ec te τ O fun d O' => ∃ y, d = .int y ∧ E.nx (τ.set i (some (.int (f x y)))) O') : Sc (tAug i te (ipI f)) E τ O := fun σ B C s o F g => by
  obtain ⟨v, e, hv⟩ := s.at_ i _ hx
  cases hv
  refine ⟨_, e, ?_⟩
  refine h σ B C s o _ fun v d B' C' O' ⟨y, e, p⟩ l hd => ?_
  subst e
  cases hd
  exact ⟨x, y, rfl, rfl, g.nx _ _ B' C' O' p l ((s.mono l.base).set i (.int _))⟩
end
end Ab

/-! ## AbB -/
set_option Elab.async false
set_option linter.all false
set_option maxRecDepth 100000
set_option maxHeartbeats 1000000
namespace Ab
open PySem L2
/-! ### targets -/
structure Agr (js : List Nat) (σ σ' : L2.St) : Prop where
  len : σ'.length = σ.length
  off : ∀ i, i ∉ js → σ'[i]? = σ[i]?
theorem Agr.refl (js : List Nat) (σ : L2.St) : Agr js σ σ := ⟨rfl, fun _ _ => rfl⟩
def Gc (g : TG) (js : List Nat) (d : D) (τ τ' : Tau) : Prop := ∀ σ B C v, Sl B σ τ → Same B C → Dt B v d → ∀ Q : L2.St → Hp → Prop, (∀ σ', Sl B σ' τ' → Agr js σ σ' → Q σ' C) → g v σ C Q
def Gcs (g : TGs) (js : List Nat) (ds : List D) (τ τ' : Tau) : Prop := ∀ σ B C vs, Sl B σ τ → Same B C → DtL B vs ds → ∀ Q : L2.St → Hp → Prop, (∀ σ', Sl B σ' τ' → Agr js σ σ' → Q σ' C) → g vs σ C Q
section
variable {τ τ1 τ2 : Tau} {d : D} {ds : List D} {js : List Nat} {K : PySem.W.Frag}
theorem gc_name {j : Nat} : Gc (gName j) [j] d τ (τ.set j (some d)) := fun σ B C v s sub h Q k => by
  refine k _ (s.set j h) ⟨List.length_set, fun i hi => List.getElem?_set_ne fun z => hi (by rw [z]; exact List.mem_cons_self)⟩
theorem gcs_nil : Gcs gNil [] [] τ τ := fun σ B C vs s sub h Q k => by
  cases h
  exact ⟨rfl, k σ s (Agr.refl _ _)⟩
theorem gcs_cons {j : Nat} {gs : TGs} (h : Gcs gs js ds (τ.set j (some d)) τ2) : Gcs (gCons (gName j) gs) (j :: js) (d :: ds) τ τ2 := fun σ B C vs s sub hv Q k => by
  cases hv with
  | cons h1 h2 =>
    refine ⟨_, _, rfl, ?_⟩
    refine h _ B C _ (s.set j h1) sub h2 Q fun σ' s' ag => k σ' s' ⟨ag.len.trans List.length_set, fun i hi => ?_⟩
    rw [ag.off i fun z => hi (List.mem_cons_of_mem _ z)]
    exact List.getElem?_set_ne fun z => hi (by rw [z]; exact List.mem_cons_self)
theorem gc_tup {n : Nat} {gs : TGs} (h : Gcs gs js ds τ τ2) (hn : ds.length = n) : Gc (gTup K n gs) js (.tup ds) τ τ2 := fun σ B C v s sub hv Q k => by
  cases hv with
  | tup ha hl => exact ⟨_, _, rfl, .inl (.inl (sub _ _ ha)), hl.length.trans hn, h σ B C _ s sub hl Q k⟩
end
theorem wipe_get (σ : L2.St) : ∀ (vs : List Nat) (i : Nat), (L2.wipe σ vs)[i]? = if i ∈ vs then (if i < σ.length then some none else none) else σ[i]?
  | [], i => by simp [L2.wipe]
  | v :: vs, i => by
    have ih := wipe_get σ vs i
    unfold L2.wipe
    rw [List.getElem?_set]
    by_cases h : v = i
    · subst h
      rw [if_pos rfl, if_pos List.mem_cons_self, wipe_length]
    · rw [if_neg h, ih]
      by_cases hm : i ∈ vs
      · rw [if_pos hm, if_pos (List.mem_cons_of_mem _ hm)]
      · rw [if_neg hm, if_neg]
        intro z
        rcases List.mem_cons.mp z with z | z
        · exact h z.symm
        · exact hm z
theorem wipe_agr {js vs : List Nat} {σ σ' : L2.St} (a : Agr js (L2.wipe σ vs) σ') (h : ∀ j ∈ js, j ∈ vs) : L2.wipe σ' vs = L2.wipe σ vs := by
  apply List.ext_getElem?
  intro i
  have hl : σ'.length = σ.length := a.len.trans (wipe_length _ _)
  rw [wipe_get, wipe_get, hl]
  by_cases hi : i ∈ vs
  · rw [if_pos hi, if_pos hi]
  · rw [if_neg hi, if_neg hi, a.off i fun z => hi (h i z), wipe_get, if_neg hi]

/-! ### the frame rule -/
theorem Le.cons {O O' : Ow} {B C B' C' : Hp} {a : Addr} {t : Ot} (k : Ok B C ((a, t) :: O)) (l : Le O B C B' C' O') : Le ((a, t) :: O) B C B' C' ((a, t) :: O') := by
  have hn : a ∉ O.map (·.1) := (List.nodup_cons.mp k.nd).1
  obtain ⟨hb, o, hc, ho⟩ := k.own (a, t) List.mem_cons_self
  have hb : B a = none := hb
  have hc : C a = some o := hc
  have hcn : C a ≠ none := by rw [hc]; exact Option.some_ne_none _
  refine ⟨l.base, ⟨l.ok.sub, ?_, fun p hp => ?_⟩, fun x u hx e => l.frame x u (fun z => hx (List.mem_cons_of_mem _ z)) e, l.dom, fun x u hx e n => l.old x u (fun z => hx (List.mem_cons_of_mem _ z)) e n, fun p hp => ?_⟩
  · refine List.nodup_cons.mpr ⟨fun z => ?_, l.ok.nd⟩
    obtain ⟨p, hp, e⟩ := List.mem_map.mp z
    have e : p.1 = a := e
    rcases l.own p hp with q | q
    · exact hn (e ▸ q)
    · rw [e] at q
      exact hcn q
  · rcases List.mem_cons.mp hp with rfl | hp
    · exact ⟨(l.old a o hn hc (t.nt ho)).trans hb, o, l.frame a o hn hc, t.mono l.base ho⟩
    · exact l.ok.own p hp
  · rcases List.mem_cons.mp hp with rfl | hp
    · exact .inl List.mem_cons_self
    · rcases l.own p hp with q | q
      · exact .inl (List.mem_cons_of_mem _ q)
      · exact .inr q
theorem Ok.tail {O : Ow} {B C : Hp} {p : Addr × Ot} (k : Ok B C (p :: O)) : Ok B C O := ⟨k.sub, (List.nodup_cons.mp k.nd).2, fun q hq => k.own q (List.mem_cons_of_mem _ hq)⟩

/-! ### what is walked -/
structure Wk (J : It) (B : Hp) (ds : List D) (need : Ow → Prop) : Prop where
  at_ : ∀ (O : Ow) (B1 C1 : Hp) (i : Nat) (d : D), need O → Same B B1 → Ok B1 C1 O → ds[i]? = some d → J.go i C1 ∧ ∀ x C2, J.yld i C1 x C2 → ∃ B2, Le O B1 C1 B2 C2 O ∧ Dt B2 x d
  fin : ∀ (O : Ow) (B1 C1 : Hp), need O → Same B B1 → Ok B1 C1 O → J.stop ds.length C1
theorem Wk.mono {J : It} {B B' : Hp} {ds : List D} {need : Ow → Prop} (w : Wk J B ds need) (s : Same B B') : Wk J B' ds need :=
  ⟨fun O B1 C1 i d n z => w.at_ O B1 C1 i d n (s.trans z), fun O B1 C1 n z => w.fin O B1 C1 n (s.trans z)⟩
def Ic (wi : TI) (τ : Tau) (O : Ow) (Ψ : List D → (Ow → Prop) → Ow → Prop) : Prop := ∀ σ B C, Sl B σ τ → Ok B C O → ∀ R : It → Hp → Prop,
  (∀ J ds need B' C' O', Ψ ds need O' → Le O B C B' C' O' → Wk J B' ds need → R J C') → wi σ C R
abbrev Any : Ow → Prop := fun _ => True
section
variable {K : PySem.W.Frag} {τ : Tau} {O : Ow} {te tl : TE} {Ψ : List D → (Ow → Prop) → Ow → Prop}
theorem wk_list {B : Hp} {a : Addr} {xs : List V} {ds : List D} (h : B a = some (.lst xs)) (hd : DtL B xs ds) : Wk (Itl K a) B ds Any :=
  ⟨fun O B1 C1 i d _ s k e => by
    obtain ⟨x, hx, hv⟩ := (hd.mono s).get e
    have sq : SqL K C1 a xs := .inl (.inl (k.sub _ _ (s _ _ h)))
    refine ⟨⟨xs, x, sq, hx⟩, fun y C2 ⟨e2, f⟩ => ?_⟩
    subst e2
    have := f xs sq
    rw [hx] at this
    obtain rfl := Option.some.inj this
    exact ⟨B1, k.le, hv⟩, fun O B1 C1 _ s k => ⟨xs, .inl (.inl (k.sub _ _ (s _ _ h))), by rw [hd.length]; exact Nat.le_refl _⟩⟩
theorem wk_tup {B : Hp} {a : Addr} {xs : List V} {ds : List D} (h : B a = some (.tup xs)) (hd : DtL B xs ds) : Wk (Itt K a) B ds Any :=
  ⟨fun O B1 C1 i d _ s k e => by
    obtain ⟨x, hx, hv⟩ := (hd.mono s).get e
    have sq : SqT K C1 a xs := .inl (.inl (k.sub _ _ (s _ _ h)))
    refine ⟨⟨xs, x, sq, hx⟩, fun y C2 ⟨e2, f⟩ => ?_⟩
    subst e2
    have := f xs sq
    rw [hx] at this
    obtain rfl := Option.some.inj this
    exact ⟨B1, k.le, hv⟩, fun O B1 C1 _ s k => ⟨xs, .inl (.inl (k.sub _ _ (s _ _ h))), by rw [hd.length]; exact Nat.le_refl _⟩⟩
theorem ic_list (h : Ec tl τ O fun d O1 => ∃ ds, d = .lst ds ∧ Ψ ds Any O1) : Ic (iList K tl) τ O Ψ := fun σ B C s o R f =>
  h σ B C s o _ fun v d B1 C1 O1 ⟨ds, e, p⟩ l hd => by
    subst e
    cases hd with
    | lst ha hl => exact ⟨_, rfl, ⟨_, .inl (.inl (l.ok.sub _ _ ha))⟩, f _ ds Any B1 C1 O1 p l (wk_list ha hl)⟩
theorem ic_tup (h : Ec tl τ O fun d O1 => ∃ ds, d = .tup ds ∧ Ψ ds Any O1) : Ic (iTup K tl) τ O Ψ := fun σ B C s o R f =>
  h σ B C s o _ fun v d B1 C1 O1 ⟨ds, e, p⟩ l hd => by
    subst e
    cases hd with
    | tup ha hl => exact ⟨_, rfl, ⟨_, .inl (.inl (l.ok.sub _ _ ha))⟩, f _ ds Any B1 C1 O1 p l (wk_tup ha hl)⟩
/-- a walk of either kind -/
def iOr (a b : TI) : TI := fun σ H R => a σ H R ∨ b σ H R
theorem pi_or {X : Cx} {tg iter : Expr} {a b : TI} (h1 : PI X tg iter a) (h2 : PI X tg iter b) : PI X tg iter (iOr a b) :=
  ⟨fun pins s σ H R I h => h.elim (h1.run pins s σ H R I) (h2.run pins s σ H R I)⟩
theorem ic_or1 {a b : TI} (h : Ic a τ O Ψ) : Ic (iOr a b) τ O Ψ := fun σ B C s o R f => .inl (h σ B C s o R f)
theorem ic_or2 {a b : TI} (h : Ic b τ O Ψ) : Ic (iOr a b) τ O Ψ := fun σ B C s o R f => .inr (h σ B C s o R f)
def rngD (lo : Int) (n : Nat) : List D := (List.range n).map fun (i : Nat) => D.int (lo + (i : Int))
theorem wk_rng {B : Hp} {lo : Int} {n : Nat} : Wk (Itr lo n) B (rngD lo n) Any :=
  ⟨fun O B1 C1 i d _ s k e => by
    unfold rngD at e
    rw [List.getElem?_map] at e
    have hi : i < n := by
      cases q : (List.range n)[i]? with
      | none => rw [q] at e; cases e
      | some z =>
        have := (List.getElem?_eq_some_iff.mp q).1
        simpa using this
    rw [List.getElem?_range hi] at e
    obtain rfl := Option.some.inj e
    refine ⟨hi, fun y C2 ⟨e2, e3⟩ => ?_⟩
    subst e2 e3
    exact ⟨B1, k.le, .int _⟩, fun O B1 C1 _ s k => by
    show n ≤ (rngD lo n).length
    unfold rngD
    simp⟩
theorem ic_rng1 {ta : TA} (h : Ac ta τ O fun ds O1 => ∃ j : Int, ds = [.int j] ∧ -(2 ^ 62) ≤ j ∧ j < 2 ^ 62 ∧ Ψ (rngD 0 j.toNat) Any O1) : Ic (iRng1 ta) τ O Ψ := fun σ B C s o R f =>
  h σ B C s o _ fun vs ds B1 C1 O1 ⟨j, e, h1, h2, p⟩ l hd => by
    subst e
    cases hd with
    | cons a b =>
      cases a
      cases b
      exact ⟨j, rfl, h1, h2, f _ _ Any B1 C1 O1 p l wk_rng⟩
theorem ic_rng2 {ta : TA} (h : Ac ta τ O fun ds O1 => ∃ i j : Int, ds = [.int i, .int j] ∧ (-(2 ^ 62) ≤ i ∧ i < 2 ^ 62 ∧ -(2 ^ 62) ≤ j ∧ j < 2 ^ 62) ∧ Ψ (rngD i (j - i).toNat) Any O1) : Ic (iRng2 ta) τ O Ψ := fun σ B C s o R f =>
  h σ B C s o _ fun vs ds B1 C1 O1 ⟨i, j, e, h1, p⟩ l hd => by
    subst e
    cases hd with
    | cons a b =>
      cases a
      cases b with
      | cons a b =>
        cases a
        cases b
        exact ⟨i, j, rfl, h1, f _ _ Any B1 C1 O1 p l wk_rng⟩
end

/-! ### loops -/
section
variable {K : PySem.W.Frag} {τ : Tau} {O : Ow} {te tl : TE} {tt : TT} {wi : TI} {g : TG} {tb : TS} {E : De} {Φ : Cd}
theorem sc_for (h : Ic wi τ O fun ds need O1 => ∃ IV : Nat → Tau → Ow → Prop, IV 0 τ O1 ∧ (∀ i τ1 O2, IV i τ1 O2 → need O2) ∧
      (∀ i x τ1 O2, ds[i]? = some x → IV i τ1 O2 → ∃ js τ2, Gc g js x τ1 τ2 ∧ Sc tb { E with nx := IV (i + 1), ct := IV (i + 1), bk := E.nx } τ2 O2) ∧
      ∀ τ1 O2, IV ds.length τ1 O2 → E.nx τ1 O2) : Sc (tFor wi g tb) E τ O := fun σ B C s o F f =>
  h σ B C s o _ fun J ds need B1 C1 O1 ⟨IV, h0, hn, hs, hd⟩ l wk => by
    refine ⟨fun i m σ' H => i + m = ds.length ∧ ∃ τ1 O2 B2, IV i τ1 O2 ∧ Sl B2 σ' τ1 ∧ Le O B C B2 H O2 ∧ Same B1 B2, ⟨ds.length, by omega, τ, O1, B1, h0, s.mono l.base, l, Same.refl _⟩, ?_⟩
    rintro i m σ' H ⟨him, τ1, O2, B2, hI, s2, l2, sb⟩
    cases m with
    | zero =>
      have hi : i = ds.length := by omega
      subst hi
      exact .inl ⟨wk.fin O2 B2 H (hn _ _ _ hI) sb l2.ok, f.nx σ' τ1 B2 H O2 (hd _ _ hI) l2 s2⟩
    | succ m =>
      have hi : i < ds.length := by omega
      obtain ⟨x, hx⟩ : ∃ x, ds[i]? = some x := ⟨_, List.getElem?_eq_getElem hi⟩
      obtain ⟨go, yl⟩ := wk.at_ O2 B2 H i x (hn _ _ _ hI) sb l2.ok hx
      obtain ⟨js, τ2, hg, hb⟩ := hs i x τ1 O2 hx hI
      refine .inr ⟨go, fun σ' H' => ∃ τ1 O2 B2, IV (i + 1) τ1 O2 ∧ Sl B2 σ' τ1 ∧ Le O B C B2 H' O2 ∧ Same B1 B2, fun σ' H' ⟨τ1, O2, B2, a, b, c, d⟩ => ⟨m, Nat.lt_succ_self _, by omega, τ1, O2, B2, a, b, c, d⟩, fun y H' hy => ?_⟩
      obtain ⟨B3, l3, dy⟩ := yl y H' hy
      refine hg σ' B3 H' y (s2.mono l3.base) l3.ok.sub dy _ fun σ3 s3 _ => ?_
      have lt := l2.trans l3
      have fin : FinS O2 B3 H' (IV (i + 1)) fun σ' H' => ∃ τ1 O2 B2, IV (i + 1) τ1 O2 ∧ Sl B2 σ' τ1 ∧ Le O B C B2 H' O2 ∧ Same B1 B2 := fun σ4 τ4 B4 C4 O4 p l4 s4 => ⟨τ4, O4, B4, p, s4, lt.trans l4, (sb.trans l3.base).trans l4.base⟩
      exact hb σ3 B3 H' s3 l3.ok _ ⟨fin, f.rt.back lt, f.nx.back lt, fin⟩
theorem sc_while {tc : TT} (m0 : Nat) (IV : Nat → Tau → Ow → Prop) (h0 : IV m0 τ O)
    (hs : ∀ m τ1 O1, IV m τ1 O1 → Tc tc τ1 O1 fun b O2 => if b = true then Sc tb { E with nx := fun τ' O' => ∃ m', m' < m ∧ IV m' τ' O', ct := fun τ' O' => ∃ m', m' < m ∧ IV m' τ' O', bk := E.nx } τ1 O2 else E.nx τ1 O2) :
    Sc (tWhile tc tb) E τ O := fun σ B C s o F f => by
  refine ⟨fun m σ' H => ∃ τ1 O1 B1, IV m τ1 O1 ∧ Sl B1 σ' τ1 ∧ Le O B C B1 H O1, ⟨m0, τ, O, B, h0, s, o.le⟩, ?_⟩
  rintro m σ' H ⟨τ1, O1, B1, hI, s1, l1⟩
  refine hs m τ1 O1 hI σ' B1 H s1 l1.ok _ fun b B2 H2 O2 p l2 => ?_
  have lt := l1.trans l2
  cases b with
  | true =>
    have p : Sc tb { E with nx := fun τ' O' => ∃ m', m' < m ∧ IV m' τ' O', ct := fun τ' O' => ∃ m', m' < m ∧ IV m' τ' O', bk := E.nx } τ1 O2 := p
    show ∃ N : L2.St → Hp → Prop, _
    refine ⟨fun σ' H' => ∃ m', m' < m ∧ ∃ τ1 O1 B1, IV m' τ1 O1 ∧ Sl B1 σ' τ1 ∧ Le O B C B1 H' O1, fun σ' H' z => z, ?_⟩
    have fin : FinS O2 B2 H2 (fun τ' O' => ∃ m', m' < m ∧ IV m' τ' O') fun σ' H' => ∃ m', m' < m ∧ ∃ τ1 O1 B1, IV m' τ1 O1 ∧ Sl B1 σ' τ1 ∧ Le O B C B1 H' O1 := fun σ4 τ4 B4 C4 O4 ⟨m', hm, q⟩ l4 s4 => ⟨m', hm, τ4, O4, B4, q, s4, lt.trans l4⟩
    exact p σ' B2 H2 (s1.mono l2.base) l2.ok _ ⟨fin, f.rt.back lt, f.nx.back lt, fin⟩
  | false => exact f.nx σ' τ1 B2 H2 O2 p lt (s1.mono l2.base)

/-! ### comprehensions -/
theorem ec_lc {vs : List Nat} (h : Ic wi τ O fun ds need O1 => ds.length ≤ sizeLine ∧ ∃ IV : Nat → List D → Ow → Prop, IV 0 [] O1 ∧ (∀ i acc O2, IV i acc O2 → need O2 ∧ acc.length ≤ i) ∧
      (∀ i x acc O2, ds[i]? = some x → IV i acc O2 → ∃ js τ2, (∀ j ∈ js, j ∈ vs) ∧ Gc g js x (wipeT τ vs) τ2 ∧ Tc tt τ2 O2 fun b O3 => if b = true then Ec te τ2 O3 fun y O4 => IV (i + 1) (acc ++ [y]) O4 else IV (i + 1) acc O3) ∧
      ∀ acc O2, IV ds.length acc O2 → Φ (.lst acc) O2 ∨ ∀ p, Φ (.adr p) ((p, oLst acc) :: O2)) : Ec (tLc wi g tt te vs) τ O Φ := fun σ B C s o Q f =>
  h σ B C s o _ fun J ds need B1 C1 O1 ⟨hz, IV, h0, hn, hs, hd⟩ l wk Dl hD => by
    have lD := l.ok.layO (o := .lst []) (t := oLst []) hD ⟨[], rfl, .nil⟩
    refine ⟨fun i m H => i + m = ds.length ∧ ∃ acc O2 B2, IV i acc O2 ∧ Le O B C B2 H ((Dl, oLst acc) :: O2) ∧ Same B1 B2, ⟨ds.length, by omega, [], O1, B1, h0, l.trans lD, Same.refl _⟩, ?_⟩
    rintro i m H ⟨him, acc, O2, B2, hI, l2, sb⟩
    obtain ⟨hn1, hn2⟩ := hn _ _ _ hI
    have ok2 : Ok B2 H O2 := l2.ok.tail
    cases m with
    | zero =>
      have hi : i = ds.length := by omega
      subst hi
      refine .inl ⟨wk.fin O2 B2 H hn1 sb ok2, ?_⟩
      rcases hd _ _ hI with p | p
      · obtain ⟨hb, ob, hc, xs, e, hx⟩ := l2.ok.own (Dl, oLst acc) List.mem_cons_self
        subst e
        have lf := l2.ok.freeze (j := 0) rfl hc
        exact f _ _ _ _ _ p (l2.trans lf) (.lst upd_same (hx.mono lf.base))
      · exact f _ _ _ _ _ (p Dl) l2 (.adr Dl)
    | succ m =>
      have hi : i < ds.length := by omega
      obtain ⟨x, hx⟩ : ∃ x, ds[i]? = some x := ⟨_, List.getElem?_eq_getElem hi⟩
      obtain ⟨go, yl⟩ := wk.at_ O2 B2 H i x hn1 sb ok2 hx
      obtain ⟨js, τ2, hj, hg, hb⟩ := hs i x acc O2 hx hI
      refine .inr ⟨go, fun H' => ∃ acc O2 B2, IV (i + 1) acc O2 ∧ Le O B C B2 H' ((Dl, oLst acc) :: O2) ∧ Same B1 B2, fun H' ⟨acc, O2, B2, a, b, c⟩ => ⟨m, Nat.lt_succ_self _, by omega, acc, O2, B2, a, b, c⟩, fun y H' hy => ?_⟩
      obtain ⟨B3, l3, dy⟩ := yl y H' hy
      have l3' := Le.cons l2.ok l3
      have sw : Sl B3 (L2.wipe σ vs) (wipeT τ vs) := (s.mono ((l2.trans l3').base)).wipe vs
      refine hg _ B3 H' y sw l3.ok.sub dy _ fun σ3 s3 ag => ⟨wipe_agr ag hj, ?_⟩
      refine hb σ3 B3 H' s3 l3.ok _ fun b B4 H4 O4 p l4 => ?_
      have l4' := Le.cons (l2.trans l3').ok l4
      have l24 := (l2.trans l3').trans l4'
      have sb4 := (sb.trans l3.base).trans l4.base
      cases b with
      | false => exact ⟨acc, O4, B4, p, l24, sb4⟩
      | true =>
        have p : Ec te τ2 O4 fun y O4 => IV (i + 1) (acc ++ [y]) O4 := p
        show te σ3 H4 _
        refine p σ3 B4 H4 (s3.mono l4.base) l4.ok _ fun v d B5 H5 O5 q l5 dv => ?_
        have l5' := Le.cons l24.ok l5
        have l25 := l24.trans l5'
        obtain ⟨hb5, ob, hc5, xs, e, hxs⟩ := l25.ok.own (Dl, oLst acc) List.mem_cons_self
        subst e
        refine ⟨xs, hc5, by rw [hxs.length]; omega, acc ++ [d], O5, B5, q, ?_, sb4.trans l5.base⟩
        exact l25.trans (l25.ok.write (j := 0) (u := oLst (acc ++ [d])) rfl ⟨_, rfl, hxs.append (.one dv)⟩)
/-- a comprehension that maps and filters, nothing changed on the way -/
theorem ec_lcp {vs : List Nat} {α : Type} (xs : List α) (enc : α → D) (b : α → Bool) (e : α → D) (hI : Ic wi τ O fun ds need O1 => ds = xs.map enc ∧ O1 = O ∧ need O) (hz : xs.length ≤ sizeLine)
    (hs : ∀ x ∈ xs, ∃ js τ2, (∀ j ∈ js, j ∈ vs) ∧ Gc g js (enc x) (wipeT τ vs) τ2 ∧ Tc tt τ2 O fun c O' => O' = O ∧ c = b x ∧ (c = true → Ec te τ2 O fun y O' => y = e x ∧ O' = O))
    (hΦ : Φ (.lst ((xs.filter b).map e)) O ∨ ∀ p, Φ (.adr p) ((p, oLst ((xs.filter b).map e)) :: O)) : Ec (tLc wi g tt te vs) τ O Φ := by
  refine ec_lc fun σ B C s o R f => hI σ B C s o R fun J ds need B' C' O' ⟨h1, h2, h3⟩ l w => f J ds need B' C' O' ?_ l w
  subst h1 h2
  refine ⟨by rw [List.length_map]; exact hz, fun i acc O2 => O2 = O' ∧ acc = (((xs.take i).filter b).map e), ⟨rfl, rfl⟩, ?_, ?_, ?_⟩
  · rintro i acc O2 ⟨rfl, rfl⟩
    refine ⟨h3, ?_⟩
    rw [List.length_map]
    exact Nat.le_trans (List.length_filter_le _ _) (by rw [List.length_take]; exact Nat.min_le_left _ _)
  · rintro i d acc O2 hd ⟨rfl, rfl⟩
    rw [List.getElem?_map] at hd
    cases hx : xs[i]? with
    | none => rw [hx] at hd; cases hd
    | some x =>
      rw [hx] at hd
      obtain rfl := Option.some.inj hd
      obtain ⟨js, τ2, hj, hg, ht⟩ := hs x (List.mem_of_getElem? hx)
      refine ⟨js, τ2, hj, hg, ht.imp fun c O3 ⟨e1, e2, e3⟩ => ?_⟩
      subst e1
      have tk : xs.take (i + 1) = xs.take i ++ [x] := by rw [List.take_add_one, hx]; rfl
      cases c with
      | true =>
        show Ec te τ2 O3 _
        refine (e3 rfl).imp fun y O4 ⟨a1, a2⟩ => ⟨a2, ?_⟩
        rw [tk, List.filter_append, List.map_append, a1]
        congr 1
        rw [List.filter_cons, ← e2]
        rfl
      | false =>
        show _ ∧ _
        refine ⟨rfl, ?_⟩
        rw [tk, List.filter_append, List.map_append, List.filter_cons, ← e2]
        simp
  · rintro acc O2 ⟨rfl, rfl⟩
    rw [List.length_map, List.take_length]
    exact hΦ
end

/-! ### defs -/
/-- a promise by data: W tells what must hold of the arguments and of what is ours so that an end as Φ says is reached -/
def spW (W : List D → Ow → Cd → Prop) : Sp := fun vs C Q _ => ∃ B O ds Φ, Ok B C O ∧ DtL B vs ds ∧ W ds O Φ ∧ Fin_ O B C Φ Q
theorem ec_call {W : List D → Ow → Cd → Prop} {ta : TA} {τ : Tau} {O : Ow} {Φ : Cd} (h : Ac ta τ O fun ds O1 => W ds O1 Φ) : Ec (tCall (spW W) [] E0 ta) τ O Φ := fun σ B C s o Q f =>
  h σ B C s o _ fun vs ds B1 C1 O1 p l hd => by
    rw [List.append_nil]
    exact ⟨B1, O1, ds, Φ, l.ok, hd, p, f.back l⟩
/-- a def's end: what is handed back, None behind the last statement -/
abbrev endOf (Φ : Cd) : De := { nx := fun _ O => Φ .non O, rt := Φ }
theorem sc_def {W : List D → Ow → Cd → Prop} {N : List Str} {t : TS} {vs : List V} {H : Hp} {Q : VK} {E : XK}
    (h : ∀ ds O Φ, W ds O Φ → Sc t (endOf Φ) (ds.map some ++ List.replicate (N.length - ds.length) none) O) (p : spW W vs H Q E) : t { nx := fun _ H' => Q .non H', rt := Q } (L2.start N vs) H := by
  obtain ⟨B, O, ds, Φ, o, hd, w, f⟩ := p
  refine h ds O Φ w _ B H (sl_start hd) o _ ⟨fun σ' τ' B' C' O' p l s => f _ _ B' C' O' p l .non, f, fun _ _ _ _ _ p => p.elim, fun _ _ _ _ _ p => p.elim⟩
theorem Sc.imp {t : TS} {E E' : De} {τ : Tau} {O : Ow} (h : Sc t E τ O) (h1 : ∀ τ O, E.nx τ O → E'.nx τ O) (h2 : ∀ d O, E.rt d O → E'.rt d O) (h3 : ∀ τ O, E.bk τ O → E'.bk τ O) (h4 : ∀ τ O, E.ct τ O → E'.ct τ O) : Sc t E' τ O := fun σ B C s o F f =>
  h σ B C s o F ⟨fun σ' τ' B' C' O' p => f.nx σ' τ' B' C' O' (h1 _ _ p), fun v d B' C' O' p => f.rt v d B' C' O' (h2 _ _ p), fun σ' τ' B' C' O' p => f.bk σ' τ' B' C' O' (h3 _ _ p), fun σ' τ' B' C' O' p => f.ct σ' τ' B' C' O' (h4 _ _ p)⟩
section
variable {P : Program} {w : World} {K : PySem.W.Frag} {mg : Str → Option Value} {base : Heap}
/-- a def of the module as callers see it: by its name, its level, its promise -/
structure Kn (P : Program) (w : World) (K : PySem.W.Frag) (mg : Str → Option Value) (base : Heap) (x : Str) (k : Nat) (ps : List Str) (sp : Sp) : Prop where
  ex : ∃ (f : Addr) (fd : FuncData), mg x = some (.ref f) ∧ PySem.W.keepIn K (.ref f) = true ∧ Binds K fd ps [] ∧ FnOk P w K mg base CX0 k f fd ps sp
theorem pe_kn {X : Cx} {x : Str} {k j : Nat} {ps : List Str} {sp : Sp} {p pos : Pos} {e : Expr} {es : List Expr} {t : TA} (F : Kn X.prog X.w X.K X.mg X.base x k ps sp) (hr : Room j X.A) (hkj : k ≤ j) (ha : PA X (e :: es) t) (hg : Gl X x := by rfl) (hdb : (x == ("__debug__" : Str)) = false := by decide)
    (he : starEach (e :: es) X.env = (false, eval e X.env) :: starEach es X.env := by rfl) (hpl : (backTo pos (starEach es X.env)).any (·.1) = false := by rfl) :
    PE X (.Call (.Name x p) (e :: es) [] pos) (tCall sp [] E0 t) := by
  obtain ⟨f, fd, h1, h2, h3, h4⟩ := F.ex
  exact pe_call h4 (hr.mono hkj) hg h1 h2 h3 .nil pass0 ha hdb he hpl
end
end Ab

/-! ## AbC -/
set_option Elab.async false
set_option linter.all false
set_option maxRecDepth 100000
set_option maxHeartbeats 1000000
namespace Ab
open PySem L2
/-! ### the text by places -/
def top (i : Nat) : Stmt := PySem.Challenge.pw_allbids_k49_whole_gains_never_below.main.body.getD i (.Pass ⟨0, 0, 0, 0⟩)
abbrev s_Unlike___init__ : Stmt := inClass (top 4) 0
abbrev s_is_whole : Stmt := top 9
abbrev s_is_ratio : Stmt := top 10
abbrev s_divisor : Stmt := top 11
abbrev s_lowest : Stmt := top 12
abbrev s_told : Stmt := top 13
abbrev s_less : Stmt := top 14
abbrev s_bottom_of : Stmt := top 15
abbrev s_Gap___init__ : Stmt := inClass (top 17) 0
abbrev s_need_kinds_likeness : Stmt := top 18
abbrev s_common_divisor : Stmt := top 20
abbrev s_scale_of : Stmt := top 21
abbrev s_whole_rows : Stmt := top 22
abbrev s_whole_gain : Stmt := top 23
abbrev s_price_tuple : Stmt := top 24
abbrev s_stops_of : Stmt := top 25
abbrev s_orders_of : Stmt := top 26
abbrev s_corners_of : Stmt := top 27
abbrev s_greatest_gap : Stmt := top 28
abbrev s_never_below : Stmt := top 29
abbrev s_need_kinds_bids : Stmt := top 32
abbrev s_is_price_row : Stmt := top 34
abbrev s_is_bid : Stmt := top 35
abbrev s_plain_rows : Stmt := top 36
abbrev s_Bids___init__ : Stmt := inClass (top 37) 0
abbrev s_Bids___add__ : Stmt := inClass (top 37) 2
abbrev s_Bids___neg__ : Stmt := inClass (top 37) 3
abbrev s__law_pen : Stmt := top 39
abbrev s__law_draw : Stmt := top 40
abbrev s__law_pick : Stmt := top 41
abbrev s__law_is_whole : Stmt := top 42
abbrev s__law_gcd : Stmt := top 43
abbrev s__law_q : Stmt := top 44
abbrev s__law_plus : Stmt := top 45
abbrev s__law_minus : Stmt := top 46
abbrev s__law_less : Stmt := top 47
abbrev s__law_is_ratio : Stmt := top 48
abbrev s__law_are_ratios : Stmt := top 49
abbrev s__law_passed : Stmt := top 50
abbrev s__law_merged : Stmt := top 51
abbrev s__law_numbers : Stmt := top 52
abbrev s__law_block : Stmt := top 53
abbrev s__law_scale : Stmt := top 54
abbrev s__law_buyer : Stmt := top 55
abbrev s__law_list : Stmt := top 56
abbrev s__law_made : Stmt := top 57
abbrev s__law_sum : Stmt := top 58
abbrev s__law_best : Stmt := top 59
abbrev s__law_gain : Stmt := top 60
abbrev s__law_gain_at : Stmt := top 61
abbrev s__law_planes : Stmt := top 62
abbrev s__law_fault : Stmt := top 63
abbrev s__law_difference : Stmt := top 64
abbrev s__law_corners : Stmt := top 65
abbrev s__law_wider : Stmt := top 66
abbrev s__law_highest : Stmt := top 67
abbrev s__law_over : Stmt := top 68
abbrev s_law : Stmt := top 69
def d_Unlike___init__ : He.DefD := ⟨("Unlike", some "__init__"), "__init__", "Unlike.__init__", defArgs s_Unlike___init__, defBody s_Unlike___init__, defScope s_Unlike___init__, [], []⟩
def d_is_whole : He.DefD := ⟨("is_whole", none), "is_whole", "is_whole", defArgs s_is_whole, defBody s_is_whole, defScope s_is_whole, [], []⟩
def d_is_ratio : He.DefD := ⟨("is_ratio", none), "is_ratio", "is_ratio", defArgs s_is_ratio, defBody s_is_ratio, defScope s_is_ratio, [], []⟩
def d_divisor : He.DefD := ⟨("divisor", none), "divisor", "divisor", defArgs s_divisor, defBody s_divisor, defScope s_divisor, [], []⟩
def d_lowest : He.DefD := ⟨("lowest", none), "lowest", "lowest", defArgs s_lowest, defBody s_lowest, defScope s_lowest, [], []⟩
def d_told : He.DefD := ⟨("told", none), "told", "told", defArgs s_told, defBody s_told, defScope s_told, [], []⟩
def d_less : He.DefD := ⟨("less", none), "less", "less", defArgs s_less, defBody s_less, defScope s_less, [], []⟩
def d_bottom_of : He.DefD := ⟨("bottom_of", none), "bottom_of", "bottom_of", defArgs s_bottom_of, defBody s_bottom_of, defScope s_bottom_of, [], []⟩
def d_Gap___init__ : He.DefD := ⟨("Gap", some "__init__"), "__init__", "Gap.__init__", defArgs s_Gap___init__, defBody s_Gap___init__, defScope s_Gap___init__, [], []⟩
def d_need_kinds_likeness : He.DefD := ⟨("need_kinds_likeness", none), "need_kinds", "need_kinds", defArgs s_need_kinds_likeness, defBody s_need_kinds_likeness, defScope s_need_kinds_likeness, [], []⟩
def d_common_divisor : He.DefD := ⟨("common_divisor", none), "common_divisor", "common_divisor", defArgs s_common_divisor, defBody s_common_divisor, defScope s_common_divisor, [], []⟩
def d_scale_of : He.DefD := ⟨("scale_of", none), "scale_of", "scale_of", defArgs s_scale_of, defBody s_scale_of, defScope s_scale_of, [], []⟩
def d_whole_rows : He.DefD := ⟨("whole_rows", none), "whole_rows", "whole_rows", defArgs s_whole_rows, defBody s_whole_rows, defScope s_whole_rows, [], []⟩
def d_whole_gain : He.DefD := ⟨("whole_gain", none), "whole_gain", "whole_gain", defArgs s_whole_gain, defBody s_whole_gain, defScope s_whole_gain, [], []⟩
def d_price_tuple : He.DefD := ⟨("price_tuple", none), "price_tuple", "price_tuple", defArgs s_price_tuple, defBody s_price_tuple, defScope s_price_tuple, [], []⟩
def d_stops_of : He.DefD := ⟨("stops_of", none), "stops_of", "stops_of", defArgs s_stops_of, defBody s_stops_of, defScope s_stops_of, [], []⟩
def d_orders_of : He.DefD := ⟨("orders_of", none), "orders_of", "orders_of", defArgs s_orders_of, defBody s_orders_of, defScope s_orders_of, [], []⟩
def d_corners_of : He.DefD := ⟨("corners_of", none), "corners_of", "corners_of", defArgs s_corners_of, defBody s_corners_of, defScope s_corners_of, [], []⟩
def d_greatest_gap : He.DefD := ⟨("greatest_gap", none), "greatest_gap", "greatest_gap", defArgs s_greatest_gap, defBody s_greatest_gap, defScope s_greatest_gap, [], []⟩
def d_never_below : He.DefD := ⟨("never_below", none), "never_below", "never_below", defArgs s_never_below, defBody s_never_below, defScope s_never_below, [], []⟩
def d_need_kinds_bids : He.DefD := ⟨("need_kinds_bids", none), "need_kinds", "need_kinds", defArgs s_need_kinds_bids, defBody s_need_kinds_bids, defScope s_need_kinds_bids, [], []⟩
def d_is_price_row : He.DefD := ⟨("is_price_row", none), "is_price_row", "is_price_row", defArgs s_is_price_row, defBody s_is_price_row, defScope s_is_price_row, [], []⟩
def d_is_bid : He.DefD := ⟨("is_bid", none), "is_bid", "is_bid", defArgs s_is_bid, defBody s_is_bid, defScope s_is_bid, [], []⟩
def d_plain_rows : He.DefD := ⟨("plain_rows", none), "plain_rows", "plain_rows", defArgs s_plain_rows, defBody s_plain_rows, defScope s_plain_rows, [], []⟩
def d_Bids___init__ : He.DefD := ⟨("Bids", some "__init__"), "__init__", "Bids.__init__", defArgs s_Bids___init__, defBody s_Bids___init__, defScope s_Bids___init__, [], []⟩
def d_Bids___add__ : He.DefD := ⟨("Bids", some "__add__"), "__add__", "Bids.__add__", defArgs s_Bids___add__, defBody s_Bids___add__, defScope s_Bids___add__, [], []⟩
def d_Bids___neg__ : He.DefD := ⟨("Bids", some "__neg__"), "__neg__", "Bids.__neg__", defArgs s_Bids___neg__, defBody s_Bids___neg__, defScope s_Bids___neg__, [], []⟩
def d__law_pen : He.DefD := ⟨("_law_pen", none), "_law_pen", "_law_pen", defArgs s__law_pen, defBody s__law_pen, defScope s__law_pen, [], []⟩
def d__law_draw : He.DefD := ⟨("_law_draw", none), "_law_draw", "_law_draw", defArgs s__law_draw, defBody s__law_draw, defScope s__law_draw, [], []⟩
def d__law_pick : He.DefD := ⟨("_law_pick", none), "_law_pick", "_law_pick", defArgs s__law_pick, defBody s__law_pick, defScope s__law_pick, [], []⟩
def d__law_is_whole : He.DefD := ⟨("_law_is_whole", none), "_law_is_whole", "_law_is_whole", defArgs s__law_is_whole, defBody s__law_is_whole, defScope s__law_is_whole, [], []⟩
def d__law_gcd : He.DefD := ⟨("_law_gcd", none), "_law_gcd", "_law_gcd", defArgs s__law_gcd, defBody s__law_gcd, defScope s__law_gcd, [], []⟩
def d__law_q : He.DefD := ⟨("_law_q", none), "_law_q", "_law_q", defArgs s__law_q, defBody s__law_q, defScope s__law_q, [], []⟩
def d__law_plus : He.DefD := ⟨("_law_plus", none), "_law_plus", "_law_plus", defArgs s__law_plus, defBody s__law_plus, defScope s__law_plus, [], []⟩
def d__law_minus : He.DefD := ⟨("_law_minus", none), "_law_minus", "_law_minus", defArgs s__law_minus, defBody s__law_minus, defScope s__law_minus, [], []⟩
def d__law_less : He.DefD := ⟨("_law_less", none), "_law_less", "_law_less", defArgs s__law_less, defBody s__law_less, defScope s__law_less, [], []⟩
def d__law_is_ratio : He.DefD := ⟨("_law_is_ratio", none), "_law_is_ratio", "_law_is_ratio", defArgs s__law_is_ratio, defBody s__law_is_ratio, defScope s__law_is_ratio, [], []⟩
def d__law_are_ratios : He.DefD := ⟨("_law_are_ratios", none), "_law_are_ratios", "_law_are_ratios", defArgs s__law_are_ratios, defBody s__law_are_ratios, defScope s__law_are_ratios, [], []⟩
def d__law_passed : He.DefD := ⟨("_law_passed", none), "_law_passed", "_law_passed", defArgs s__law_passed, defBody s__law_passed, defScope s__law_passed, [], []⟩
def d__law_merged : He.DefD := ⟨("_law_merged", none), "_law_merged", "_law_merged", defArgs s__law_merged, defBody s__law_merged, defScope s__law_merged, [], []⟩
def d__law_numbers : He.DefD := ⟨("_law_numbers", none), "_law_numbers", "_law_numbers", defArgs s__law_numbers, defBody s__law_numbers, defScope s__law_numbers, [], []⟩
def d__law_block : He.DefD := ⟨("_law_block", none), "_law_block", "_law_block", defArgs s__law_block, defBody s__law_block, defScope s__law_block, [], []⟩
def d__law_scale : He.DefD := ⟨("_law_scale", none), "_law_scale", "_law_scale", defArgs s__law_scale, defBody s__law_scale, defScope s__law_scale, [], []⟩
def d__law_buyer : He.DefD := ⟨("_law_buyer", none), "_law_buyer", "_law_buyer", defArgs s__law_buyer, defBody s__law_buyer, defScope s__law_buyer, [], []⟩
def d__law_list : He.DefD := ⟨("_law_list", none), "_law_list", "_law_list", defArgs s__law_list, defBody s__law_list, defScope s__law_list, [], []⟩
def d__law_made : He.DefD := ⟨("_law_made", none), "_law_made", "_law_made", defArgs s__law_made, defBody s__law_made, defScope s__law_made, [], []⟩
def d__law_sum : He.DefD := ⟨("_law_sum", none), "_law_sum", "_law_sum", defArgs s__law_sum, defBody s__law_sum, defScope s__law_sum, [], []⟩
def d__law_best : He.DefD := ⟨("_law_best", none), "_law_best", "_law_best", defArgs s__law_best, defBody s__law_best, defScope s__law_best, [], []⟩
def d__law_gain : He.DefD := ⟨("_law_gain", none), "_law_gain", "_law_gain", defArgs s__law_gain, defBody s__law_gain, defScope s__law_gain, [], []⟩
def d__law_gain_at : He.DefD := ⟨("_law_gain_at", none), "_law_gain_at", "_law_gain_at", defArgs s__law_gain_at, defBody s__law_gain_at, defScope s__law_gain_at, [], []⟩
def d__law_planes : He.DefD := ⟨("_law_planes", none), "_law_planes", "_law_planes", defArgs s__law_planes, defBody s__law_planes, defScope s__law_planes, [], []⟩
def d__law_fault : He.DefD := ⟨("_law_fault", none), "_law_fault", "_law_fault", defArgs s__law_fault, defBody s__law_fault, defScope s__law_fault, [], []⟩
def d__law_difference : He.DefD := ⟨("_law_difference", none), "_law_difference", "_law_difference", defArgs s__law_difference, defBody s__law_difference, defScope s__law_difference, [], []⟩
def d__law_corners : He.DefD := ⟨("_law_corners", none), "_law_corners", "_law_corners", defArgs s__law_corners, defBody s__law_corners, defScope s__law_corners, [], []⟩
def d__law_wider : He.DefD := ⟨("_law_wider", none), "_law_wider", "_law_wider", defArgs s__law_wider, defBody s__law_wider, defScope s__law_wider, [], []⟩
def d__law_highest : He.DefD := ⟨("_law_highest", none), "_law_highest", "_law_highest", defArgs s__law_highest, defBody s__law_highest, defScope s__law_highest, [], []⟩
def d__law_over : He.DefD := ⟨("_law_over", none), "_law_over", "_law_over", defArgs s__law_over, defBody s__law_over, defScope s__law_over, [], []⟩
def d_law : He.DefD := ⟨("law", none), "law", "law", defArgs s_law, defBody s_law, defScope s_law, [], []⟩
/-! ### what the top has left -/
structure Txt (K : PySem.W.Frag) (mg : Str → Option Value) : Prop where
  f_abs : mg "abs" = none
  f_len : mg "len" = none
  f_isinstance : mg "isinstance" = none
  f_int : mg "int" = none
  f_bool : mg "bool" = none
  f_tuple : mg "tuple" = none
  f_list : mg "list" = none
  f_zip : mg "zip" = none
  f_max : mg "max" = none
  f_min : mg "min" = none
  f_sum : mg "sum" = none
  f_all : mg "all" = none
  f_any : mg "any" = none
  f_sorted : mg "sorted" = none
  f_range : mg "range" = none
  f_dict : mg "dict" = none
  g_Bids : mg "Bids" = some (.ref (He.ga K "Bids"))
  mk_Bids : Mk K (He.ga K "Bids") (He.fAd K ("Bids", some "__init__"))
  cls_Bids : Cls K (He.ga K "Bids")
  na_Bids_kinds : NoAttr K (He.ga K "Bids") "kinds"
  na_Bids_rows : NoAttr K (He.ga K "Bids") "rows"
  me_Bids__add__ : Meth K (He.ga K "Bids") "__add__" (He.fAd K ("Bids", some "__add__"))
  me_Bids__neg__ : Meth K (He.ga K "Bids") "__neg__" (He.fAd K ("Bids", some "__neg__"))
  g_Gap : mg "Gap" = some (.ref (He.ga K "Gap"))
  mk_Gap : Mk K (He.ga K "Gap") (He.fAd K ("Gap", some "__init__"))
  cls_Gap : Cls K (He.ga K "Gap")
  na_Gap_gap : NoAttr K (He.ga K "Gap") "gap"
  na_Gap_prices : NoAttr K (He.ga K "Gap") "prices"
  sf_Bids : PySem.W.selfFirst K (He.ga K "Bids") = true
  i_MOST_KINDS : ∃ t, mg "MOST_KINDS" = some (.int 3 t)
  d_Unlike___init__ : ∃ fd, FunD K d_Unlike___init__.name d_Unlike___init__.qual d_Unlike___init__.params d_Unlike___init__.body d_Unlike___init__.scope [] [] (He.fAd K d_Unlike___init__.at_) fd
  g_is_whole : mg "is_whole" = some (.ref (He.fAd K ("is_whole", none)))
  d_is_whole : ∃ fd, FunD K d_is_whole.name d_is_whole.qual d_is_whole.params d_is_whole.body d_is_whole.scope [] [] (He.fAd K d_is_whole.at_) fd
  g_is_ratio : mg "is_ratio" = some (.ref (He.fAd K ("is_ratio", none)))
  d_is_ratio : ∃ fd, FunD K d_is_ratio.name d_is_ratio.qual d_is_ratio.params d_is_ratio.body d_is_ratio.scope [] [] (He.fAd K d_is_ratio.at_) fd
  g_divisor : mg "divisor" = some (.ref (He.fAd K ("divisor", none)))
  d_divisor : ∃ fd, FunD K d_divisor.name d_divisor.qual d_divisor.params d_divisor.body d_divisor.scope [] [] (He.fAd K d_divisor.at_) fd
  g_lowest : mg "lowest" = some (.ref (He.fAd K ("lowest", none)))
  d_lowest : ∃ fd, FunD K d_lowest.name d_lowest.qual d_lowest.params d_lowest.body d_lowest.scope [] [] (He.fAd K d_lowest.at_) fd
  g_told : mg "told" = some (.ref (He.fAd K ("told", none)))
  d_told : ∃ fd, FunD K d_told.name d_told.qual d_told.params d_told.body d_told.scope [] [] (He.fAd K d_told.at_) fd
  g_less : mg "less" = some (.ref (He.fAd K ("less", none)))
  d_less : ∃ fd, FunD K d_less.name d_less.qual d_less.params d_less.body d_less.scope [] [] (He.fAd K d_less.at_) fd
  g_bottom_of : mg "bottom_of" = some (.ref (He.fAd K ("bottom_of", none)))
  d_bottom_of : ∃ fd, FunD K d_bottom_of.name d_bottom_of.qual d_bottom_of.params d_bottom_of.body d_bottom_of.scope [] [] (He.fAd K d_bottom_of.at_) fd
  d_Gap___init__ : ∃ fd, FunD K d_Gap___init__.name d_Gap___init__.qual d_Gap___init__.params d_Gap___init__.body d_Gap___init__.scope [] [] (He.fAd K d_Gap___init__.at_) fd
  g_need_kinds_likeness : mg "need_kinds_likeness" = some (.ref (He.fAd K ("need_kinds_likeness", none)))
  d_need_kinds_likeness : ∃ fd, FunD K d_need_kinds_likeness.name d_need_kinds_likeness.qual d_need_kinds_likeness.params d_need_kinds_likeness.body d_need_kinds_likeness.scope [] [] (He.fAd K d_need_kinds_likeness.at_) fd
  g_common_divisor : mg "common_divisor" = some (.ref (He.fAd K ("common_divisor", none)))
  d_common_divisor : ∃ fd, FunD K d_common_divisor.name d_common_divisor.qual d_common_divisor.params d_common_divisor.body d_common_divisor.scope [] [] (He.fAd K d_common_divisor.at_) fd
  g_scale_of : mg "scale_of" = some (.ref (He.fAd K ("scale_of", none)))
  d_scale_of : ∃ fd, FunD K d_scale_of.name d_scale_of.qual d_scale_of.params d_scale_of.body d_scale_of.scope [] [] (He.fAd K d_scale_of.at_) fd
  g_whole_rows : mg "whole_rows" = some (.ref (He.fAd K ("whole_rows", none)))
  d_whole_rows : ∃ fd, FunD K d_whole_rows.name d_whole_rows.qual d_whole_rows.params d_whole_rows.body d_whole_rows.scope [] [] (He.fAd K d_whole_rows.at_) fd
  g_whole_gain : mg "whole_gain" = some (.ref (He.fAd K ("whole_gain", none)))
  d_whole_gain : ∃ fd, FunD K d_whole_gain.name d_whole_gain.qual d_whole_gain.params d_whole_gain.body d_whole_gain.scope [] [] (He.fAd K d_whole_gain.at_) fd
  g_price_tuple : mg "price_tuple" = some (.ref (He.fAd K ("price_tuple", none)))
  d_price_tuple : ∃ fd, FunD K d_price_tuple.name d_price_tuple.qual d_price_tuple.params d_price_tuple.body d_price_tuple.scope [] [] (He.fAd K d_price_tuple.at_) fd
  g_stops_of : mg "stops_of" = some (.ref (He.fAd K ("stops_of", none)))
  d_stops_of : ∃ fd, FunD K d_stops_of.name d_stops_of.qual d_stops_of.params d_stops_of.body d_stops_of.scope [] [] (He.fAd K d_stops_of.at_) fd
  g_orders_of : mg "orders_of" = some (.ref (He.fAd K ("orders_of", none)))
  d_orders_of : ∃ fd, FunD K d_orders_of.name d_orders_of.qual d_orders_of.params d_orders_of.body d_orders_of.scope [] [] (He.fAd K d_orders_of.at_) fd
  g_corners_of : mg "corners_of" = some (.ref (He.fAd K ("corners_of", none)))
  d_corners_of : ∃ fd, FunD K d_corners_of.name d_corners_of.qual d_corners_of.params d_corners_of.body d_corners_of.scope [] [] (He.fAd K d_corners_of.at_) fd
  g_greatest_gap : mg "greatest_gap" = some (.ref (He.fAd K ("greatest_gap", none)))
  d_greatest_gap : ∃ fd, FunD K d_greatest_gap.name d_greatest_gap.qual d_greatest_gap.params d_greatest_gap.body d_greatest_gap.scope [] [] (He.fAd K d_greatest_gap.at_) fd
  g_never_below : mg "never_below" = some (.ref (He.fAd K ("never_below", none)))
  d_never_below : ∃ fd, FunD K d_never_below.name d_never_below.qual d_never_below.params d_never_below.body d_never_below.scope [] [] (He.fAd K d_never_below.at_) fd
  g_need_kinds_bids : mg "need_kinds_bids" = some (.ref (He.fAd K ("need_kinds_bids", none)))
  d_need_kinds_bids : ∃ fd, FunD K d_need_kinds_bids.name d_need_kinds_bids.qual d_need_kinds_bids.params d_need_kinds_bids.body d_need_kinds_bids.scope [] [] (He.fAd K d_need_kinds_bids.at_) fd
  g_is_price_row : mg "is_price_row" = some (.ref (He.fAd K ("is_price_row", none)))
  d_is_price_row : ∃ fd, FunD K d_is_price_row.name d_is_price_row.qual d_is_price_row.params d_is_price_row.body d_is_price_row.scope [] [] (He.fAd K d_is_price_row.at_) fd
  g_is_bid : mg "is_bid" = some (.ref (He.fAd K ("is_bid", none)))
  d_is_bid : ∃ fd, FunD K d_is_bid.name d_is_bid.qual d_is_bid.params d_is_bid.body d_is_bid.scope [] [] (He.fAd K d_is_bid.at_) fd
  g_plain_rows : mg "plain_rows" = some (.ref (He.fAd K ("plain_rows", none)))
  d_plain_rows : ∃ fd, FunD K d_plain_rows.name d_plain_rows.qual d_plain_rows.params d_plain_rows.body d_plain_rows.scope [] [] (He.fAd K d_plain_rows.at_) fd
  d_Bids___init__ : ∃ fd, FunD K d_Bids___init__.name d_Bids___init__.qual d_Bids___init__.params d_Bids___init__.body d_Bids___init__.scope [] [] (He.fAd K d_Bids___init__.at_) fd
  d_Bids___add__ : ∃ fd, FunD K d_Bids___add__.name d_Bids___add__.qual d_Bids___add__.params d_Bids___add__.body d_Bids___add__.scope [] [] (He.fAd K d_Bids___add__.at_) fd
  d_Bids___neg__ : ∃ fd, FunD K d_Bids___neg__.name d_Bids___neg__.qual d_Bids___neg__.params d_Bids___neg__.body d_Bids___neg__.scope [] [] (He.fAd K d_Bids___neg__.at_) fd
  g__law_pen : mg "_law_pen" = some (.ref (He.fAd K ("_law_pen", none)))
  d__law_pen : ∃ fd, FunD K d__law_pen.name d__law_pen.qual d__law_pen.params d__law_pen.body d__law_pen.scope [] [] (He.fAd K d__law_pen.at_) fd
  g__law_draw : mg "_law_draw" = some (.ref (He.fAd K ("_law_draw", none)))
  d__law_draw : ∃ fd, FunD K d__law_draw.name d__law_draw.qual d__law_draw.params d__law_draw.body d__law_draw.scope [] [] (He.fAd K d__law_draw.at_) fd
  g__law_pick : mg "_law_pick" = some (.ref (He.fAd K ("_law_pick", none)))
  d__law_pick : ∃ fd, FunD K d__law_pick.name d__law_pick.qual d__law_pick.params d__law_pick.body d__law_pick.scope [] [] (He.fAd K d__law_pick.at_) fd
  g__law_is_whole : mg "_law_is_whole" = some (.ref (He.fAd K ("_law_is_whole", none)))
  d__law_is_whole : ∃ fd, FunD K d__law_is_whole.name d__law_is_whole.qual d__law_is_whole.params d__law_is_whole.body d__law_is_whole.scope [] [] (He.fAd K d__law_is_whole.at_) fd
  g__law_gcd : mg "_law_gcd" = some (.ref (He.fAd K ("_law_gcd", none)))
  d__law_gcd : ∃ fd, FunD K d__law_gcd.name d__law_gcd.qual d__law_gcd.params d__law_gcd.body d__law_gcd.scope [] [] (He.fAd K d__law_gcd.at_) fd
  g__law_q : mg "_law_q" = some (.ref (He.fAd K ("_law_q", none)))
  d__law_q : ∃ fd, FunD K d__law_q.name d__law_q.qual d__law_q.params d__law_q.body d__law_q.scope [] [] (He.fAd K d__law_q.at_) fd
  g__law_plus : mg "_law_plus" = some (.ref (He.fAd K ("_law_plus", none)))
  d__law_plus : ∃ fd, FunD K d__law_plus.name d__law_plus.qual d__law_plus.params d__law_plus.body d__law_plus.scope [] [] (He.fAd K d__law_plus.at_) fd
  g__law_minus : mg "_law_minus" = some (.ref (He.fAd K ("_law_minus", none)))
  d__law_minus : ∃ fd, FunD K d__law_minus.name d__law_minus.qual d__law_minus.params d__law_minus.body d__law_minus.scope [] [] (He.fAd K d__law_minus.at_) fd
  g__law_less : mg "_law_less" = some (.ref (He.fAd K ("_law_less", none)))
  d__law_less : ∃ fd, FunD K d__law_less.name d__law_less.qual d__law_less.params d__law_less.body d__law_less.scope [] [] (He.fAd K d__law_less.at_) fd
  g__law_is_ratio : mg "_law_is_ratio" = some (.ref (He.fAd K ("_law_is_ratio", none)))
  d__law_is_ratio : ∃ fd, FunD K d__law_is_ratio.name d__law_is_ratio.qual d__law_is_ratio.params d__law_is_ratio.body d__law_is_ratio.scope [] [] (He.fAd K d__law_is_ratio.at_) fd
  g__law_are_ratios : mg "_law_are_ratios" = some (.ref (He.fAd K ("_law_are_ratios", none)))
  d__law_are_ratios : ∃ fd, FunD K d__law_are_ratios.name d__law_are_ratios.qual d__law_are_ratios.params d__law_are_ratios.body d__law_are_ratios.scope [] [] (He.fAd K d__law_are_ratios.at_) fd
  g__law_passed : mg "_law_passed" = some (.ref (He.fAd K ("_law_passed", none)))
  d__law_passed : ∃ fd, FunD K d__law_passed.name d__law_passed.qual d__law_passed.params d__law_passed.body d__law_passed.scope [] [] (He.fAd K d__law_passed.at_) fd
  g__law_merged : mg "_law_merged" = some (.ref (He.fAd K ("_law_merged", none)))
  d__law_merged : ∃ fd, FunD K d__law_merged.name d__law_merged.qual d__law_merged.params d__law_merged.body d__law_merged.scope [] [] (He.fAd K d__law_merged.at_) fd
  g__law_numbers : mg "_law_numbers" = some (.ref (He.fAd K ("_law_numbers", none)))
  d__law_numbers : ∃ fd, FunD K d__law_numbers.name d__law_numbers.qual d__law_numbers.params d__law_numbers.body d__law_numbers.scope [] [] (He.fAd K d__law_numbers.at_) fd
  g__law_block : mg "_law_block" = some (.ref (He.fAd K ("_law_block", none)))
  d__law_block : ∃ fd, FunD K d__law_block.name d__law_block.qual d__law_block.params d__law_block.body d__law_block.scope [] [] (He.fAd K d__law_block.at_) fd
  g__law_scale : mg "_law_scale" = some (.ref (He.fAd K ("_law_scale", none)))
  d__law_scale : ∃ fd, FunD K d__law_scale.name d__law_scale.qual d__law_scale.params d__law_scale.body d__law_scale.scope [] [] (He.fAd K d__law_scale.at_) fd
  g__law_buyer : mg "_law_buyer" = some (.ref (He.fAd K ("_law_buyer", none)))
  d__law_buyer : ∃ fd, FunD K d__law_buyer.name d__law_buyer.qual d__law_buyer.params d__law_buyer.body d__law_buyer.scope [] [] (He.fAd K d__law_buyer.at_) fd
  g__law_list : mg "_law_list" = some (.ref (He.fAd K ("_law_list", none)))
  d__law_list : ∃ fd, FunD K d__law_list.name d__law_list.qual d__law_list.params d__law_list.body d__law_list.scope [] [] (He.fAd K d__law_list.at_) fd
  g__law_made : mg "_law_made" = some (.ref (He.fAd K ("_law_made", none)))
  d__law_made : ∃ fd, FunD K d__law_made.name d__law_made.qual d__law_made.params d__law_made.body d__law_made.scope [] [] (He.fAd K d__law_made.at_) fd
  g__law_sum : mg "_law_sum" = some (.ref (He.fAd K ("_law_sum", none)))
  d__law_sum : ∃ fd, FunD K d__law_sum.name d__law_sum.qual d__law_sum.params d__law_sum.body d__law_sum.scope [] [] (He.fAd K d__law_sum.at_) fd
  g__law_best : mg "_law_best" = some (.ref (He.fAd K ("_law_best", none)))
  d__law_best : ∃ fd, FunD K d__law_best.name d__law_best.qual d__law_best.params d__law_best.body d__law_best.scope [] [] (He.fAd K d__law_best.at_) fd
  g__law_gain : mg "_law_gain" = some (.ref (He.fAd K ("_law_gain", none)))
  d__law_gain : ∃ fd, FunD K d__law_gain.name d__law_gain.qual d__law_gain.params d__law_gain.body d__law_gain.scope [] [] (He.fAd K d__law_gain.at_) fd
  g__law_gain_at : mg "_law_gain_at" = some (.ref (He.fAd K ("_law_gain_at", none)))
  d__law_gain_at : ∃ fd, FunD K d__law_gain_at.name d__law_gain_at.qual d__law_gain_at.params d__law_gain_at.body d__law_gain_at.scope [] [] (He.fAd K d__law_gain_at.at_) fd
  g__law_planes : mg "_law_planes" = some (.ref (He.fAd K ("_law_planes", none)))
  d__law_planes : ∃ fd, FunD K d__law_planes.name d__law_planes.qual d__law_planes.params d__law_planes.body d__law_planes.scope [] [] (He.fAd K d__law_planes.at_) fd
  g__law_fault : mg "_law_fault" = some (.ref (He.fAd K ("_law_fault", none)))
  d__law_fault : ∃ fd, FunD K d__law_fault.name d__law_fault.qual d__law_fault.params d__law_fault.body d__law_fault.scope [] [] (He.fAd K d__law_fault.at_) fd
  g__law_difference : mg "_law_difference" = some (.ref (He.fAd K ("_law_difference", none)))
  d__law_difference : ∃ fd, FunD K d__law_difference.name d__law_difference.qual d__law_difference.params d__law_difference.body d__law_difference.scope [] [] (He.fAd K d__law_difference.at_) fd
  g__law_corners : mg "_law_corners" = some (.ref (He.fAd K ("_law_corners", none)))
  d__law_corners : ∃ fd, FunD K d__law_corners.name d__law_corners.qual d__law_corners.params d__law_corners.body d__law_corners.scope [] [] (He.fAd K d__law_corners.at_) fd
  g__law_wider : mg "_law_wider" = some (.ref (He.fAd K ("_law_wider", none)))
  d__law_wider : ∃ fd, FunD K d__law_wider.name d__law_wider.qual d__law_wider.params d__law_wider.body d__law_wider.scope [] [] (He.fAd K d__law_wider.at_) fd
  g__law_highest : mg "_law_highest" = some (.ref (He.fAd K ("_law_highest", none)))
  d__law_highest : ∃ fd, FunD K d__law_highest.name d__law_highest.qual d__law_highest.params d__law_highest.body d__law_highest.scope [] [] (He.fAd K d__law_highest.at_) fd
  g__law_over : mg "_law_over" = some (.ref (He.fAd K ("_law_over", none)))
  d__law_over : ∃ fd, FunD K d__law_over.name d__law_over.qual d__law_over.params d__law_over.body d__law_over.scope [] [] (He.fAd K d__law_over.at_) fd
  g_law : mg "law" = some (.ref (He.fAd K ("law", none)))
  d_law : ∃ fd, FunD K d_law.name d_law.qual d_law.params d_law.body d_law.scope [] [] (He.fAd K d_law.at_) fd
section
variable {P : Program} {w : World} {K : PySem.W.Frag} {mg : Str → Option Value} {base : Heap}
theorem kn_mk {x name qual : Str} {params : Arguments} {body : List Stmt} {scope : Scope} {f : Addr} {k : Nat} {N ps : List Str} {W : List D → Ow → Cd → Prop} (hfn : ∃ fd, FunD K name qual params body scope [] [] f fd) (hg : mg x = some (.ref f)) (S : FnScope N ps scope)
    (hb : ∀ (kV doc pm : Value) (an : Option Addr) (cdv ct : Value) (us : List Value), us.length = ps.length → bindArgs (PySem.W.fnOf name qual params body scope .none kV doc pm an cdv ct) ⟨us, []⟩ = pure (ps.zip us)) (len : ∀ ds O Φ, W ds O Φ → ds.length = ps.length)
    (hbody : ∀ (cdv : Value) (A : Around) (outer : List Env) (s : Shared) (H : Hp) (E : XK), Room k (A.deeper (PyProof.Rows.envOfC qual scope s.heap.objs.size f cdv)) →
      ∃ t, PSs (cxOf CX0 P w K mg base N qual scope f cdv A outer s H E).nox body t ∧ ∀ ds O Φ, W ds O Φ → Sc t (endOf Φ) (ds.map some ++ List.replicate (N.length - ds.length) none) O) : Kn P w K mg base x (k + 1) ps (spW W) := by
  obtain ⟨fd, F⟩ := hfn
  have lenV : ∀ vs H Q E, spW W vs H Q E → vs.length = ps.length := fun vs H Q E ⟨B, O, ds, Φ, _, hd, hw, _⟩ => hd.length.trans (len ds O Φ hw)
  refine ⟨f, fd, hg, F.kp, F.bindsN hb, F.ok S lenV fun cdv A outer s H vs Q E hr h => ?_⟩
  obtain ⟨t, ht, hs⟩ := hbody cdv A outer s H E hr
  exact ⟨t, ht.nox, sc_def hs h⟩
end
end Ab

/-! ## AbZ0 -/
set_option Elab.async false
set_option linter.all false
set_option maxRecDepth 100000
set_option maxHeartbeats 0
/-! the head: what the top has left; the end -/
namespace Ab
open PySem L2
abbrev zB (K : PySem.W.Frag) : Addr := He.ga K "Bids"
abbrev zU (K : PySem.W.Frag) : Addr := He.ga K "Unlike"
abbrev zI (K : PySem.W.Frag) : Addr := He.fAd K ("Unlike", some "__init__")
def zfa : List He.Fa := ([.free "abs", .free "len", .free "isinstance", .free "int", .free "bool", .free "tuple", .free "list", .free "zip", .free "max", .free "min", .free "sum", .free "all", .free "any", .free "sorted", .free "range", .free "dict", .glo "Bids", .mkr "Bids", .cls "Bids", .noat "Bids" "kinds", .noat "Bids" "rows", .meth "Bids" "__add__", .meth "Bids" "__neg__", .glo "Gap", .mkr "Gap", .cls "Gap", .noat "Gap" "gap", .noat "Gap" "prices", .int "MOST_KINDS" 3, .glo "is_whole"] : List He.Fa) ++ ([.glo "is_ratio", .glo "divisor", .glo "lowest", .glo "told", .glo "less", .glo "bottom_of", .glo "need_kinds_likeness", .glo "common_divisor", .glo "scale_of", .glo "whole_rows", .glo "whole_gain", .glo "price_tuple", .glo "stops_of", .glo "orders_of", .glo "corners_of", .glo "greatest_gap", .glo "never_below", .glo "need_kinds_bids", .glo "is_price_row", .glo "is_bid", .glo "plain_rows", .glo "_law_pen", .glo "_law_draw", .glo "_law_pick", .glo "_law_is_whole", .glo "_law_gcd", .glo "_law_q", .glo "_law_plus", .glo "_law_minus", .glo "_law_less"] : List He.Fa) ++ ([.glo "_law_is_ratio", .glo "_law_are_ratios", .glo "_law_passed", .glo "_law_merged", .glo "_law_numbers", .glo "_law_block", .glo "_law_scale", .glo "_law_buyer", .glo "_law_list", .glo "_law_made", .glo "_law_sum", .glo "_law_best", .glo "_law_gain", .glo "_law_gain_at", .glo "_law_planes", .glo "_law_fault", .glo "_law_difference", .glo "_law_corners", .glo "_law_wider", .glo "_law_highest", .glo "_law_over", .glo "law", .glo "Unlike", .glo "BadRow", .glo "BidError"] : List He.Fa)
def zfn : List He.DefD := ([d_Unlike___init__, d_is_whole, d_is_ratio, d_divisor, d_lowest, d_told, d_less, d_bottom_of, d_Gap___init__, d_need_kinds_likeness, d_common_divisor, d_scale_of, d_whole_rows, d_whole_gain, d_price_tuple, d_stops_of, d_orders_of, d_corners_of, d_greatest_gap, d_never_below, d_need_kinds_bids, d_is_price_row, d_is_bid, d_plain_rows, d_Bids___init__, d_Bids___add__, d_Bids___neg__, d__law_pen, d__law_draw, d__law_pick] : List He.DefD) ++ ([d__law_is_whole, d__law_gcd, d__law_q, d__law_plus, d__law_minus, d__law_less, d__law_is_ratio, d__law_are_ratios, d__law_passed, d__law_merged, d__law_numbers, d__law_block, d__law_scale, d__law_buyer, d__law_list, d__law_made, d__law_sum, d__law_best, d__law_gain, d__law_gain_at, d__law_planes, d__law_fault, d__law_difference, d__law_corners, d__law_wider, d__law_highest, d__law_over, d_law] : List He.DefD)
def ztf : List He.Defn := [("law", none)]
def oexB (K : PySem.W.Frag) (C : Addr) : Bool := match K.lookup C with
  | some ⟨.type t, _, .cls cd, sl⟩ => (match cd.mro, sl.toList with
    | .ref C' :: bm, [_, _, _, _, some (.builtin n), _] => decide (t = "type") && (decide (C' = C) && (decide (n = "ValueError.__new__") && (!cd.hasDel && (cd.hasDict && PySem.HandSPX.refsVE bm))))
    | _, _ => false)
  | _ => false
theorem oexB_ok {K : PySem.W.Frag} {C : Addr} (h : oexB K C = true) : ∃ nm q N bs bm sn sub ab col dd k0 k1 k2 k3 k5, K.lookup C = some (excClassObj nm q C N bs bm true sn sub ab col dd k0 k1 k2 k3 k5 "ValueError.__new__") ∧ PySem.HandSPX.refsVE bm = true := by
  unfold oexB at h
  split at h
  · rename_i t dd cd sl ho
    split at h
    · rename_i C' bm k0 k1 k2 k3 n k5 hm hs
      simp only [Bool.and_eq_true, decide_eq_true_eq, Bool.not_eq_true'] at h
      obtain ⟨rfl, rfl, rfl, h1, h2, h3⟩ := h
      obtain ⟨nm, bs, mro, N, qn, hd, sn, sub, ab, col, del⟩ := cd
      dsimp only at hm h1 h2
      subst hm h1 h2
      obtain ⟨l⟩ := sl
      have hs : l = [k0, k1, k2, k3, some (.builtin "ValueError.__new__"), k5] := hs
      subst hs
      exact ⟨nm, qn, N, bs, bm, sn, sub, ab, col, dd, k0, k1, k2, k3, k5, ho, h3⟩
    · cases h
  · cases h
def initB (K : PySem.W.Frag) (C : Addr) : Bool := match PySem.W.findCls K (.ref C) (.type "type") "__init__" with
  | some (.val (.builtin s)) => decide (s = "ValueError.__init__")
  | _ => false
theorem initB_ok {K : PySem.W.Frag} {C : Addr} (h : initB K C = true) : PySem.W.findCls K (.ref C) (.type "type") "__init__" = some (.val (.builtin "ValueError.__init__")) := by
  unfold initB at h
  split at h
  · rename_i s e
    rw [e, of_decide_eq_true h]
  · cases h
/-- what is asked beside the facts by names -/
def zex (K : PySem.W.Frag) : Bool := PySem.W.selfFirst K (zB K) && (oexB K (zU K) && (He.eqO (PySem.W.findIn K (.ref (zU K)) "__setattr__") (some (some (.builtin "object.__setattr__"))) && (decide (PySem.W.subIn K (.ref (zU K)) (.type "BaseException") = some true) &&
  (decide (PySem.W.typeIn K (.ref (zU K)) = some (.type "type")) && (PySem.W.keepIn K (.ref (zU K)) && (xfB K (zU K) && (He.eqO (PySem.W.findIn K (.ref (zU K)) "what") (some none) && (He.eqO (PySem.W.findIn K (.ref (zU K)) "__init__") (some (some (.ref (zI K)))) &&
  (decide (PySem.W.typeIn K (.ref (zI K)) = some (.type "function")) && (decide (PySem.W.exmOne K (.ref (zU K)) (.ref (He.ga K "BadRow")) = some false) && (decide (PySem.W.exmOne K (.ref (zU K)) (.ref (zU K)) = some true) &&
  (He.eqO (PySem.W.specialIn K (.ref (He.ga K "BidError")) "__getattribute__") (some (some (.builtin "type.__getattribute__"))) && (PySem.W.readsIn K (He.ga K "BidError") (.type "type") && initB K (He.ga K "BidError"))))))))))))))
abbrev zR : PySem.W.OpenRow := PySem.W.OpenLaw.row PySem.Challenge.rw_allbids_k49_whole_gains_never_below
/-- the part of the heap that is looked at, and what is told of it -/
def zK (g : Addr → Option Obj) : PySem.W.Frag := He.frT g (He.asD g 4 ++ [cStatics])
abbrev zL : He.Defn := ("law", none)
def zo (g : Addr → Option Obj) : He.AlD × Bool := (He.obsD zfa zfn (zK g), zex (zK g) && He.tabsB g ztf (zK g))
structure Says (h : Heap) (K : PySem.W.Frag) : Prop where
  d : He.SaysD zfa zfn K
  ex : zex K = true
  hd : PySem.W.codeHdIn K (He.cT K zL).1 (He.cT K zL).2 = true
  out : K.lookup (He.cT K zL).2 = none
  em : h.get? (He.cT K zL).2 = some { cls := .none, data := .fields #[] }
theorem says_of {h : Heap} (e : zo h.get? = (He.valD zfn, true)) : Says h (zK h.get?) := by
  obtain ⟨e1, e2⟩ := Prod.mk.inj e
  obtain ⟨k1, k2⟩ := He.ba e2
  obtain ⟨k3, k4⟩ := He.ba (List.all_eq_true.mp k2 zL (List.mem_singleton_self _))
  have tab : ∃ o, h.get? (He.cT (zK h.get?) zL).2 = some o ∧ He.emptyTab o = true := by
    revert k4
    cases h.get? (He.cT (zK h.get?) zL).2 with
    | none => exact fun z => nomatch z
    | some o => exact fun z => ⟨o, rfl, z⟩
  obtain ⟨o, o1, o2⟩ := tab
  exact ⟨e1, k1, k3, He.frT_none o1 o2, o1.trans (congrArg some (He.emptyTab_eq o2))⟩
def zhk : PySem.W.Hook where
  α := He.AlD × Bool
  obs := fun s => zo s.heap.get?
  val := fun _ => (He.valD zfn, true)
  says := fun _ h => ∃ K : PySem.W.Frag, K.In h ∧ Says h K
  of := fun _ _ e => ⟨_, He.frT_in, says_of e⟩
  keeps := fun _ _ _ ⟨K, hK, c⟩ k => ⟨K, PySem.W.Frag.In.keeps hK k, c.d, c.ex, c.hd, c.out, k _ _ c.em⟩
def zob (s : PySem.W.SharedT) : He.AlD × Bool := zo (HandSHeadRun.getT s)
theorem zob_eq (s : PySem.W.SharedT) : zob s = zhk.obs s.abs := congrArg zo (funext (HandSHeadRun.getT_eq s))
def zlo : List Str := (["BidError", "BadNumber", "BadRow", "Unlike", "TooMany", "TooLarge", "NoBuyer", "is_whole", "is_ratio", "divisor", "lowest", "told", "less", "bottom_of", "Gap", "need_kinds", "need_kinds_likeness", "common_divisor", "scale_of", "whole_rows"] : List Str) ++ (["whole_gain", "price_tuple", "stops_of", "orders_of", "corners_of", "greatest_gap", "never_below", "MOST_KINDS", "need_kinds_bids", "is_price_row", "is_bid", "plain_rows", "Bids", "_law_pen", "_law_draw", "_law_pick", "_law_is_whole", "_law_gcd", "_law_q", "_law_plus"] : List Str) ++ (["_law_minus", "_law_less", "_law_is_ratio", "_law_are_ratios", "_law_passed", "_law_merged", "_law_numbers", "_law_block", "_law_scale", "_law_buyer", "_law_list", "_law_made", "_law_sum", "_law_best", "_law_gain", "_law_gain_at", "_law_planes", "_law_fault", "_law_difference", "_law_corners"] : List Str) ++ (["_law_wider", "_law_highest", "_law_over"] : List Str)
theorem zrun (w : World) : HandSHeadRun.RunEq zR (PySem.W.view zR.prog [69]) zhk zob 20000 zlo w := by
  intro os
  kernel_rfl
end Ab

/-! ## AbZp -/
set_option Elab.async false
set_option linter.all false
set_option maxRecDepth 100000
set_option maxHeartbeats 1000000
namespace Ab
open PySem L2
/-! ### zip of a list and a tuple -/
/-- the pairs of a list's and a tuple's items -/
def Itm (K : PySem.W.Frag) (a b : Addr) : It where
  go := fun i H => ∃ (xs ys : List V) (x y : V), SqL K H a xs ∧ SqT K H b ys ∧ xs[i]? = some x ∧ ys[i]? = some y
  yld := fun i H v H' => ∃ T x y, v = .ref T ∧ H T = none ∧ H' = upd H T (.tup [x, y]) ∧ (∀ xs, SqL K H a xs → xs[i]? = some x) ∧ ∀ ys, SqT K H b ys → ys[i]? = some y
  stop := fun i H => ∃ xs ys : List V, SqL K H a xs ∧ SqT K H b ys ∧ i ≤ xs.length ∧ i ≤ ys.length ∧ (i = xs.length ∨ i = ys.length)
section
variable {P : Program} {w : World} {K : PySem.W.Frag}
theorem in5 {c z t u i j : Addr} (h : c ∈ [z, t, u, i, j]) : c = z ∨ c = t ∨ c = u ∨ c = i ∨ c = j := by
  simpa only [List.mem_cons, List.not_mem_nil, or_false] using h
/-- how the zip's own objects lie at turn i -/
structure ZmAt (z t u p q a b : Addr) (i : Nat) (h : Heap) : Prop where
  zip : IsZip h z t u .none
  its : IsPair h t (.ref p) (.ref q)
  out : ∃ x y, IsPair h u x y
  one : h.IsListIter p a i
  two : h.IsTupleIter q b i
theorem ZmAt.objs {z t u p q a b : Addr} {i : Nat} {h : Heap} (m : ZmAt z t u p q a b i h) : ∀ c ∈ [z, t, u, p, q], ∃ o, h.get? c = some o ∧ ∀ v, o.data ≠ .cell v := fun c hc => by
  obtain ⟨x, y, ho⟩ := m.out
  obtain ⟨o1, e1, _, f1⟩ := m.one
  obtain ⟨o2, e2, _, f2⟩ := m.two
  rcases in5 hc with r | r | r | r | r <;> subst r
  · exact ⟨_, m.zip, fun _ e => nomatch e⟩
  · exact ⟨_, m.its, fun _ e => nomatch e⟩
  · exact ⟨_, ho, fun _ e => nomatch e⟩
  · exact ⟨o1, e1, fun _ e => nomatch (f1.symm.trans e)⟩
  · exact ⟨o2, e2, fun _ e => nomatch (f2.symm.trans e)⟩
theorem ZmAt.move {z t u p q a b : Addr} {i : Nat} {h h' : Heap} (m : ZmAt z t u p q a b i h) (k : ∀ c ∈ [z, t, u, p, q], ∀ o, h.get? c = some o → h'.get? c = some o) : ZmAt z t u p q a b i h' := by
  obtain ⟨x, y, ho⟩ := m.out
  exact ⟨k z (by simp) _ m.zip, k t (by simp) _ m.its, ⟨x, y, k u (by simp) _ ho⟩, m.one.at (k p (by simp)), m.two.at (k q (by simp))⟩
theorem turn_zm {elts : List Expr} {kk : Nat} {tpos : Pos} {a b z t u p q : Addr} (S : ZipSep2 z t u p q [p, a] [q, b]) (hpa : a ≠ p) (hqb : b ≠ q) :
    Turn P w K (.Tuple elts kk tpos) (Itm K a b) [z, t, u, p, q] z (ZmAt z t u p q a b) := by
  have pz : p ≠ z := S.zi1.symm
  have qz : q ≠ z := S.zi2.symm
  refine { mem := List.mem_cons_self, obj := fun i h m => m.objs, keep := fun i h h' m k => m.move k, item := ?_, done := ?_, self := fun A i s Q E m k => wpAny_pyIter_zip m.zip k }
  · rintro X rfl rfl rfl hc i pins s σ H E I hf m ⟨xs, ys, x, y, qx, qy, hx, hy⟩
    obtain ⟨us, ru, pu, _⟩ := I.list qx
    obtain ⟨ws, rw', pw', _⟩ := I.tuple qy
    obtain ⟨u1, hu1, r1⟩ := ru.get hx
    obtain ⟨u2, hu2, r2⟩ := rw'.get hy
    obtain ⟨o1, o2, ho⟩ := m.out
    have hA : X.A.in1.handled = none := I.ok.hd hc
    have li : i < us.toArray.size := by
      have := (List.getElem?_eq_some_iff.mp hu1).1
      simpa using this
    have lj : i < ws.toArray.size := by
      have := (List.getElem?_eq_some_iff.mp hu2).1
      simpa using this
    have zl := Heap.lt_size m.zip
    refine wpAny_pyNext_zipD2_item S (Draws.list hA p a hpa us.toArray) (Draws.tuple hA q b hqb ws.toArray) m.zip m.its ho ⟨m.one, pu.isList⟩ ⟨m.two, pw'⟩ li lj fun x1 x2 h' tk g1 g2 z' o' d1 d2 hT hsz hk => ?_
    have e1 : x1 = u1 := Option.some.inj (g1.symm.trans (by simpa using hu1))
    have e2 : x2 = u2 := Option.some.inj (g2.symm.trans (by simpa using hu2))
    subst e1 e2
    refine ⟨_, rfl, ?_⟩
    refine wpAny_letOwnedTupleGo_zip (s := { s with heap := h', toks := tk }) z' fun h2 z2 sb => ?_
    have old : ∀ c, c ∈ [z, t, u, p, q] → c < s.heap.objs.size := fun c hc => by
      obtain ⟨o, e, _⟩ := m.objs c hc
      exact Heap.lt_size e
    have hT2 : h2.get? s.heap.objs.size = some { cls := .type "tuple", data := .seq #[x1, x2] } := (sb.2 _ (Nat.ne_of_gt zl)).trans hT
    have made : ObjOk X.prog X.w (upd H s.heap.objs.size (.tup [x, y])) h2 s.heap.objs.size (.tup [x, y]) :=
      ⟨by show 2 ≤ sizeLine; decide, [x1, x2], .cons r1 (.cons r2 .nil), _, hT2, rfl, _, rfl⟩
    have kept : ∀ c o, c ∉ [z, t, u, p, q] → s.heap.get? c = some o → h2.get? c = some o := fun c o hn e => by
      have n1 : c ≠ z := fun r => hn (by simp [r])
      exact (sb.2 c n1).trans (hk c o n1 (fun r => hn (by simp [r])) (fun r => hn (by simp [r])) (fun r => hn (by simp [r])) e)
    have J := I.turnedNew (h' := h2) (t' := tk) (ob := .tup [x, y]) kept hf (Nat.le_refl _) made
    refine ⟨.ref s.heap.objs.size, _, J, rfl, ?_, ?_, fun c hc => ?_⟩
    · refine ⟨_, x, y, rfl, I.hok.fresh (Nat.le_refl _), rfl, fun l hl => ?_, fun l hl => ?_⟩
      · rw [I.list_inj hl qx]
        exact hx
      · rw [I.tuple_inj hl qy]
        exact hy
    · refine ⟨z2, ?_, ⟨x1, x2, (sb.2 _ S.TOz).trans o'⟩, d1.1.at fun o e => (sb.2 _ pz).trans e, d2.1.at fun o e => (sb.2 _ qz).trans e⟩
      exact (sb.2 _ S.TIz).trans (hk _ _ S.TIz S.TITO S.TIi1 S.TIi2 m.its)
    · rw [upd_ne (Nat.ne_of_lt (old c hc))]
      exact (hf c hc).1
  · rintro X rfl rfl rfl hc i pins s σ H E I hf m ⟨xs, ys, qx, qy, l1, l2, l3⟩
    obtain ⟨us, ru, pu, _⟩ := I.list qx
    obtain ⟨ws, rw', pw', _⟩ := I.tuple qy
    obtain ⟨o1, o2, ho⟩ := m.out
    have hA : X.A.in1.handled = none := I.ok.hd hc
    have n1 : us.toArray.size = xs.length := by
      rw [ru.length]
      simp
    have n2 : ws.toArray.size = ys.length := by
      rw [rw'.length]
      simp
    refine wpAny_pyNext_zipD2_end S (Draws.list hA p a hpa us.toArray) (Draws.tuple hA q b hqb ws.toArray) m.zip m.its ho ⟨m.one, pu.isList⟩ ⟨m.two, pw'⟩ (by omega) (by omega) (by omega) fun h' tk hk => ?_
    exact ⟨rfl, I.turnedL (h' := h') (t' := tk) (fun c o hn e => hk c o (fun r => hn (by simp [r])) (fun r => hn (by simp [r])) (fun r => hn (by simp [r])) (fun r => hn (by simp [r])) e) hf⟩
end
def iZipM (K : PySem.W.Frag) (ta : TA) : TI := fun σ H R => ta σ H fun vs H1 => ∃ a b xs ys, vs = [.ref a, .ref b] ∧ SqL K H1 a xs ∧ SqT K H1 b ys ∧ R (Itm K a b) H1
theorem pi_zipM {X : Cx} {e e2 : Expr} {ta : TA} {p pos tpos : Pos} {elts : List Expr} {kk : Nat} (hg : Gl X "zip") (hm : X.mg "zip" = none) (ha : PA X [e, e2] ta)
    (s2 : starEach [e, e2] X.env = (false, eval e X.env) :: starEach [e2] X.env := by rfl) (pl : (backTo pos (starEach [e2] X.env)).any (·.1) = false := by rfl) :
    PI X (.Tuple elts kk tpos) (.Call (.Name "zip" p) [e, e2] [] pos) (iZipM X.K ta) := ⟨fun pins s σ H R I h => by
  refine PyProof.Rows.Call_ (ld_blt I hg hm PyProof.Rows.boot_zip (PyProof.Rows.callWith_type1 (thn (ha.run pos pins s σ H _ I h) fun us s1 q1 => ?_) s2 pl))
  obtain ⟨vs, H1, I1, r1, a, b, xs, ys, rfl, qx, qy, q⟩ := q1
  cases r1 with
  | cons ra rr =>
    cases rr with
    | cons rb rr =>
      cases rr
      cases ra
      cases rb
      obtain ⟨us, ru, pu, _⟩ := I1.list qx
      obtain ⟨ws, rw', pw', _⟩ := I1.tuple qy
      have la : a < s1.heap.objs.size := pu.lt
      have lb : b < s1.heap.objs.size := pw'.lt
      refine zip_begins2 (begins_list a us.toArray) (begins_tuple b ws.toArray) pu.isList pw' fun h' z1 z2 z3 z4 z5 hsz hk => wpAny_pyIter_zip z1 ?_
      have S := zip_sep2 (N := s1.heap.objs.size) (fp1 := [a]) (fp2 := [b]) (fun c hc => by rw [List.mem_singleton.mp hc]; exact la) (fun c hc => by rw [List.mem_singleton.mp hc]; exact lb)
      refine ⟨s1.heap.objs.size + 4, [s1.heap.objs.size + 4, s1.heap.objs.size + 2, s1.heap.objs.size + 3, s1.heap.objs.size, s1.heap.objs.size + 1], _, _, H1, rfl, I1.kept (t' := s1.toks) hk, turn_zm S (Nat.ne_of_lt la) (Nat.ne_of_lt (Nat.lt_succ_of_lt lb)), ?_, fun c hc => ?_, q⟩
      · exact ⟨z1, z2, ⟨_, _, z3⟩, ⟨_, z4, rfl, rfl⟩, ⟨_, z5, rfl, rfl⟩⟩
      · have le : s1.heap.objs.size ≤ c := by rcases in5 hc with r | r | r | r | r <;> rw [r] <;> first | exact Nat.le_add_right _ _ | exact Nat.le_refl _
        exact I1.fpOk le (I1.hok.fresh le)⟩
/-! by data -/
def zipD (xs ys : List D) : List D := (xs.zip ys).map fun p => .tup [p.1, p.2]
theorem wk_zm {K : PySem.W.Frag} {B : Hp} {a b : Addr} {xs ys : List V} {ds es : List D} (ha : B a = some (.lst xs)) (hb : B b = some (.tup ys)) (hd : DtL B xs ds) (he : DtL B ys es) : Wk (Itm K a b) B (zipD ds es) Any := by
  refine ⟨fun O B1 C1 i d _ s k e => ?_, fun O B1 C1 _ s k => ?_⟩
  · have qx : SqL K C1 a xs := .inl (.inl (k.sub _ _ (s _ _ ha)))
    have qy : SqT K C1 b ys := .inl (.inl (k.sub _ _ (s _ _ hb)))
    unfold zipD at e
    rw [List.getElem?_map] at e
    cases hz : (ds.zip es)[i]? with
    | none => rw [hz] at e; cases e
    | some pr =>
      rw [hz] at e
      obtain rfl := Option.some.inj e
      obtain ⟨h1, h2⟩ := List.getElem?_zip_eq_some.mp hz
      obtain ⟨x, hx, dx⟩ := (hd.mono s).get h1
      obtain ⟨y, hy, dy⟩ := (he.mono s).get h2
      refine ⟨⟨xs, ys, x, y, qx, qy, hx, hy⟩, fun v C2 ⟨T, x', y', e1, e2, e3, f1, f2⟩ => ?_⟩
      obtain rfl := Option.some.inj ((f1 xs qx).symm.trans hx)
      obtain rfl := Option.some.inj ((f2 ys qy).symm.trans hy)
      subst e1 e3
      have l := k.lay (o := .tup [x', y']) e2
      exact ⟨_, l, .tup upd_same (.cons (dx.mono l.base) (.cons (dy.mono l.base) .nil))⟩
  · have l1 := hd.length
    have l2 := he.length
    have lz : (zipD ds es).length = min ds.length es.length := by
      unfold zipD
      rw [List.length_map, List.length_zip]
    exact ⟨xs, ys, .inl (.inl (k.sub _ _ (s _ _ ha))), .inl (.inl (k.sub _ _ (s _ _ hb))), by omega, by omega, by omega⟩
theorem ic_zm {K : PySem.W.Frag} {ta : TA} {τ : Tau} {O : Ow} {Ψ : List D → (Ow → Prop) → Ow → Prop} (h : Ac ta τ O fun ds O1 => ∃ xs ys, ds = [.lst xs, .tup ys] ∧ Ψ (zipD xs ys) Any O1) : Ic (iZipM K ta) τ O Ψ := fun σ B C s o R f =>
  h σ B C s o _ fun vs ds B1 C1 O1 ⟨xs, ys, e, p⟩ l hd => by
    subst e
    cases hd with
    | cons h1 h2 =>
      cases h2 with
      | cons h2 h3 =>
        cases h3
        cases h1 with
        | lst a1 a2 =>
          cases h2 with
          | tup b1 b2 => exact ⟨_, _, _, _, rfl, .inl (.inl (l.ok.sub _ _ a1)), .inl (.inl (l.ok.sub _ _ b1)), f _ _ Any B1 C1 O1 p l (wk_zm a1 b1 a2 b2)⟩
end Ab

/-! ## AbK -/
set_option Elab.async false
set_option linter.all false
set_option maxRecDepth 100000
set_option maxHeartbeats 1000000
/-! the layer's rules with the written part named: their readings then don't speak of the context -/
namespace Ab
open PySem L2
section
variable {X : Cx} {K : PySem.W.Frag} {tg l : Expr} {tl : TE} {ta : TA}
theorem pg_tupK {es : List Expr} {k : Nat} {t : TGs} {n : Nat} {pos : Pos} (hK : X.K = K) (hc : X.calm = true) (h : PGs X es t)
    (hn : (assignEach es X.env).length = n := by rfl) (hst : (assignEach es X.env).findIdx? (·.1) = none := by rfl) : PG X (.Tuple es k pos) (gTup K n t) := by
  subst hK
  exact pg_tup hc h hn hst
theorem pi_listK (hK : X.K = K) (hl : PE X l tl) : PI X tg l (iList K tl) := by
  subst hK
  exact pi_list hl
theorem pi_tupK (hK : X.K = K) (hl : PE X l tl) : PI X tg l (iTup K tl) := by
  subst hK
  exact pi_tup hl
theorem pi_zipMK {e e2 : Expr} {p pos tpos : Pos} {elts : List Expr} {kk : Nat} (hK : X.K = K) (hg : Gl X "zip") (hm : X.mg "zip" = none) (ha : PA X [e, e2] ta)
    (s2 : starEach [e, e2] X.env = (false, eval e X.env) :: starEach [e2] X.env := by rfl) (pl : (backTo pos (starEach [e2] X.env)).any (·.1) = false := by rfl) :
    PI X (.Tuple elts kk tpos) (.Call (.Name "zip" p) [e, e2] [] pos) (iZipM K ta) := by
  subst hK
  exact pi_zipM hg hm ha s2 pl
theorem ix_seqK (hK : X.K = K) : IxR X (rIx K) := by
  subst hK
  exact ix_seq
theorem sl_listK (hK : X.K = K) : SlR X (rSlL K) := by
  subst hK
  exact sl_list
theorem call_isiK' (hK : X.K = K) : CallR X (.builtin "isinstance") (rIsi K) := by
  subst hK
  exact call_isi
theorem call_isiTK (hK : X.K = K) : CallR X (.builtin "isinstance") (rIsiT K) := by
  subst hK
  exact call_isiT
def rLenK (K : PySem.W.Frag) : List V → Hp → VK → Prop := fun xs H Q => ∃ p ys, xs = [.ref p] ∧ (SqL K H p ys ∨ SqT K H p ys) ∧ Q (.int ys.length) H
theorem call_lenK (hK : X.K = K) : CallR X (.builtin "len") (rLenK K) := by
  subst hK
  exact call_len_seq
def rListK (K : PySem.W.Frag) : List V → Hp → VK → Prop := fun xs H Q => ∃ p ys, xs = [.ref p] ∧ (SqL K H p ys ∨ SqT K H p ys) ∧ ∀ l, H l = none → Q (.ref l) (upd H l (.lst ys))
theorem call_listK (hK : X.K = K) : CallR X (.type "list") (rListK K) := by
  subst hK
  exact call_list_of
def rTupK (K : PySem.W.Frag) : List V → Hp → VK → Prop := fun xs H Q => ∃ p ys, xs = [.ref p] ∧ ((SqL K H p ys ∧ ∀ l, H l = none → Q (.ref l) (upd H l (.tup ys))) ∨ (SqT K H p ys ∧ Q (.ref p) H))
theorem call_tupK (hK : X.K = K) : CallR X (.type "tuple") (rTupK K) := by
  subst hK
  exact call_tuple_of
theorem cr_sumK (hK : X.K = K) (hc : X.calm = true) : CallR X (.builtin "sum") (rSum K) := by
  subst hK
  exact cr_sum hc
theorem cr_maxK (hK : X.K = K) (hc : X.calm = true) : CallR X (.builtin "max") (rMax K) := by
  subst hK
  exact cr_max hc
theorem cr_allK (hK : X.K = K) (hc : X.calm = true) : CallR X (.builtin "all") (rAll K) := by
  subst hK
  exact cr_all hc
theorem cr_anyK (hK : X.K = K) (hc : X.calm = true) : CallR X (.builtin "any") (rAny K) := by
  subst hK
  exact cr_any hc
theorem pe_fldK {e : Expr} {f : Str} {pos : Pos} (hK : X.K = K) (he : PE X e tl) (hb : attributeBase e f X.env (eval e X.env) = eval e X.env) : PE X (.Attribute e f pos) (tFld K tl f) := by
  subst hK
  exact pe_fld he hb
theorem pe_appK {e o : Expr} {te : TE} {apos cpos : Pos} (hK : X.K = K) (ho : PE X o tl) (he : PE X e te) (h2 : PE X (.Call (.Attribute o "append" apos) [e] [] cpos) (tBM X.K "list" rAppend tl (tCons te tNil))) :
    PE X (.Call (.Attribute o "append" apos) [e] [] cpos) (tBM K "list" rAppend tl (tCons te tNil)) := by
  subst hK
  exact h2
end
/-- a def that may hand back by the way of an own class's __init__ .. -/
def rAbs : List V → Hp → VK → Prop := fun xs H Q => ∃ i, xs = [.int i] ∧ Q (.int (if i < 0 then -i else i)) H
theorem call_absN {X : Cx} : CallR X (.builtin "abs") rAbs := call_abs
def rMax2 : List V → Hp → VK → Prop := fun xs H Q => ∃ i j, xs = [.int i, .int j] ∧ Q (.int (if j > i then j else i)) H
theorem call_max2N {X : Cx} (hc : X.calm = true) : CallR X (.builtin "max") rMax2 := call_max2 hc
def rMin2 : List V → Hp → VK → Prop := fun xs H Q => ∃ i j, xs = [.int i, .int j] ∧ Q (.int (if j < i then j else i)) H
theorem call_min2N {X : Cx} (hc : X.calm = true) : CallR X (.builtin "min") rMin2 := call_min2 hc
def rInt1 : List V → Hp → VK → Prop := fun xs H Q => (∃ i, xs = [.int i] ∧ Q (.int i) H) ∨ ∃ k, xs = [.bl k] ∧ Q (.int (if k then 1 else 0)) H
theorem call_int1N {X : Cx} : CallR X (.type "int") rInt1 := call_int1
end Ab

/-! ## AbE -/
set_option Elab.async false
set_option linter.all false
set_option maxRecDepth 100000
set_option maxHeartbeats 1000000
namespace Ab
open PySem L2
/-! ### built-ins by data -/
section
variable {K : PySem.W.Frag} {O : Ow} {Φ : Cd}
theorem Fin_.newL {B C : Hp} {Q : VK} {p : Addr} {xs : List V} {ds : List D} (f : Fin_ O B C Φ Q) (o : Ok B C O) (hp : C p = none) (hl : DtL B xs ds) (k : Φ (.lst ds) O ∨ ∀ p, Φ (.adr p) ((p, oLst ds) :: O)) : Q (.ref p) (upd C p (.lst xs)) := by
  rcases k with k | k
  · have l2 := o.lay (o := .lst xs) hp
    exact f _ _ _ _ O k l2 (.lst upd_same (hl.mono l2.base))
  · exact f _ _ _ _ _ (k p) (o.layO (t := oLst ds) hp ⟨_, rfl, hl⟩) (.adr p)
theorem Fin_.newT {B C : Hp} {Q : VK} {p : Addr} {xs : List V} {ds : List D} (f : Fin_ O B C Φ Q) (o : Ok B C O) (hp : C p = none) (hl : DtL B xs ds) (k : Φ (.tup ds) O) : Q (.ref p) (upd C p (.tup xs)) := by
  have l2 := o.lay (o := .tup xs) hp
  exact f _ _ _ _ O k l2 (.tup upd_same (hl.mono l2.base))
theorem bc_abs {i : Int} (k : Φ (.int i.natAbs) O) : Bc rAbs [.int i] O Φ := fun B C vs o d Q f => by
  cases d with
  | cons a b =>
    cases a
    cases b
    refine ⟨i, rfl, ?_⟩
    have e : (if i < 0 then -i else i) = (i.natAbs : Int) := by split <;> omega
    rw [e]
    exact f _ _ B C O k o.le (.int _)
/-- what a value's type is -/
def tyD : D → Option String
  | .int _ => some "int"
  | .str _ => some "str"
  | .bl _ => some "bool"
  | .lst _ => some "list"
  | .tup _ => some "tuple"
  | _ => none
theorem tyX_of {B C : Hp} {x : D} {v : V} {T : String} (h : tyD x = some T) (hv : Dt B v x) (s : Same B C) : TyX K C v (.type T) := by
  cases hv with
  | int i => obtain rfl := Option.some.inj h; exact .base (.int i)
  | str i => obtain rfl := Option.some.inj h; exact .base (.str i)
  | bl i => obtain rfl := Option.some.inj h; exact .base (.bl i)
  | lst a b => obtain rfl := Option.some.inj h; exact .base (.lst (s _ _ a))
  | tup a b => obtain rfl := Option.some.inj h; exact .base (.tup (s _ _ a))
  | _ => cases h
theorem bc_isi {x : D} {n T : String} {b : Bool} (h : tyD x = some T) (e : kitB T n = some b) (k : Φ (.bl b) O) : Bc (rIsi K) [x, .ty n] O Φ := fun B C vs o d Q f => by
  cases d with
  | cons d1 d2 =>
    cases d2 with
    | cons d2 d3 =>
      cases d3
      cases d2
      exact ⟨_, _, _, _, b, rfl, .ty n, tyX_of h d1 o.sub, kit_ty e, f _ _ B C O k o.le (.bl b)⟩
theorem bc_isiT {x : D} {n m T : String} {b c : Bool} (h : tyD x = some T) (e1 : kitB T n = some b) (e2 : kitB T m = some c) (k : Φ (.bl (b || c)) O) : Bc (rIsiT K) [x, .tup [.ty n, .ty m]] O Φ := fun B C vs o d Q f => by
  cases d with
  | cons d1 d2 =>
    cases d2 with
    | cons d2 d3 =>
      cases d3
      cases d2 with
      | tup ha hl =>
        cases hl with
        | cons a1 a2 =>
          cases a2 with
          | cons a2 a3 =>
            cases a1
            cases a2
            cases a3
            refine ⟨_, _, _, _, _, b || c, rfl, o.sub _ _ ha, .cons (.ty n) (.cons (.ty m) .nil), tyX_of h d1 o.sub, ?_, f _ _ B C O k o.le (.bl _)⟩
            refine kitAny_cons (kit_ty e1) (fun hb => kitAny_cons (kit_ty e2) (fun hc => ?_) fun hc => ?_) fun hb => ?_
            · rw [hb, hc]
              exact kitAny_nil
            · rw [hc, Bool.or_true]
            · rw [hb, Bool.true_or]
theorem bc_lenL {ds : List D} (k : Φ (.int (ds.length : Int)) O) : Bc (rLenK K) [.lst ds] O Φ := fun B C vs o d Q f => by
  cases d with
  | cons a b =>
    cases b
    cases a with
    | lst ha hl =>
      refine ⟨_, _, rfl, .inl (.inl (.inl (o.sub _ _ ha))), ?_⟩
      rw [hl.length]
      exact f _ _ B C O k o.le (.int _)
theorem bc_lenT {ds : List D} (k : Φ (.int (ds.length : Int)) O) : Bc (rLenK K) [.tup ds] O Φ := fun B C vs o d Q f => by
  cases d with
  | cons a b =>
    cases b
    cases a with
    | tup ha hl =>
      refine ⟨_, _, rfl, .inr (.inl (.inl (o.sub _ _ ha))), ?_⟩
      rw [hl.length]
      exact f _ _ B C O k o.le (.int _)
theorem bc_int {i : Int} (k : Φ (.int i) O) : Bc rInt1 [.int i] O Φ := fun B C vs o d Q f => by
  cases d with
  | cons a b =>
    cases a
    cases b
    exact .inl ⟨i, rfl, f _ _ B C O k o.le (.int _)⟩
theorem bc_max2 {i j : Int} (k : Φ (.int (max i j)) O) : Bc rMax2 [.int i, .int j] O Φ := fun B C vs o d Q f => by
  cases d with
  | cons a b =>
    cases a
    cases b with
    | cons a b =>
      cases a
      cases b
      refine ⟨i, j, rfl, ?_⟩
      have e : (if j > i then j else i) = max i j := by split <;> omega
      rw [e]
      exact f _ _ B C O k o.le (.int _)
theorem bc_min2 {i j : Int} (k : Φ (.int (min i j)) O) : Bc rMin2 [.int i, .int j] O Φ := fun B C vs o d Q f => by
  cases d with
  | cons a b =>
    cases a
    cases b with
    | cons a b =>
      cases a
      cases b
      refine ⟨i, j, rfl, ?_⟩
      have e : (if j < i then j else i) = min i j := by split <;> omega
      rw [e]
      exact f _ _ B C O k o.le (.int _)
theorem bc_sum {ns : List Int} (k : Φ (.int ns.sum) O) : Bc (rSum K) [.lst (ns.map D.int)] O Φ := fun B C vs o d Q f => by
  cases d with
  | cons a b =>
    cases b
    cases a with
    | lst ha hl =>
      have e := hl.ints
      subst e
      exact ⟨_, ns, rfl, .inl (.inl (o.sub _ _ ha)), f _ _ B C O k o.le (.int _)⟩
/-- the greatest of a list that is not empty -/
def maxI : List Int → Int
  | [] => 0
  | [x] => x
  | x :: y :: r => max x (maxI (y :: r))
theorem maxI_mem : ∀ (ns : List Int), ns ≠ [] → maxI ns ∈ ns
  | [], h => absurd rfl h
  | [x], _ => by simp [maxI]
  | x :: y :: r, _ => by
    have ih := maxI_mem (y :: r) (List.cons_ne_nil _ _)
    show max x (maxI (y :: r)) ∈ x :: y :: r
    by_cases h : x ≤ maxI (y :: r)
    · rw [Int.max_eq_right h]
      exact List.mem_cons_of_mem _ ih
    · rw [Int.max_eq_left (by omega)]
      exact List.mem_cons_self
theorem le_maxI : ∀ (ns : List Int) (x : Int), x ∈ ns → x ≤ maxI ns
  | [], x, h => by simp at h
  | [y], x, h => by
    simp at h
    subst h
    exact Int.le_refl _
  | z :: y :: r, x, h => by
    show x ≤ max z (maxI (y :: r))
    rcases List.mem_cons.mp h with h | h
    · omega
    · have := le_maxI (y :: r) x h
      omega
theorem maxI_uniq {ns : List Int} {m : Int} (h1 : m ∈ ns) (h2 : ∀ y ∈ ns, y ≤ m) : m = maxI ns := by
  have a := le_maxI ns m h1
  have b := h2 _ (maxI_mem ns (List.ne_nil_of_mem h1))
  omega
theorem bc_max {ns : List Int} (hn : ns ≠ []) (k : Φ (.int (maxI ns)) O) : Bc (rMax K) [.lst (ns.map D.int)] O Φ := fun B C vs o d Q f => by
  cases d with
  | cons a b =>
    cases b
    cases a with
    | lst ha hl =>
      have e := hl.ints
      subst e
      refine ⟨_, ns, rfl, .inl (.inl (o.sub _ _ ha)), List.length_pos_iff.mpr hn, fun m h1 h2 => ?_⟩
      rw [maxI_uniq h1 h2]
      exact f _ _ B C O k o.le (.int _)
theorem bc_all {bs : List Bool} (k : Φ (.bl (bs.all id)) O) : Bc (rAll K) [.lst (bs.map D.bl)] O Φ := fun B C vs o d Q f => by
  cases d with
  | cons a b =>
    cases b
    cases a with
    | lst ha hl =>
      have e := hl.bls
      subst e
      exact ⟨_, bs, rfl, .inl (.inl (o.sub _ _ ha)), f _ _ B C O k o.le (.bl _)⟩
theorem bc_any {bs : List Bool} (k : Φ (.bl (bs.any id)) O) : Bc (rAny K) [.lst (bs.map D.bl)] O Φ := fun B C vs o d Q f => by
  cases d with
  | cons a b =>
    cases b
    cases a with
    | lst ha hl =>
      have e := hl.bls
      subst e
      exact ⟨_, bs, rfl, .inl (.inl (o.sub _ _ ha)), f _ _ B C O k o.le (.bl _)⟩
/-- list(xs), xs a list or a tuple: never changed, or ours -/
theorem bc_listL {ds : List D} (k : Φ (.lst ds) O ∨ ∀ p, Φ (.adr p) ((p, oLst ds) :: O)) : Bc (rListK K) [.lst ds] O Φ := fun B C vs o d Q f => by
  cases d with
  | cons a b =>
    cases b
    cases a with
    | lst ha hl =>
      refine ⟨_, _, rfl, .inl (.inl (.inl (o.sub _ _ ha))), fun p hp => f.newL o hp hl k⟩
theorem bc_listT {ds : List D} (k : Φ (.lst ds) O ∨ ∀ p, Φ (.adr p) ((p, oLst ds) :: O)) : Bc (rListK K) [.tup ds] O Φ := fun B C vs o d Q f => by
  cases d with
  | cons a b =>
    cases b
    cases a with
    | tup ha hl =>
      refine ⟨_, _, rfl, .inr (.inl (.inl (o.sub _ _ ha))), fun p hp => f.newL o hp hl k⟩
theorem bc_tupL {ds : List D} (k : Φ (.tup ds) O) : Bc (rTupK K) [.lst ds] O Φ := fun B C vs o d Q f => by
  cases d with
  | cons a b =>
    cases b
    cases a with
    | lst ha hl =>
      exact ⟨_, _, rfl, .inl ⟨.inl (.inl (o.sub _ _ ha)), fun p hp => f.newT o hp hl k⟩⟩
theorem bc_tupT {ds : List D} (k : Φ (.tup ds) O) : Bc (rTupK K) [.tup ds] O Φ := fun B C vs o d Q f => by
  cases d with
  | cons a b =>
    cases b
    cases a with
    | tup ha hl => exact ⟨_, _, rfl, .inr ⟨.inl (.inl (o.sub _ _ ha)), f _ _ B C O k o.le (.tup ha hl)⟩⟩
/-- xs + ys of lists, t + u of tuples -/
theorem rc_cat {xs ys : List D} (hz : xs.length + ys.length ≤ sizeLine) (k : Φ (.lst (xs ++ ys)) O ∨ ∀ p, Φ (.adr p) ((p, oLst (xs ++ ys)) :: O)) : Rc rCat (.lst xs) (.lst ys) O Φ := fun B C v u o d e Q f => by
  cases d with
  | lst ha hl =>
    cases e with
    | lst hb hm =>
      refine ⟨_, _, _, _, rfl, rfl, o.sub _ _ ha, o.sub _ _ hb, by rw [hl.length, hm.length]; exact hz, fun p hp => f.newL o hp (hl.append hm) k⟩
theorem rc_rep {xs : List D} {n : Int} (h : -(2 ^ 63) ≤ n ∧ n < 2 ^ 63 ∧ xs.length * n.toNat ≤ sizeLine) (k : Φ (.lst (List.replicate n.toNat xs).flatten) O) : Rc rRep (.lst xs) (.int n) O Φ := fun B C v u o d e Q f => by
  cases e
  cases d with
  | lst ha hl =>
    refine ⟨_, n, _, rfl, rfl, o.sub _ _ ha, h.1, h.2.1, by rw [hl.length]; exact h.2.2, fun p hp => f.newL o hp ?_ (.inl k)⟩
    have : ∀ m : Nat, DtL B (List.replicate m _).flatten (List.replicate m xs).flatten := fun m => by
      induction m with
      | zero => exact .nil
      | succ m ih =>
        rw [List.replicate_succ, List.replicate_succ, List.flatten_cons, List.flatten_cons]
        exact hl.append ih
    exact this _
end
end Ab

/-! ## AbF -/
set_option Elab.async false
set_option linter.all false
set_option maxRecDepth 100000
set_option maxHeartbeats 1000000
/-! tables, fields, lists that are changed, by data -/
namespace Ab
open PySem L2
section
variable {κ α β : Type} [DecidableEq κ]
def valG (kvs : List (κ × α)) (k : κ) : Option α := (kvs.find? fun kv => decide (kv.1 = k)).map (·.2)
def putG (kvs : List (κ × α)) (k : κ) (d : α) : List (κ × α) := if (valG kvs k).isSome = true then kvs.map (fun kv => if kv.1 = k then (kv.1, d) else kv) else kvs ++ [(k, d)]
theorem valG_hit {p : κ × α} {r : List (κ × α)} {k : κ} (e : p.1 = k) : valG (p :: r) k = some p.2 := by simp [valG, e]
theorem valG_miss {p : κ × α} {r : List (κ × α)} {k : κ} (e : ¬ p.1 = k) : valG (p :: r) k = valG r k := by simp [valG, e]
abbrev PR (R : α → β → Prop) : List (κ × α) → List (κ × β) → Prop := Paired fun p q => p.1 = q.1 ∧ R p.2 q.2
def RO (R : α → β → Prop) : Option α → Option β → Prop
  | some a, some b => R a b
  | none, none => True
  | _, _ => False
variable {R : α → β → Prop} {xs : List (κ × α)} {ys : List (κ × β)}
theorem PR.val (r : PR R xs ys) (k : κ) : RO R (valG xs k) (valG ys k) := by
  induction r with
  | nil => exact True.intro
  | @cons p q l m h t ih =>
    by_cases e : p.1 = k
    · rw [valG_hit e, valG_hit (h.1.symm.trans e)]
      exact h.2
    · rw [valG_miss e, valG_miss fun z => e (h.1.trans z)]
      exact ih
theorem RO.isSome {a : Option α} {b : Option β} (h : RO R a b) : a.isSome = b.isSome := by
  cases a <;> cases b <;> first | rfl | exact h.elim
theorem PR.put (r : PR R xs ys) (k : κ) {a : α} {b : β} (h : R a b) : PR R (putG xs k a) (putG ys k b) := by
  have e := (r.val k).isSome
  unfold putG
  rw [e]
  split
  · clear e
    rename_i z
    clear z
    induction r with
    | nil => exact .nil
    | @cons p q l m g t ih =>
      rw [List.map_cons, List.map_cons]
      refine .cons ?_ ih
      by_cases e : p.1 = k
      · rw [if_pos e, if_pos (g.1.symm.trans e)]
        exact ⟨g.1, h⟩
      · rw [if_neg e, if_neg fun z => e (g.1.trans z)]
        exact g
  · exact Paired.snoc r ⟨rfl, h⟩
theorem valG_map (kvs : List (κ × α)) (k j : κ) (d : α) : valG (kvs.map fun kv => if kv.1 = k then (kv.1, d) else kv) j = (valG kvs j).map fun x => if j = k then d else x := by
  induction kvs with
  | nil => rfl
  | cons p r ih =>
    rw [List.map_cons]
    by_cases e : p.1 = k
    · rw [if_pos e]
      by_cases f : p.1 = j
      · rw [valG_hit (p := (p.1, d)) f, valG_hit f, Option.map_some, if_pos (f.symm.trans e)]
      · rw [valG_miss (p := (p.1, d)) f, valG_miss f, ih]
    · rw [if_neg e]
      by_cases f : p.1 = j
      · rw [valG_hit f, valG_hit f, Option.map_some, if_neg fun z => e (f.trans z)]
      · rw [valG_miss f, valG_miss f, ih]
theorem valG_snoc (kvs : List (κ × α)) (k j : κ) (d : α) (h : valG kvs k = none) : valG (kvs ++ [(k, d)]) j = if j = k then some d else valG kvs j := by
  induction kvs with
  | nil =>
    by_cases e : k = j
    · rw [List.nil_append, valG_hit e, if_pos e.symm]
    · rw [List.nil_append, valG_miss e, if_neg fun z => e z.symm]
  | cons p r ih =>
    have hp : ¬ p.1 = k := fun z => by rw [valG_hit z] at h; cases h
    rw [valG_miss hp] at h
    rw [List.cons_append]
    by_cases f : p.1 = j
    · rw [valG_hit f, valG_hit f, if_neg fun z => hp (f.trans z)]
    · rw [valG_miss f, valG_miss f, ih h]
theorem valG_put (kvs : List (κ × α)) (k j : κ) (d : α) : valG (putG kvs k d) j = if j = k then some d else valG kvs j := by
  unfold putG
  by_cases h : (valG kvs k).isSome = true
  · rw [if_pos h, valG_map]
    by_cases e : j = k
    · obtain ⟨x, hx⟩ := Option.isSome_iff_exists.mp h
      rw [if_pos e, e, hx, Option.map_some, if_pos rfl]
    · rw [if_neg e]
      cases valG kvs j with
      | none => rfl
      | some x => rw [Option.map_some, if_neg e]
  · rw [if_neg h]
    exact valG_snoc kvs k j d (by cases z : valG kvs k with | none => rfl | some x => rw [z] at h; exact absurd rfl h)
theorem putG_length (kvs : List (κ × α)) (k : κ) (d : α) : (putG kvs k d).length ≤ kvs.length + 1 := by
  unfold putG
  split
  · rw [List.length_map]
    exact Nat.le_succ _
  · rw [List.length_append]
    exact Nat.le_refl _
theorem putG_new {kvs : List (κ × α)} {k : κ} (d : α) (h : valG kvs k = none) : putG kvs k d = kvs ++ [(k, d)] := by
  unfold putG
  rw [h]
  rfl
theorem valG_mem {kvs : List (κ × α)} {k : κ} {d : α} (h : valG kvs k = some d) : (k, d) ∈ kvs := by
  induction kvs with
  | nil => cases h
  | cons p r ih =>
    by_cases e : p.1 = k
    · rw [valG_hit e] at h
      obtain rfl := Option.some.inj h
      rw [← e]
      exact List.mem_cons_self
    · rw [valG_miss e] at h
      exact List.mem_cons_of_mem _ (ih h)
theorem valG_none {kvs : List (κ × α)} {k : κ} : valG kvs k = none ↔ ∀ p ∈ kvs, p.1 ≠ k := by
  induction kvs with
  | nil => exact ⟨fun _ p hp => absurd hp List.not_mem_nil, fun _ => rfl⟩
  | cons p r ih =>
    by_cases e : p.1 = k
    · rw [valG_hit e]
      exact ⟨fun z => (nomatch z), fun z => absurd e (z p List.mem_cons_self)⟩
    · rw [valG_miss e, ih]
      refine ⟨fun z q hq => ?_, fun z q hq => z q (List.mem_cons_of_mem _ hq)⟩
      rcases List.mem_cons.mp hq with rfl | hq
      · exact e
      · exact z q hq
theorem putG_keys (kvs : List (κ × α)) (k : κ) (d : α) : ∀ x, x ∈ (putG kvs k d).map (·.1) ↔ x = k ∨ x ∈ kvs.map (·.1) := fun x => by
  unfold putG
  by_cases h : (valG kvs k).isSome = true
  · rw [if_pos h]
    have e : (kvs.map fun kv => if kv.1 = k then (kv.1, d) else kv).map (·.1) = kvs.map (·.1) := by
      rw [List.map_map]
      refine List.map_congr_left fun p _ => ?_
      show (if p.1 = k then (p.1, d) else p).1 = p.1
      split <;> rfl
    rw [e]
    refine ⟨.inr, fun z => ?_⟩
    rcases z with rfl | z
    · obtain ⟨y, hy⟩ := Option.isSome_iff_exists.mp h
      exact List.mem_map.mpr ⟨_, valG_mem hy, rfl⟩
    · exact z
  · rw [if_neg h, List.map_append, List.mem_append]
    refine ⟨fun z => ?_, fun z => ?_⟩
    · rcases z with z | z
      · exact .inr z
      · exact .inl (List.mem_singleton.mp z)
    · rcases z with rfl | z
      · exact .inr (List.mem_singleton.mpr rfl)
      · exact .inl z
theorem putG_nodup {kvs : List (κ × α)} (k : κ) (d : α) (nd : (kvs.map (·.1)).Nodup) : ((putG kvs k d).map (·.1)).Nodup := by
  unfold putG
  by_cases h : (valG kvs k).isSome = true
  · rw [if_pos h]
    have e : (kvs.map fun kv => if kv.1 = k then (kv.1, d) else kv).map (·.1) = kvs.map (·.1) := by
      rw [List.map_map]
      refine List.map_congr_left fun p _ => ?_
      show (if p.1 = k then (p.1, d) else p).1 = p.1
      split <;> rfl
    rw [e]
    exact nd
  · rw [if_neg h, List.map_append]
    have z : valG kvs k = none := by cases z : valG kvs k with | none => rfl | some x => rw [z] at h; exact absurd rfl h
    refine List.nodup_append.mpr ⟨nd, by simp, fun a ha b hb => ?_⟩
    obtain ⟨p, hp, e⟩ := List.mem_map.mp ha
    have hb' : b = k := List.mem_singleton.mp hb
    rw [← e, hb']
    exact valG_none.mp z p hp
def mergeG (kvs more : List (κ × α)) : List (κ × α) := more.foldl (fun acc kv => putG acc kv.1 kv.2) kvs
theorem mergeG_new {kvs more : List (κ × α)} (h : ∀ p ∈ more, valG kvs p.1 = none) (nd : (more.map (·.1)).Nodup) : mergeG kvs more = kvs ++ more := by
  induction more generalizing kvs with
  | nil => exact (List.append_nil _).symm
  | cons p r ih =>
    rw [List.map_cons] at nd
    obtain ⟨n1, n2⟩ := List.nodup_cons.mp nd
    show mergeG (putG kvs p.1 p.2) r = _
    rw [putG_new _ (h p List.mem_cons_self), ih (fun q hq => ?_) n2, List.append_assoc]
    · rfl
    · rw [valG_snoc _ _ _ _ (h p List.mem_cons_self), if_neg fun (z : q.1 = p.1) => n1 (z ▸ List.mem_map_of_mem hq)]
      exact h q (List.mem_cons_of_mem _ hq)
theorem mergeG_nil {more : List (κ × α)} (nd : (more.map (·.1)).Nodup) : mergeG [] more = more := mergeG_new (fun _ _ => rfl) nd
theorem putK_is (kvs : List (κ × V)) (k : κ) (v : V) : putK kvs k v = putG kvs k v := by
  unfold putK putG
  rw [valV_any]
  rfl
theorem mergeK_is (kvs more : List (Key × V)) : mergeK kvs more = mergeG kvs more := by
  unfold mergeK mergeG
  congr 1
  funext acc kv
  exact putK_is _ _ _
end
section
variable {H : Hp}
theorem dtK_pr : ∀ {ks : List (Key × V)} {kvs : List (Key × D)}, DtK H ks kvs → PR (Dt H) ks kvs
  | _, _, .nil => .nil
  | _, _, .cons h r => .cons ⟨rfl, h⟩ (dtK_pr r)
theorem pr_dtK {ks : List (Key × V)} {kvs : List (Key × D)} (r : PR (Dt H) ks kvs) : DtK H ks kvs := by
  induction r with
  | nil => exact .nil
  | @cons p q l m h t ih =>
    obtain ⟨k, v⟩ := p
    obtain ⟨k', d⟩ := q
    obtain ⟨h1, h2⟩ := h
    have h1 : k = k' := h1
    rw [h1]
    exact .cons h2 ih
theorem dtT_pr : ∀ {ks : List (List Key × V)} {kvs : List (List Key × D)}, DtT H ks kvs → PR (Dt H) ks kvs
  | _, _, .nil => .nil
  | _, _, .cons h r => .cons ⟨rfl, h⟩ (dtT_pr r)
theorem pr_dtT {ks : List (List Key × V)} {kvs : List (List Key × D)} (r : PR (Dt H) ks kvs) : DtT H ks kvs := by
  induction r with
  | nil => exact .nil
  | @cons p q l m h t ih =>
    obtain ⟨k, v⟩ := p
    obtain ⟨k', d⟩ := q
    obtain ⟨h1, h2⟩ := h
    have h1 : k = k' := h1
    rw [h1]
    exact .cons h2 ih
theorem dtF_lookup : ∀ {ks : List (Str × V)} {kvs : List (Str × D)}, DtF H ks kvs → ∀ {f : Str} {d : D}, kvs.lookup f = some d → ∃ v, ks.lookup f = some v ∧ Dt H v d
  | _, _, .nil, f, d, h => by cases h
  | _, _, @DtF.cons _ k v vs d' ds a r, f, d, h => by
    rw [List.lookup_cons] at h
    rw [List.lookup_cons]
    cases e : f == k with
    | true =>
      rw [e] at h
      obtain rfl := Option.some.inj h
      exact ⟨v, rfl, a⟩
    | false =>
      rw [e] at h
      exact dtF_lookup r h
end
def kD : Key → D
  | .inl i => .int i
  | .inr x => .str x
abbrev ksD (ks : List Key) : D := .tup (ks.map kD)
theorem kD_of {H : Hp} {u : V} {k : Key} (h : Dt H u (kD k)) : u = kV k := by
  cases k with
  | inl i => cases h; rfl
  | inr x => cases h; rfl
theorem dt_kD (H : Hp) (k : Key) : Dt H (kV k) (kD k) := by
  cases k with
  | inl i => exact .int i
  | inr x => exact .str x
theorem kDs_of {H : Hp} : ∀ {ks : List Key} {us : List V}, DtL H us (ks.map kD) → us = ks.map kV
  | [], _, .nil => rfl
  | k :: ks, _, .cons a b => by rw [List.map_cons, kD_of a, kDs_of b]
theorem dt_kDs (H : Hp) : ∀ ks : List Key, DtL H (ks.map kV) (ks.map kD)
  | [] => .nil
  | k :: ks => .cons (dt_kD H k) (dt_kDs H ks)
theorem ksD_of {H : Hp} {u : V} {ks : List Key} (h : Dt H u (ksD ks)) : ∃ b, u = .ref b ∧ H b = some (.tup (ks.map kV)) := by
  cases h with
  | tup a b =>
    rw [kDs_of b] at a
    exact ⟨_, rfl, a⟩
/-! ### what is told of a thing of ours -/
theorem Ok.at_ {B C : Hp} {O : Ow} (o : Ok B C O) {j : Nat} {a : Addr} {t : Ot} (h : O[j]? = some (a, t)) : ∃ u, C a = some u ∧ t.ok B u := (o.own (a, t) (List.mem_of_getElem? h)).2
/-- what a table holds at a key -/
def Gt (x y : D) (O : Ow) (r : Option D) : Prop := ∀ B C v u, Ok B C O → Dt B v x → Dt B u y → ∃ a o, v = .ref a ∧ DGet C a u o ∧ RO (Dt B) o r
def IsDd (x : D) (O : Ow) : Prop := ∀ B C v, Ok B C O → Dt B v x → ∃ a, v = .ref a ∧ IsD C a
section
variable {O : Ow} {j : Nat} {a : Addr} {kvs : List (Key × D)} {kts : List (List Key × D)} {k : Key} {ks : List Key} {od : Obj} {w : HO} {y : D}
theorem gt_K (hy : y = kD k) : Gt (.dK kvs) y O (valG kvs k) := fun B C v u o hv hu => by
  subst hy
  cases hv with
  | dK ha hk =>
    rw [kD_of hu]
    exact ⟨_, _, rfl, .inl ⟨_, k, .inl (o.sub _ _ ha), rfl, rfl⟩, (dtK_pr hk).val k⟩
theorem gt_T (hy : y = ksD ks) : Gt (.dT kts) y O (valG kts ks) := fun B C v u o hv hu => by
  subst hy
  cases hv with
  | dT ha hk =>
    obtain ⟨b, rfl, hb⟩ := ksD_of hu
    exact ⟨_, _, rfl, .inr ⟨_, ks, b, .inl (o.sub _ _ ha), rfl, o.sub _ _ hb, rfl⟩, (dtT_pr hk).val ks⟩
theorem gt_oK (h : O[j]? = some (a, oK kvs)) (hy : y = kD k) : Gt (.adr a) y O (valG kvs k) := fun B C v u o hv hu => by
  subst hy
  cases hv
  obtain ⟨z, hc, vs, rfl, hk⟩ := o.at_ h
  rw [kD_of hu]
  exact ⟨a, _, rfl, .inl ⟨_, k, .inl hc, rfl, rfl⟩, (dtK_pr hk).val k⟩
theorem gt_oT (h : O[j]? = some (a, oT kts)) (hy : y = ksD ks) : Gt (.adr a) y O (valG kts ks) := fun B C v u o hv hu => by
  subst hy
  cases hv
  obtain ⟨z, hc, vs, rfl, hk⟩ := o.at_ h
  obtain ⟨b, rfl, hb⟩ := ksD_of hu
  exact ⟨a, _, rfl, .inr ⟨_, ks, b, .inl hc, rfl, o.sub _ _ hb, rfl⟩, (dtT_pr hk).val ks⟩
theorem gt_lkT (h : O[j]? = some (a, oLk (oT kts) od w)) (hy : y = ksD ks) : Gt (.adr a) y O (valG kts ks) := fun B C v u o hv hu => by
  subst hy
  cases hv
  obtain ⟨z, hc, e, vs, e2, hk⟩ := o.at_ h
  subst e e2
  obtain ⟨b, rfl, hb⟩ := ksD_of hu
  exact ⟨a, _, rfl, .inr ⟨_, ks, b, .inr ⟨_, hc⟩, rfl, o.sub _ _ hb, rfl⟩, (dtT_pr hk).val ks⟩
theorem isD_K : IsDd (.dK kvs) O := fun B C v o hv => by
  cases hv with
  | dK ha hk => exact ⟨_, rfl, .inl ⟨_, .inl (o.sub _ _ ha)⟩⟩
theorem isD_T : IsDd (.dT kts) O := fun B C v o hv => by
  cases hv with
  | dT ha hk => exact ⟨_, rfl, .inr ⟨_, .inl (o.sub _ _ ha)⟩⟩
theorem isD_oT (h : O[j]? = some (a, oT kts)) : IsDd (.adr a) O := fun B C v o hv => by
  cases hv
  obtain ⟨z, hc, vs, rfl, hk⟩ := o.at_ h
  exact ⟨a, rfl, .inr ⟨_, .inl hc⟩⟩
end
section
variable {K : PySem.W.Frag} {τ : Tau} {O : Ow} {te td ty tx tv : TE} {E : De} {Φ : Cd}
theorem ec_dget (h : Ec td τ O fun x O1 => Ec ty τ O1 fun y O2 => ∃ d, Gt x y O2 (some d) ∧ Φ d O2) : Ec (tDGet td ty) τ O Φ := fun σ B C s o Q f =>
  h σ B C s o _ fun v x B1 C1 O1 h1 l1 d1 => h1 σ B1 C1 (s.mono l1.base) l1.ok _ fun u y B2 C2 O2 ⟨d, g, p⟩ l2 d2 => by
    obtain ⟨a, r, e, gd, ro⟩ := g B2 C2 v u l2.ok (d1.mono l2.base) d2
    cases r with
    | none => exact ro.elim
    | some z => exact ⟨a, z, e, gd, f z d B2 C2 O2 p (l1.trans l2) ro⟩
theorem ec_dget2 (h : Ec td τ O fun x O1 => IsDd x O1 ∧ Ec ty τ O1 fun y O2 => Ec tx τ O2 fun z O3 => ∃ r, Gt x y O3 r ∧ Φ (r.getD z) O3) : Ec (tDGet2 td ty tx) τ O Φ := fun σ B C s o Q f =>
  h σ B C s o _ fun v x B1 C1 O1 ⟨i1, h1⟩ l1 d1 => by
    obtain ⟨a, e, ia⟩ := i1 B1 C1 v l1.ok d1
    refine ⟨a, e, ia, h1 σ B1 C1 (s.mono l1.base) l1.ok _ fun u y B2 C2 O2 h2 l2 d2 => h2 σ B2 C2 ((s.mono l1.base).mono l2.base) l2.ok _ fun z zd B3 C3 O3 ⟨r, g, p⟩ l3 d3 => ?_⟩
    obtain ⟨a', r', e', gd, ro⟩ := g B3 C3 v u l3.ok ((d1.mono l2.base).mono l3.base) (d2.mono l3.base)
    rw [e] at e'
    cases e'
    refine ⟨r', gd, ?_⟩
    have lt := (l1.trans l2).trans l3
    cases r' with
    | none =>
      cases r with
      | none => exact f z _ B3 C3 O3 p lt d3
      | some q => exact ro.elim
    | some y =>
      cases r with
      | none => exact ro.elim
      | some q => exact f y _ B3 C3 O3 p lt ro
theorem ec_din (h : Ec ty τ O fun y O1 => Ec td τ O1 fun x O2 => ∃ r, Gt x y O2 r ∧ Φ (.bl r.isSome) O2) : Ec (tDIn ty td) τ O Φ := fun σ B C s o Q f =>
  h σ B C s o _ fun u y B1 C1 O1 h1 l1 d1 => h1 σ B1 C1 (s.mono l1.base) l1.ok _ fun v x B2 C2 O2 ⟨r, g, p⟩ l2 d2 => by
    obtain ⟨a, r', e, gd, ro⟩ := g B2 C2 v u l2.ok d2 (d1.mono l2.base)
    refine ⟨a, r', e, gd, ?_⟩
    rw [ro.isSome]
    exact f _ _ B2 C2 O2 p (l1.trans l2) (.bl _)
/-- d[k] = v, d ours -/
theorem sc_dputK (h : Ec tv τ O fun v O1 => Ec td τ O1 fun x O2 => Ec ty τ O2 fun y O3 => ∃ (j : Nat) (a : Addr) (kvs : List (Key × D)) (k : Key), x = .adr a ∧ y = kD k ∧ O3[j]? = some (a, oK kvs) ∧ kvs.length < sizeLine ∧ E.nx τ (O3.set j (a, oK (putG kvs k v)))) :
    Sc (sDPut td ty tv) E τ O := fun σ B C s o F f =>
  h σ B C s o _ fun v vd B1 C1 O1 h1 l1 d1 => h1 σ B1 C1 (s.mono l1.base) l1.ok _ fun x xd B2 C2 O2 h2 l2 d2 => h2 σ B2 C2 ((s.mono l1.base).mono l2.base) l2.ok _ fun y yd B3 C3 O3 ⟨j, a, kvs, k, e1, e2, hO, hl, p⟩ l3 d3 => by
    subst e1 e2
    cases d2
    obtain ⟨z, hc, vs, rfl, hk⟩ := l3.ok.at_ hO
    have pr := dtK_pr hk
    have lv : vs.length = kvs.length := Paired.length pr
    refine ⟨a, _, rfl, .inl ⟨vs, k, hc, kD_of d3, by omega, rfl⟩, ?_⟩
    rw [putK_is]
    have lw := l3.ok.write (u := oK (putG kvs k vd)) hO (o := .dK (putG vs k v)) ⟨_, rfl, pr_dtK (pr.put k ((d1.mono l2.base).mono l3.base))⟩
    have lt := ((l1.trans l2).trans l3).trans lw
    exact f.nx σ τ _ _ _ p lt (s.mono lt.base)
theorem sc_dputT (h : Ec tv τ O fun v O1 => Ec td τ O1 fun x O2 => Ec ty τ O2 fun y O3 => ∃ (j : Nat) (a : Addr) (kvs : List (List Key × D)) (k : List Key), x = .adr a ∧ y = ksD k ∧ O3[j]? = some (a, oT kvs) ∧ kvs.length < sizeLine ∧ E.nx τ (O3.set j (a, oT (putG kvs k v)))) :
    Sc (sDPut td ty tv) E τ O := fun σ B C s o F f =>
  h σ B C s o _ fun v vd B1 C1 O1 h1 l1 d1 => h1 σ B1 C1 (s.mono l1.base) l1.ok _ fun x xd B2 C2 O2 h2 l2 d2 => h2 σ B2 C2 ((s.mono l1.base).mono l2.base) l2.ok _ fun y yd B3 C3 O3 ⟨j, a, kvs, k, e1, e2, hO, hl, p⟩ l3 d3 => by
    subst e1 e2
    cases d2
    obtain ⟨z, hc, vs, rfl, hk⟩ := l3.ok.at_ hO
    obtain ⟨b, rfl, hb⟩ := ksD_of d3
    have pr := dtT_pr hk
    have lv : vs.length = kvs.length := Paired.length pr
    refine ⟨a, _, rfl, .inr ⟨vs, k, b, hc, rfl, l3.ok.sub _ _ hb, by omega, rfl⟩, ?_⟩
    rw [putK_is]
    have lw := l3.ok.write (u := oT (putG kvs k vd)) hO (o := .dT (putG vs k v)) ⟨_, rfl, pr_dtT (pr.put k ((d1.mono l2.base).mono l3.base))⟩
    have lt := ((l1.trans l2).trans l3).trans lw
    exact f.nx σ τ _ _ _ p lt (s.mono lt.base)
/-! new dicts -/
theorem Fin_.newK {B C : Hp} {Q : VK} {p : Addr} {xs : List (Key × V)} {ds : List (Key × D)} (f : Fin_ O B C Φ Q) (o : Ok B C O) (hp : C p = none) (hl : DtK B xs ds) (k : Φ (.dK ds) O ∨ ∀ p, Φ (.adr p) ((p, oK ds) :: O)) : Q (.ref p) (upd C p (.dK xs)) := by
  rcases k with k | k
  · have l2 := o.lay (o := .dK xs) hp
    exact f _ _ _ _ O k l2 (.dK upd_same (hl.mono l2.base))
  · exact f _ _ _ _ _ (k p) (o.layO (t := oK ds) hp ⟨_, rfl, hl⟩) (.adr p)
theorem ec_dnewK (k : Φ (.dK []) O ∨ ∀ p, Φ (.adr p) ((p, oK []) :: O)) : Ec tDNewK τ O Φ := fun σ B C s o Q f p hp => f.newK o hp .nil k
theorem ec_dnewT (k : ∀ p, Φ (.adr p) ((p, oT []) :: O)) : Ec tDNewT τ O Φ := fun σ B C s o Q f p hp => f _ _ _ _ _ (k p) (o.layO (t := oT []) hp ⟨_, rfl, .nil⟩) (.adr p)
def Pc (trs : List (TE × TE)) (τ : Tau) (O : Ow) (Ψ : List (D × D) → Ow → Prop) : Prop := ∀ σ B C, Sl B σ τ → Ok B C O → ∀ Q : List (V × V) → Hp → Prop,
  (∀ ps ds B' C' O', Ψ ds O' → Le O B C B' C' O' → Paired (fun p d => Dt B' p.1 d.1 ∧ Dt B' p.2 d.2) ps ds → Q ps C') → tPairs trs σ C Q
theorem pc_nil {Ψ : List (D × D) → Ow → Prop} (k : Ψ [] O) : Pc [] τ O Ψ := fun σ B C s o Q f => f [] [] B C O k o.le .nil
theorem pc_cons {tk tv : TE} {r : List (TE × TE)} {Ψ : List (D × D) → Ow → Prop} (h : Ec tk τ O fun x O1 => Ec tv τ O1 fun y O2 => Pc r τ O2 fun ps O3 => Ψ ((x, y) :: ps) O3) : Pc ((tk, tv) :: r) τ O Ψ := fun σ B C s o Q f =>
  h σ B C s o _ fun u x B1 C1 O1 h1 l1 d1 => h1 σ B1 C1 (s.mono l1.base) l1.ok _ fun v y B2 C2 O2 h2 l2 d2 => h2 σ B2 C2 ((s.mono l1.base).mono l2.base) l2.ok _ fun ps ds B3 C3 O3 h3 l3 d3 =>
    f _ _ B3 C3 O3 h3 ((l1.trans l2).trans l3) (.cons ⟨(d1.mono l2.base).mono l3.base, d2.mono l3.base⟩ d3)
theorem pairs_K {B : Hp} : ∀ {kvs : List (Key × D)} {ps : List (V × V)}, Paired (fun p d => Dt B p.1 d.1 ∧ Dt B p.2 d.2) ps (kvs.map fun kv => (kD kv.1, kv.2)) → ∃ vs : List (Key × V), ps = vs.map (fun kv => (kV kv.1, kv.2)) ∧ PR (Dt B) vs kvs
  | [], _, .nil => ⟨[], rfl, .nil⟩
  | kv :: kvs, _, .cons h t => by
    obtain ⟨vs, e, r⟩ := pairs_K (kvs := kvs) t
    obtain ⟨h1, h2⟩ := h
    rename_i p l
    refine ⟨(kv.1, p.2) :: vs, ?_, .cons ⟨rfl, h2⟩ r⟩
    rw [e, List.map_cons]
    congr 1
    exact Prod.ext (kD_of h1) rfl
theorem PR.merge {κ α β : Type} [DecidableEq κ] {R : α → β → Prop} {ms : List (κ × α)} {ns : List (κ × β)} (r : PR R ms ns) : ∀ {xs : List (κ × α)} {ys : List (κ × β)}, PR R xs ys → PR R (mergeG xs ms) (mergeG ys ns) := by
  induction r with
  | nil => exact fun q => q
  | @cons p q l m h t ih =>
    intro xs ys z
    have e : p.1 = q.1 := h.1
    show PR R (mergeG (putG xs p.1 p.2) l) (mergeG (putG ys q.1 q.2) m)
    rw [e]
    exact ih (z.put q.1 h.2)
theorem ec_disp {trs : List (TE × TE)} (h : Pc trs τ O fun ps O1 => ∃ kvs : List (Key × D), ps = kvs.map (fun kv => (kD kv.1, kv.2)) ∧ kvs.length ≤ 15 ∧ (kvs.map (·.1)).Nodup ∧ (Φ (.dK kvs) O1 ∨ ∀ p, Φ (.adr p) ((p, oK kvs) :: O1))) : Ec (tDisp trs) τ O Φ := fun σ B C s o Q f p hp => by
  have l0 := o.layO (o := .dK []) (t := oK []) hp ⟨[], rfl, .nil⟩
  refine h σ B (upd C p (.dK [])) s l0.ok.tail _ fun ps ds B1 C1 O1 ⟨kvs, e, hl, nd, k⟩ l1 rel => ?_
  subst e
  have l1' := Le.cons l0.ok l1
  obtain ⟨vs, e, pr⟩ := pairs_K rel
  obtain ⟨hb, o2, hc, xs, e2, hx⟩ := l1'.ok.own (p, oK []) List.mem_cons_self
  cases hx
  subst e2
  have lv : vs.length = kvs.length := Paired.length pr
  refine ⟨hc, vs, e, by omega, ?_⟩
  rw [mergeK_is]
  have pm : PR (Dt B1) (mergeG [] vs) kvs := by
    have := pr.merge (xs := []) (ys := []) .nil
    rwa [mergeG_nil nd] at this
  have lw := l1'.ok.write (j := 0) (u := oK kvs) (o := .dK (mergeG [] vs)) rfl ⟨_, rfl, pr_dtK pm⟩
  have lt := (l0.trans l1').trans lw
  rcases k with k | k
  · have lf := lt.ok.freeze (j := 0) (o := .dK (mergeG [] vs)) rfl upd_same
    exact f _ _ _ _ _ k (lt.trans lf) (.dK upd_same (DtK.mono lf.base (pr_dtK pm)))
  · exact f _ _ _ _ _ (k p) lt (.adr p)
/-! fields -/
theorem ec_fld {C : Addr} {f : Str} (hC : Cls K C) (hn : NoAttr K C f) (h : Ec te τ O fun x O1 => ∃ gs d, x = .ins C gs ∧ gs.lookup f = some d ∧ Φ d O1) : Ec (tFld K te f) τ O Φ := fun σ B C0 s o Q g =>
  h σ B C0 s o _ fun v x B1 C1 O1 ⟨gs, d, e, hl, p⟩ l1 d1 => by
    subst e
    cases d1 with
    | ins ha hf =>
      obtain ⟨y, hy, hd⟩ := dtF_lookup hf hl
      exact ⟨_, C, _, _, y, rfl, l1.ok.sub _ _ ha, hC, hn, hy, g _ _ _ _ _ p l1 hd⟩
/-! lists that are changed -/
theorem ec_app (h : Ec td τ O fun x O1 => ∃ (j : Nat) (a : Addr) (ds : List D), x = .adr a ∧ O1[j]? = some (a, oLst ds) ∧ Ec te τ O1 fun y O2 => ∃ (i : Nat) (es : List D), O2[i]? = some (a, oLst es) ∧ es.length < sizeLine ∧ Φ .non (O2.set i (a, oLst (es ++ [y])))) :
    Ec (tBM K "list" rAppend td (tCons te tNil)) τ O Φ := fun σ B C s o Q f =>
  h σ B C s o _ fun v x B1 C1 O1 ⟨j, a, ds, e, hO, h1⟩ l1 d1 => by
    subst e
    cases d1
    obtain ⟨z, hc, xs, rfl, hx⟩ := l1.ok.at_ hO
    refine ⟨.inl ⟨rfl, xs, .inl (.inl hc)⟩, h1 σ B1 C1 (s.mono l1.base) l1.ok _ fun u y B2 C2 O2 ⟨i, es, hO2, hz, p⟩ l2 d2 => ?_⟩
    obtain ⟨z2, hc2, xs2, rfl, hx2⟩ := l2.ok.at_ hO2
    refine ⟨a, xs2, u, rfl, rfl, hc2, by rw [hx2.length]; exact hz, ?_⟩
    have lw := l2.ok.write (u := oLst (es ++ [y])) hO2 (o := .lst (xs2 ++ [u])) ⟨_, rfl, hx2.append (.one d2)⟩
    exact f _ _ _ _ _ p ((l1.trans l2).trans lw) .non
/-- l[i] = v -/
theorem gc_sub {to ti : TE} (h : Ec te τ O fun d O1 => Ec to τ O1 fun x O2 => Ec ti τ O2 fun y O3 => ∃ (j : Nat) (a : Addr) (ds : List D) (i : Int) (n : Nat), x = .adr a ∧ y = .int i ∧ O3[j]? = some (a, oLst ds) ∧ ixN ds.length i = some n ∧ E.nx τ (O3.set j (a, oLst (ds.set n d)))) :
    Sc (tAsg te (gSub to ti rSetL)) E τ O := fun σ B C s o F f =>
  h σ B C s o _ fun v vd B1 C1 O1 h1 l1 d1 => h1 σ B1 C1 (s.mono l1.base) l1.ok _ fun x xd B2 C2 O2 h2 l2 d2 => h2 σ B2 C2 ((s.mono l1.base).mono l2.base) l2.ok _ fun y yd B3 C3 O3 ⟨j, a, ds, i, n, e1, e2, hO, hn, p⟩ l3 d3 => by
    subst e1 e2
    cases d2
    cases d3
    obtain ⟨z, hc, xs, rfl, hx⟩ := l3.ok.at_ hO
    refine ⟨a, xs, i, n, rfl, rfl, hc, by rw [hx.length]; exact hn, ?_⟩
    have lw := l3.ok.write (u := oLst (ds.set n vd)) hO (o := .lst (xs.set n v)) ⟨_, rfl, hx.set ((d1.mono l2.base).mono l3.base) n⟩
    have lt := ((l1.trans l2).trans l3).trans lw
    exact f.nx σ τ _ _ _ p lt (s.mono lt.base)
/-! left as they are for good; no longer looked at -/
def Fz (a : Addr) (t : Ot) (d : D) : Prop := ∀ B o, B a = some o → t.ok B o → Dt B (.ref a) d
theorem fz_L {a : Addr} {ds : List D} : Fz a (oLst ds) (.lst ds) := fun B o h ⟨xs, e, q⟩ => by
  subst e
  exact .lst h q
theorem fz_K {a : Addr} {ds : List (Key × D)} : Fz a (oK ds) (.dK ds) := fun B o h ⟨xs, e, q⟩ => by
  subst e
  exact .dK h q
theorem fz_T {a : Addr} {ds : List (List Key × D)} : Fz a (oT ds) (.dT ds) := fun B o h ⟨xs, e, q⟩ => by
  subst e
  exact .dT h q
theorem fz_I {a C : Addr} {ds : List (Str × D)} : Fz a (oIns C ds) (.ins C ds) := fun B o h ⟨dx, xs, e, q⟩ => by
  subst e
  exact .ins h q
theorem fz_N {P : Program} {w : World} {a : Addr} {ds : List (Key2 × V)} : Fz a (oN P w a ds) (.dN P w ds) := fun B o h ⟨ep, ys, e, q⟩ => by
  subst e
  exact .dN h q
theorem Ok.fz {B C : Hp} (o : Ok B C O) {j : Nat} {a : Addr} {t : Ot} {d : D} (hO : O[j]? = some (a, t)) (f : Fz a t d) : ∃ B', Le O B C B' C (O.eraseIdx j) ∧ Dt B' (.ref a) d := by
  obtain ⟨u, hc, hu⟩ := o.at_ hO
  have l := o.freeze hO hc
  exact ⟨_, l, f _ u upd_same (t.mono l.base hu)⟩
theorem Sl.adr {B B' : Hp} {σ : L2.St} (s : Sl B' σ τ) {i : Nat} {a : Addr} {d : D} (h : τ[i]? = some (some (.adr a))) (hd : Dt B' (.ref a) d) : Sl B' σ (τ.set i (some d)) := by
  refine ⟨by rw [List.length_set]; exact s.len, fun n e hn => ?_⟩
  rw [List.getElem?_set] at hn
  by_cases hi : i = n
  · rw [if_pos hi] at hn
    split at hn
    · obtain rfl := Option.some.inj (Option.some.inj hn)
      subst hi
      obtain ⟨v, hv, q⟩ := s.at_ i _ h
      cases q
      exact ⟨_, hv, hd⟩
    · cases hn
  · rw [if_neg hi] at hn
    exact s.at_ n e hn
theorem sc_fz {ts : TS} {i j : Nat} {a : Addr} {t : Ot} {d : D} (hO : O[j]? = some (a, t)) (f : Fz a t d) (hτ : τ[i]? = some (some (.adr a))) (h : Sc ts E (τ.set i (some d)) (O.eraseIdx j)) : Sc ts E τ O := fun σ B C s o F g => by
  obtain ⟨B', l, hd⟩ := o.fz hO f
  exact h σ B' C ((s.mono l.base).adr (B := B) hτ hd) l.ok F (g.back l)
theorem ec_fz {i j : Nat} {a : Addr} {t : Ot} {d : D} (hO : O[j]? = some (a, t)) (f : Fz a t d) (hτ : τ[i]? = some (some (.adr a))) (h : Ec te (τ.set i (some d)) (O.eraseIdx j) Φ) : Ec te τ O Φ := fun σ B C s o F g => by
  obtain ⟨B', l, hd⟩ := o.fz hO f
  exact h σ B' C ((s.mono l.base).adr (B := B) hτ hd) l.ok F (g.back l)
/-- .. what is handed back -/
theorem ec_fzR (h : Ec te τ O fun x O1 => ∃ j a t d, x = .adr a ∧ O1[j]? = some (a, t) ∧ Fz a t d ∧ Φ d (O1.eraseIdx j)) : Ec te τ O Φ := fun σ B C s o Q g =>
  h σ B C s o _ fun v x B1 C1 O1 ⟨j, a, t, d, e, hO, f, p⟩ l1 d1 => by
    subst e
    cases d1
    obtain ⟨B', l, hd⟩ := l1.ok.fz hO f
    exact g _ _ _ _ _ p (l1.trans l) hd
theorem Ok.drop {B C : Hp} {O' : Ow} (o : Ok B C O) (h : O'.Sublist O) : Le O B C B C O' :=
  ⟨Same.refl _, ⟨o.sub, o.nd.sublist (h.map _), fun p hp => o.own p (h.subset hp)⟩, fun _ _ _ e => e, fun _ e => e, fun _ _ _ _ _ => rfl, fun p hp => .inl (List.mem_map_of_mem (h.subset hp))⟩
theorem ec_drop (h : Ec te τ O fun x O1 => ∃ O2, O2.Sublist O1 ∧ Φ x O2) : Ec te τ O Φ := fun σ B C s o Q g =>
  h σ B C s o _ fun v x B1 C1 O1 ⟨O2, hs, p⟩ l1 d1 => g _ _ _ _ _ p (l1.trans (l1.ok.drop hs)) d1
theorem sc_dropO {ts : TS} {O' : Ow} (hs : O'.Sublist O) (h : Sc ts E τ O') : Sc ts E τ O := fun σ B C s o F g => h σ B C s (o.drop hs).ok F (g.back (o.drop hs))
theorem Ok.perm {B C : Hp} {O' : Ow} (o : Ok B C O) (h : O'.Perm O) : Le O B C B C O' :=
  ⟨Same.refl _, ⟨o.sub, (h.map _).nodup_iff.mpr o.nd, fun p hp => o.own p (h.mem_iff.mp hp)⟩, fun _ _ _ e => e, fun _ e => e, fun _ _ _ _ _ => rfl, fun p hp => .inl (List.mem_map_of_mem (h.mem_iff.mp hp))⟩
theorem sc_permO {ts : TS} {O' : Ow} (hp : O'.Perm O) (h : Sc ts E τ O') : Sc ts E τ O := fun σ B C s o F g => h σ B C s (o.perm hp).ok F (g.back (o.perm hp))
theorem sc_cut {t u : TS} (M : Tau → Ow → Prop) (h : Sc t { E with nx := M } τ O) (k : ∀ τ' O', M τ' O' → Sc u E τ' O') : Sc (tSeq t u) E τ O := sc_seq (Sc.imp h (fun τ' O' p => k τ' O' p) (fun _ _ p => p) (fun _ _ p => p) (fun _ _ p => p))
/-! locked for a while -/
theorem Ok.retype {B C : Hp} (o : Ok B C O) {j : Nat} {a : Addr} {t t' : Ot} (hO : O[j]? = some (a, t)) (h : ∀ u, C a = some u → t.ok B u → t'.ok B u) : Le O B C B C (O.set j (a, t')) := by
  obtain ⟨u, hc, hu⟩ := o.at_ hO
  have l := o.write (o := u) (u := t') hO (h u hc hu)
  have e : upd C a u = C := by
    funext b
    unfold upd
    split
    · rename_i hb
      rw [hb, hc]
    · rfl
  rwa [e] at l
theorem ec_lock {j : Nat} {a : Addr} {t : Ot} (hO : O[j]? = some (a, t)) (hm : ∀ B o, t.ok B o → Mut (some o)) (h : ∀ od u, Ec te τ (O.set j (a, oLk t od u)) fun d O1 => ∃ i, O1[i]? = some (a, oLk t od u) ∧ Φ d (O1.set i (a, t))) : Ec (tLockE te) τ O Φ := fun σ B C s o Q f => by
  obtain ⟨u, hc, hu⟩ := o.at_ hO
  refine ⟨a, u, hc, hm _ _ hu, fun od => ?_⟩
  have lw := o.write (u := oLk t od u) hO (o := .frz od u) ⟨rfl, hu⟩
  refine h od u σ B _ (s.mono lw.base) lw.ok _ fun v d B1 C1 O1 ⟨i, hi, p⟩ l1 d1 => ?_
  obtain ⟨z, hz, rfl, hu1⟩ := l1.ok.at_ hi
  have lb := l1.ok.write (u := t) hi (o := u) hu1
  exact ⟨hz, f _ _ _ _ _ p ((lw.trans l1).trans lb) d1⟩
theorem mut_T {ds : List (List Key × D)} : ∀ B o, (oT ds).ok B o → Mut (some o) := fun B o ⟨xs, e, q⟩ => by
  subst e
  exact True.intro
end
end Ab

/-! ## AbG -/
set_option Elab.async false
set_option linter.all false
set_option maxRecDepth 100000
set_option maxHeartbeats 1000000
/-! lists of tables, sorted lists, comparisons of data, by data -/
namespace Ab
open PySem L2
section
variable {X : Cx} {K : PySem.W.Frag}
/-! ### rules of ours -/
def rListT : List V → Hp → VK → Prop := fun xs H Q => ∃ d kvs, xs = [V.ref d] ∧ Rd H d (.dT kvs) ∧ ∀ p bs, H p = none → IsKeys H kvs bs → Q (.ref p) (upd H p (.lst (bs.map V.ref)))
theorem call_listT (hc : X.calm = true) : CallR X (.type "list") rListT := call_list_dT hc
def rDictC : List V → Hp → VK → Prop := fun xs H Q => ∃ a kvs, xs = [V.ref a] ∧ Rd H a (.dK kvs) ∧ ∀ p, H p = none → Q (.ref p) (upd H p (.dK kvs))
theorem call_dictC : CallR X (.type "dict") rDictC := by
  intro pins s σ H xs us Q I r h
  obtain ⟨a, kvs, rfl, hd, q⟩ := h
  rw [Vals.ref1 r]
  exact d_copyOf I hd fun p s' hp I' => ⟨.ref p, _, I', rfl, q p hp⟩
/-- max(t), t a tuple of ints -/
def rMaxT (K : PySem.W.Frag) : List V → Hp → VK → Prop := fun xs H Q => ∃ (a : Addr) (ns : List Int), xs = [V.ref a] ∧ SqT K H a (ns.map V.int) ∧ ns ≠ [] ∧ Q (.int (maxI ns)) H
theorem reads_ints {h : Heap} : ∀ (ns : List Int) (us : List Value), Vals (ns.map V.int) us → ∃ as, ReadsAll h us (ns.map PyData.int) as
  | [], _, r => by
    rw [List.map_nil] at r
    cases r
    exact ⟨_, .nil⟩
  | n :: ns, _, r => by
    rw [List.map_cons] at r
    cases r with
    | cons a b =>
      obtain ⟨t, rfl⟩ := a
      obtain ⟨as, q⟩ := reads_ints ns _ b
      exact ⟨_, .cons (.int n t) q⟩
theorem foldl_maxI : ∀ (ns : List Int) (n : Int), ns.foldl max n = maxI (n :: ns)
  | [], n => rfl
  | m :: ns, n => by
    show ns.foldl max (max n m) = max n (maxI (m :: ns))
    rw [foldl_maxI ns (max n m)]
    cases ns with
    | nil => rfl
    | cons x r =>
      show max (max n m) (maxI (x :: r)) = max n (max m (maxI (x :: r)))
      omega
theorem depth0_ints : ∀ ns : List Int, PyData.depthAll (ns.map PyData.int) = 0
  | [] => rfl
  | n :: ns => by
    rw [List.map_cons, PyData.depthAll, depth0_ints ns]
    rfl
theorem call_maxT (hK : X.K = K) (hc : X.calm = true) (hu : X.A.units + 64 < cLine) : CallR X (.builtin "max") (rMaxT K) := by
  subst hK
  intro pins s σ H xs us Q I r h
  obtain ⟨a, ns, rfl, hs, hne, q⟩ := h
  rw [Vals.ref1 r]
  obtain ⟨its, rv, ht, _⟩ := I.tuple hs
  cases ns with
  | nil => exact absurd rfl hne
  | cons n ns =>
    obtain ⟨as, rd⟩ := reads_ints (h := s.heap) (n :: ns) its rv
    have e0 : its.toArray.toList = its := by simp
    refine PySem.W.max_tuple_data (x := .int n) (xs := ns.map .int) (I.ok.hd hc) ht (by rw [e0]; exact rd) ⟨fun x hx y hy => ?_, fun x hx => ?_⟩ ?_ fun i v h' tk bs hv rd' hk => ?_
    · obtain ⟨i, _, rfl⟩ := List.mem_map.mp (show x ∈ (n :: ns).map PyData.int from hx)
      obtain ⟨j, _, rfl⟩ := List.mem_map.mp (show y ∈ (n :: ns).map PyData.int from hy)
      rfl
    · obtain ⟨i, _, rfl⟩ := List.mem_map.mp (show x ∈ (n :: ns).map PyData.int from hx)
      exact fun z => nomatch z
    · have := depth0_ints (n :: ns)
      rw [List.map_cons] at this
      rw [this]
      omega
    · rw [PySem.W.maxD_ints, foldl_maxI] at rd'
      cases rd' with
      | int i t => exact ⟨.int (maxI (n :: ns)), H, I.kept hk, ⟨_, rfl⟩, q⟩
/-- sorted(xs), xs a list that reads as data -/
def rSortD (K : PySem.W.Frag) : List V → Hp → VK → Prop := fun xs H Q => ∃ (a : Addr) (bs : List (V × PyData)), xs = [V.ref a] ∧ SqL K H a (bs.map (·.1)) ∧ (∀ b ∈ bs, Dp K H b.1 b.2) ∧ PySem.W.AllAlike (bs.map (·.2)) ∧ PySem.W.Sortable (bs.map (·.2)) ∧ (∀ b ∈ bs, b.2.depth ≤ 8) ∧
  ∀ p, H p = none → Q (.ref p) (upd H p (.lst ((bs.mergeSort (PySem.W.dataLe false (·.2))).map (·.1))))
theorem each_of {s : Shared} {α β : Type} {R : α → β → Prop} : ∀ {xs : List α} {ys : List β}, Paired R xs ys → PySem.W.EachIs (fun (u : β) (x : α) => R x u) ys xs
  | _, _, .nil => .nil
  | _, _, .cons h t => .cons h (each_of (s := s) t)
theorem of_each {α β : Type} {R : α → β → Prop} : ∀ {xs : List α} {ys : List β}, PySem.W.EachIs (fun (u : β) (x : α) => R x u) ys xs → Paired R xs ys
  | _, _, .nil => .nil
  | _, _, .cons h t => .cons h (of_each t)
theorem each_and {α β : Type} {R S : α → β → Prop} : ∀ {xs : List α} {ys : List β}, PySem.W.EachIs R xs ys → (∀ y ∈ ys, ∀ x, R x y → S x y) → PySem.W.EachIs S xs ys
  | _, _, .nil, _ => .nil
  | _, _, .cons h t, f => .cons (f _ List.mem_cons_self _ h) (each_and t fun y hy => f y (List.mem_cons_of_mem _ hy))
theorem paired_map1 {α β γ : Type} {R : β → γ → Prop} {f : α → β} : ∀ {xs : List α} {ys : List γ}, Paired R (xs.map f) ys → Paired (fun x y => R (f x) y) xs ys
  | [], _, r => by
    rw [List.map_nil] at r
    cases r
    exact .nil
  | x :: xs, _, r => by
    rw [List.map_cons] at r
    cases r with
    | cons a b => exact .cons a (paired_map1 b)
theorem paired_map2 {α β γ : Type} {R : β → γ → Prop} {f : α → β} {xs : List α} {ys : List γ} (r : Paired (fun x y => R (f x) y) xs ys) : Paired R (xs.map f) ys := by
  induction r with
  | nil => exact .nil
  | cons h t ih => exact .cons h ih
theorem cr_sortedD (hK : X.K = K) (hu : X.A.units + 64 < cLine) : CallR X (.builtin "sorted") (rSortD K) := by
  subst hK
  intro pins s σ H xs us Q I r h
  obtain ⟨a, bs, rfl, hs, hd, hal, hsb, hdp, q⟩ := h
  obtain ⟨its, rv, hl, hz⟩ := I.list hs
  rw [Vals.ref1 r]
  have e1 : PySem.W.EachIs (fun (u : Value) (b : V × PyData) => RelV b.1 u) its bs := each_of (s := s) (paired_map1 (f := fun b : V × PyData => b.1) rv)
  have e2 : PySem.W.EachIs (fun (u : Value) (b : V × PyData) => ∃ as, Reads s.heap u b.2 as) its bs := each_and e1 fun b hb u ru => Dp.reads I _ _ u (hd b hb) ru
  rw [List.length_map] at hz
  refine PySem.W.sorted_data (enc := fun b : V × PyData => b.2) hl.isList e1 e2 hal hsb hz (fun b hb => by have := hdp b hb; omega) fun out ho eo => ?_
  obtain ⟨ep, he⟩ := PyProof.Rows.sortedAll_at s.heap its out.toArray
  refine ⟨.ref _, upd H (s.heap.objs.size + 1) (.lst ((bs.mergeSort (PySem.W.dataLe false (·.2))).map (·.1))), I.laid (t' := s.toks) (fun _ _ => PyProof.Rows.sortedAll_old) (Nat.le_succ _) ⟨?_, out, ep, paired_map2 (of_each eo), ?_⟩, rfl, q _ (I.hok.fresh (Nat.le_succ _))⟩
  · rw [List.length_map, (List.mergeSort_perm bs _).length_eq]
    exact hz
  · exact he
end
/-! ### by data -/
mutual
inductive Pd : D → PyData → Prop
  | non : Pd .non .none
  | bl (b : Bool) : Pd (.bl b) (.bool b)
  | int (i : Int) : Pd (.int i) (.int i)
  | str (x : Str) : Pd (.str x) (.str x)
  | lst {ds : List D} {ps : List PyData} : PdL ds ps → Pd (.lst ds) (.list ps)
  | tup {ds : List D} {ps : List PyData} : PdL ds ps → Pd (.tup ds) (.tuple ps)
inductive PdL : List D → List PyData → Prop
  | nil : PdL [] []
  | cons {d : D} {ds : List D} {p : PyData} {ps : List PyData} : Pd d p → PdL ds ps → PdL (d :: ds) (p :: ps)
end
section
variable {K : PySem.W.Frag} {B C : Hp}
mutual
theorem Pd.dp (s : Same B C) : ∀ {d : D} {p : PyData} {v : V}, Pd d p → Dt B v d → Dp K C v p
  | _, _, _, .non, h => by cases h; exact .non
  | _, _, _, .bl b, h => by cases h; exact .bl b
  | _, _, _, .int b, h => by cases h; exact .int b
  | _, _, _, .str b, h => by cases h; exact .str b
  | _, _, _, .lst r, h => by
    cases h with
    | lst ha hl => exact .lst (.inl (.inl (s _ _ ha))) (PdL.dp s r hl)
  | _, _, _, .tup r, h => by
    cases h with
    | tup ha hl => exact .tup (.inl (.inl (s _ _ ha))) (PdL.dp s r hl)
theorem PdL.dp (s : Same B C) : ∀ {ds : List D} {ps : List PyData} {vs : List V}, PdL ds ps → DtL B vs ds → DpAll K C vs ps
  | _, _, _, .nil, h => by cases h; exact .nil
  | _, _, _, .cons a r, h => by
    cases h with
    | cons h1 h2 => exact .cons (Pd.dp s a h1) (PdL.dp s r h2)
end
theorem pdL_map {α : Type} {enc : α → D} {pd : α → PyData} (h : ∀ x, Pd (enc x) (pd x)) : ∀ xs : List α, PdL (xs.map enc) (xs.map pd)
  | [] => .nil
  | x :: xs => .cons (h x) (pdL_map h xs)
theorem pd_ints (ns : List Int) : PdL (ns.map D.int) (ns.map PyData.int) := pdL_map (fun i => .int i) ns
end
section
variable {K : PySem.W.Frag} {O : Ow} {Φ : Cd}
theorem rc_eqD {x y : D} {p q : PyData} (h1 : Pd x p) (h2 : Pd y q) (s1 : SeqAt.shaped p = true) (s2 : SeqAt.shaped q = true) (k : Φ (.bl (PyData.eqv p q)) O) : Rc (rEqD K) x y O Φ := fun B C v u o d e Q f =>
  ⟨p, q, h1.dp o.sub d, h2.dp o.sub e, s1, s2, f _ _ B C O k o.le (.bl _)⟩
theorem rc_neD {x y : D} {p q : PyData} (h1 : Pd x p) (h2 : Pd y q) (s1 : SeqAt.shaped p = true) (s2 : SeqAt.shaped q = true) (k : Φ (.bl (!PyData.eqv p q)) O) : Rc (rNeD K) x y O Φ := fun B C v u o d e Q f =>
  ⟨p, q, h1.dp o.sub d, h2.dp o.sub e, s1, s2, f _ _ B C O k o.le (.bl _)⟩
theorem keys_dt {B : Hp} {vs : List (Key × V)} {kvs : List (Key × D)} (r : PR (Dt B) vs kvs) : DtL B (vs.map fun kv => kV kv.1) (kvs.map fun kv => kD kv.1) := by
  induction r with
  | nil => exact .nil
  | @cons p q l m h t ih =>
    rw [List.map_cons, List.map_cons, h.1]
    exact .cons (dt_kD _ _) ih
theorem bc_listK {kvs : List (Key × D)} (k : Φ (.lst (kvs.map fun kv => kD kv.1)) O ∨ ∀ p, Φ (.adr p) ((p, oLst (kvs.map fun kv => kD kv.1)) :: O)) : Bc rListD [.dK kvs] O Φ := fun B C vs o d Q f => by
  cases d with
  | cons a b =>
    cases b
    cases a with
    | dK ha hk =>
      exact ⟨_, _, rfl, o.sub _ _ ha, fun p hp => f.newL o hp (keys_dt (dtK_pr hk)) k⟩
theorem bc_listoK {j : Nat} {a : Addr} {kvs : List (Key × D)} (h : O[j]? = some (a, oK kvs)) (k : Φ (.lst (kvs.map fun kv => kD kv.1)) O ∨ ∀ p, Φ (.adr p) ((p, oLst (kvs.map fun kv => kD kv.1)) :: O)) : Bc rListD [.adr a] O Φ := fun B C vs o d Q f => by
  cases d with
  | cons a b =>
    cases b
    cases a
    obtain ⟨z, hc, xs, rfl, hk⟩ := o.at_ h
    exact ⟨_, _, rfl, hc, fun p hp => f.newL o hp (keys_dt (dtK_pr hk)) k⟩
theorem isKeys_dt {B C : Hp} (s : Same B C) {vs : List (List Key × V)} {kvs : List (List Key × D)} (r : PR (Dt B) vs kvs) : ∀ {bs : List Addr}, IsKeys C vs bs → DtL (tups B C) (bs.map V.ref) (kvs.map fun kv => ksD kv.1) := by
  induction r with
  | nil =>
    intro bs h
    cases h
    exact .nil
  | @cons p q l m h t ih =>
    intro bs hb
    cases hb with
    | cons a b =>
      rw [List.map_cons, List.map_cons, ← h.1]
      exact .cons (.tup (tups_at s a) (dt_kDs _ _)) (ih b)
theorem bc_listdT {kvs : List (List Key × D)} (k : Φ (.lst (kvs.map fun kv => ksD kv.1)) O ∨ ∀ p, Φ (.adr p) ((p, oLst (kvs.map fun kv => ksD kv.1)) :: O)) : Bc rListT [.dT kvs] O Φ := fun B C vs o d Q f => by
  cases d with
  | cons a b =>
    cases b
    cases a with
    | dT ha hk =>
      refine ⟨_, _, rfl, .inl (o.sub _ _ ha), fun p bs hp ik => ?_⟩
      exact Fin_.newL (f.back o.tups) o.tups.ok hp (isKeys_dt o.sub (dtT_pr hk) ik) k
theorem bc_dictC {kvs : List (Key × D)} (k : Φ (.dK kvs) O ∨ ∀ p, Φ (.adr p) ((p, oK kvs) :: O)) : Bc rDictC [.dK kvs] O Φ := fun B C vs o d Q f => by
  cases d with
  | cons a b =>
    cases b
    cases a with
    | dK ha hk => exact ⟨_, _, rfl, .inl (o.sub _ _ ha), fun p hp => f.newK o hp hk k⟩
theorem bc_maxT {ns : List Int} (hn : ns ≠ []) (k : Φ (.int (maxI ns)) O) : Bc (rMaxT K) [.tup (ns.map D.int)] O Φ := fun B C vs o d Q f => by
  cases d with
  | cons a b =>
    cases b
    cases a with
    | tup ha hl =>
      have e := hl.ints
      subst e
      exact ⟨_, ns, rfl, .inl (.inl (o.sub _ _ ha)), hn, f _ _ B C O k o.le (.int _)⟩
theorem zip_fst {α β : Type} : ∀ {xs : List α} {ys : List β}, xs.length = ys.length → (xs.zip ys).map (·.1) = xs
  | [], [], _ => rfl
  | [], _ :: _, h => by cases h
  | _ :: _, [], h => by cases h
  | x :: xs, y :: ys, h => by
    rw [List.zip_cons_cons, List.map_cons, zip_fst (Nat.succ.inj h)]
theorem dtL_zip {B : Hp} {α : Type} {enc : α → D} : ∀ {vs : List V} {xs : List α}, DtL B vs (xs.map enc) → vs.length = xs.length ∧ ∀ z ∈ vs.zip xs, Dt B z.1 (enc z.2)
  | _, [], h => by
    rw [List.map_nil] at h
    cases h
    exact ⟨rfl, fun z hz => absurd hz List.not_mem_nil⟩
  | _, x :: xs, h => by
    rw [List.map_cons] at h
    cases h with
    | cons a b =>
      obtain ⟨h1, h2⟩ := dtL_zip b
      refine ⟨congrArg (· + 1) h1, fun z hz => ?_⟩
      rcases List.mem_cons.mp hz with rfl | hz
      · exact a
      · exact h2 z hz
theorem dtL_unzip {B : Hp} {α : Type} {enc : α → D} : ∀ {zs : List (V × α)}, (∀ z ∈ zs, Dt B z.1 (enc z.2)) → DtL B (zs.map (·.1)) ((zs.map (·.2)).map enc)
  | [], _ => .nil
  | z :: zs, h => .cons (h z List.mem_cons_self) (dtL_unzip fun y hy => h y (List.mem_cons_of_mem _ hy))
/-- sorted(xs): a rearrangement, in the order of the data -/
theorem bc_sort {α : Type} {xs : List α} (enc : α → D) (pd : α → PyData) (hp : ∀ x ∈ xs, Pd (enc x) (pd x)) (ha : ∀ x ∈ xs, ∀ y ∈ xs, PySem.W.alike (pd x) (pd y) = true) (hs : PySem.W.Sortable (xs.map pd)) (hd : ∀ x ∈ xs, (pd x).depth ≤ 8)
    (k : Φ (.lst ((xs.mergeSort (PySem.W.dataLe false pd)).map enc)) O) : Bc (rSortD K) [.lst (xs.map enc)] O Φ := fun B C vs o d Q f => by
  cases d with
  | cons a b =>
    cases b
    cases a with
    | lst ha' hl =>
      obtain ⟨hlen, hz⟩ := dtL_zip hl
      rename_i a vs
      have f1 : ((vs.zip xs).map fun z => (z.1, pd z.2)).map (·.1) = vs := by
        rw [List.map_map]
        exact zip_fst hlen
      have f2 : ((vs.zip xs).map fun z => (z.1, pd z.2)).map (·.2) = xs.map pd := by
        rw [List.map_map]
        have : (Prod.snd ∘ fun z : V × α => (z.1, pd z.2)) = pd ∘ Prod.snd := rfl
        rw [this, ← List.map_map]
        congr 1
        exact List.map_snd_zip (by omega)
      have mem : ∀ z ∈ vs.zip xs, z.2 ∈ xs := fun z h => (List.of_mem_zip h).2
      refine ⟨a, (vs.zip xs).map fun z => (z.1, pd z.2), rfl, by rw [f1]; exact .inl (.inl (o.sub _ _ ha')), fun b hb => ?_, ?_, by rw [f2]; exact hs, fun b hb => ?_, fun p hp' => ?_⟩
      · obtain ⟨z, h, rfl⟩ := List.mem_map.mp hb
        exact (hp _ (mem z h)).dp o.sub (hz z h)
      · rw [f2]
        intro d hd d' hd'
        obtain ⟨x, hx, rfl⟩ := List.mem_map.mp hd
        obtain ⟨y, hy, rfl⟩ := List.mem_map.mp hd'
        exact ha x hx y hy
      · obtain ⟨z, h, rfl⟩ := List.mem_map.mp hb
        exact hd _ (mem z h)
      · have g1 : ((vs.zip xs).map fun z => (z.1, pd z.2)).mergeSort (PySem.W.dataLe false (·.2)) = ((vs.zip xs).mergeSort (PySem.W.dataLe false fun z => pd z.2)).map fun z => (z.1, pd z.2) :=
          (List.map_mergeSort (f := fun z : V × α => (z.1, pd z.2)) fun a _ b _ => rfl).symm
        have g2 : xs.mergeSort (PySem.W.dataLe false pd) = ((vs.zip xs).mergeSort (PySem.W.dataLe false fun z => pd z.2)).map (·.2) := by
          have e : xs = (vs.zip xs).map (·.2) := (List.map_snd_zip (by omega)).symm
          conv => lhs; rw [e]
          exact (List.map_mergeSort (f := fun z : V × α => z.2) fun a _ b _ => rfl).symm
        rw [g1, List.map_map]
        rw [g2] at k
        refine f.newL o hp' (dtL_unzip fun z h => hz z ?_) (.inl k)
        exact (List.mergeSort_perm _ _).mem_iff.mp h
end
section
variable {K : PySem.W.Frag} {τ : Tau} {O : Ow} {te tl : TE} {Φ : Cd}
/-- new things, never changed -/
def ext (B C H : Hp) : Hp := fun b => if C b = none then H b else B b
theorem Ok.ext {B C H : Hp} (k : Ok B C O) (h : Same C H) : Le O B C (ext B C H) H O := by
  have off : ∀ b, C b ≠ none → Ab.ext B C H b = B b := fun b n => by
    unfold Ab.ext
    rw [if_neg n]
  have sB : Same B (Ab.ext B C H) := fun b o e => by
    rw [off b (by rw [k.sub b o e]; exact Option.some_ne_none _)]
    exact e
  refine ⟨sB, ⟨fun b o e => ?_, k.nd, fun q hq => ?_⟩, fun a o _ e => h a o e, fun a e => ?_, fun a o _ e _ => off a (by rw [e]; exact Option.some_ne_none _), fun q hq => .inl (List.mem_map_of_mem hq)⟩
  · unfold Ab.ext at e
    split at e
    · exact e
    · exact h b o (k.sub b o e)
  · obtain ⟨x, u, y, z⟩ := k.own q hq
    exact ⟨(off _ (by rw [y]; exact Option.some_ne_none _)).trans x, u, h _ _ y, q.2.mono sB z⟩
  · cases z : C a with
    | none => exact absurd z e
    | some o =>
      rw [h a o z]
      exact Option.some_ne_none _
theorem ext_new {B C H : Hp} {b : Addr} (h : C b = none) : ext B C H b = H b := by
  unfold ext
  rw [if_pos h]
theorem items_dt {B C H' : Hp} (hs : Same C H') (sB : Same B (ext B C H')) {vs : List (Key × V)} {kvs : List (Key × D)} (r : PR (Dt B) vs kvs) : ∀ {ts : List Addr}, (∀ t ∈ ts, C t = none) → Paired (fun (t : Addr) (q : Key × V) => H' t = some (.tup [kV q.1, q.2])) ts vs →
    DtL (ext B C H') (ts.map V.ref) (kvs.map fun kv => .tup [kD kv.1, kv.2]) := by
  induction r with
  | nil =>
    intro ts _ h
    cases h
    exact .nil
  | @cons a b l m g t ih =>
    intro ts hts pr
    cases pr with
    | cons c r =>
      rw [List.map_cons, List.map_cons, ← g.1]
      exact .cons (.tup (by rw [ext_new (hts _ List.mem_cons_self)]; exact c) (.cons (dt_kD _ _) (.one (g.2.mono sB)))) (ih (fun y hy => hts y (List.mem_cons_of_mem _ hy)) r)
/-- list(d.items()) -/
theorem ec_items (h : Ec te τ O fun x O1 => ∃ kvs : List (Key × D), x = .dK kvs ∧ Φ (.lst (kvs.map fun kv => .tup [kD kv.1, kv.2])) O1) : Ec (LiI.tListItems te) τ O Φ := fun σ B C s o Q f =>
  h σ B C s o _ fun v x B1 C1 O1 ⟨kvs, e, p⟩ l1 d1 => by
    subst e
    cases d1 with
    | dK ha hk =>
      refine ⟨_, _, rfl, l1.ok.sub _ _ ha, fun H' q ts hs hq hts hn hl pr => ?_⟩
      have le := l1.ok.ext hs
      refine f _ _ _ _ _ p (l1.trans le) (.lst (by rw [ext_new hq]; exact hl) ?_)
      exact items_dt hs le.base (dtK_pr hk) hts pr
/-- xs[lo:hi] -/
theorem DtL.take {B : Hp} : ∀ {xs : List V} {ds : List D} (n : Nat), DtL B xs ds → DtL B (xs.take n) (ds.take n)
  | _, _, 0, _ => .nil
  | _, _, _ + 1, .nil => .nil
  | _, _, n + 1, .cons h r => .cons h (DtL.take n r)
theorem ec_sl1 (h : Ec te τ O fun x O1 => ∃ ds, x = .lst ds ∧ Φ (.lst (ds.take 1)) O1) : Ec (tSl (rSlL K) te tNoPart (tPart (tC (.int 1)))) τ O Φ := fun σ B C s o Q f =>
  h σ B C s o _ fun v x B1 C1 O1 ⟨ds, e, p⟩ l1 d1 => by
    subst e
    cases d1 with
    | lst ha hl =>
      refine ⟨1, rfl, _, _, rfl, .inl (.inl (l1.ok.sub _ _ ha)), fun q hq => ?_⟩
      rename_i a xs
      have e : cutV xs none (some 1) = xs.take 1 := by
        cases xs with
        | nil => rfl
        | cons y r =>
          have h0 : HT.sIx (y :: r).length 0 none = 0 := rfl
          have h1 : HT.sIx (y :: r).length (y :: r).length (some 1) = 1 := by
            simp [HT.sIx]
          unfold cutV
          rw [h0, h1]
          rfl
      rw [e]
      exact (f.back l1).newL l1.ok hq (hl.take 1) (.inl p)
/-- a op1 b op2 c -/
theorem ec_chain {r r' : R2} {ta tb tc : TE} (h : Ec ta τ O fun x O1 => Ec tb τ O1 fun y O2 => Rc r x y O2 fun z O3 => ∃ k, z = .bl k ∧ if k = true then Ec tc τ O3 fun w O4 => Rc r' y w O4 Φ else Φ (.bl false) O3) : Ec (tChain r r' ta tb tc) τ O Φ := fun σ B C s o Q f =>
  h σ B C s o _ fun u x B1 C1 O1 h1 l1 d1 => h1 σ B1 C1 (s.mono l1.base) l1.ok _ fun v y B2 C2 O2 h2 l2 d2 =>
    h2 B2 C2 u v l2.ok (d1.mono l2.base) d2 _ fun z zd B3 C3 O3 ⟨k, e, p⟩ l3 d3 => by
      subst e
      cases d3
      refine ⟨k, rfl, ?_⟩
      have lt := (l1.trans l2).trans l3
      cases k with
      | true => exact p σ B3 C3 (s.mono lt.base) l3.ok _ fun w wd B4 C4 O4 h4 l4 d4 => h4 B4 C4 v w l4.ok ((d2.mono l3.base).mono l4.base) d4 Q (f.back (lt.trans l4))
      | false => exact f _ _ _ _ _ p lt (.bl false)
end
end Ab

/-! ## AbH -/
set_option Elab.async false
set_option linter.all false
set_option maxRecDepth 100000
set_option maxHeartbeats 2000000
/-! dicts with tuple keys: setdefault, comprehensions -/
namespace Ab
open PySem PySem.Spec PyProof.Rows L2
section
variable {X : Cx}
/-- a key's place is filled, or was -/
theorem t_new {pins : List (Addr × Obj)} {σ : L2.St} {H : Hp} {s : Shared} {a b : Addr} {kvs : List (List L2.Key × V)} {xs : List (List L2.Key × Addr × Value)} {ks : List L2.Key} {y : V} {u : Value} {h' : Heap} {tk : Tok} (I : Inv X pins σ H s) (e : H a = some (.dT kvs)) (m : (a == sysModules) = false) (r : KT H kvs xs)
    (hb : H b = some (.tup (ks.map kV))) (ry : RelV y u) (hl : kvs.length < sizeLine) (dd : h'.DictOfH (tupleKind (mixKind X.prog X.w)) a (storedH xs ks b u)) (sb : Heap.SameBut a s.heap h') : Inv X pins σ (upd H a (.dT (putK kvs ks y))) { s with heap := h', toks := tk } := by
  obtain ⟨ob, es, ep, e1, e2, e3, e4, _, e5⟩ := dd
  have lp := length_putK kvs ks y
  refine d_write I (by rw [e]; exact True.intro) sb ⟨ob, e1⟩ ⟨by omega, m, _, (r.put ks hb ry).keeps fun c zs hc => ?_, ob, es, ep, e1, e2, e3, e4, e5⟩
  have ne : c ≠ a := fun z => by
    rw [z, e] at hc
    cases hc
  rw [upd_ne ne]
  exact hc
def rSetdT : V → List V → Hp → VK → Prop := fun x vs H Q => ∃ (a b : Addr) (d : V) (kvs : List (List L2.Key × V)) (ks : List L2.Key), x = .ref a ∧ vs = [.ref b, d] ∧ H a = some (.dT kvs) ∧ H b = some (.tup (ks.map kV)) ∧ kvs.length < sizeLine ∧
  (∀ v, valV kvs ks = some v → Q v H) ∧ (valV kvs ks = none → Q d (upd H a (.dT (putK kvs ks d))))
theorem mt_setdT (hu : X.A.units + 1 < cLine) : MtR X "dict.setdefault" rSetdT := by
  intro pins s σ H x vs v us Q I rx rv h
  obtain ⟨a, b, d, kvs, ks, rfl, rfl, hd, hb, hl, h1, h2⟩ := h
  obtain rfl := rx
  cases rv with
  | cons ra rt =>
    obtain rfl := ra
    obtain ⟨u, rfl, rd⟩ := L2.Vals.one rt
    obtain ⟨z, m, xs, r, dd⟩ := dt_of I.hok hd
    have lx : kvs.length = xs.length := Paired.length r
    refine call_setdefault_heap (hsz := by omega) (tupleKind_room_in1 hu) (key_of I.hok hb) m dd (fun p hp => ?_) fun hn h' dd' sb => ?_
    · have q := r.val ks
      rw [hp, Option.map_some] at q
      cases e : valV kvs ks with
      | none =>
        rw [e] at q
        exact q.elim
      | some y =>
        rw [e] at q
        exact ⟨y, H, I.tok _, q, h1 y e⟩
    · have q := r.val ks
      rw [hn, Option.map_none] at q
      cases e : valV kvs ks with
      | some y =>
        rw [e] at q
        exact q.elim
      | none => exact ⟨d, _, t_new I hd m r hb rd hl dd' sb, rd, h2 e⟩
/-- D[k] = v by a comprehension, k a tuple -/
theorem t_dictSet {pins : List (Addr × Obj)} {σ : L2.St} {H : Hp} {s : Shared} {E : Value → Shared → Prop} {a b : Addr} {kvs : List (List L2.Key × V)} {ks : List L2.Key} {y : V} {u : Value} {Q : Unit → Shared → Prop} (hu : X.A.units + 1 < cLine) (I : Inv X pins σ H s) (e : H a = some (.dT kvs)) (hb : H b = some (.tup (ks.map kV))) (hl : kvs.length < sizeLine) (ry : RelV y u)
    (h : ∀ s', Inv X pins σ (upd H a (.dT (putK kvs ks y))) s' → Q () s') : wpAny (model X.prog X.w) X.A (dictSet a (.ref b) u) Q E s := by
  obtain ⟨z, m, xs, r, dd⟩ := dt_of I.hok e
  have lx : kvs.length = xs.length := Paired.length r
  have room : (tupleKind (mixKind X.prog X.w)).room X.A := by
    show X.A.units < cLine
    omega
  exact wpAny_dictSet_heap (hsz := by omega) room (key_of I.hok hb) dd fun h' dd' sb => h _ (t_new I e m r hb ry hl dd' sb)
/-- {k: v for target in iter if ..}, the keys tuples -/
def tDcT (wi : TI) (g : TG) (tt : TT) (tk tv : TE) (vs : List Nat) : TE := fun σ H Q => wi σ H fun J H1 => ∀ D, H1 D = none → ∃ W : Nat → Nat → Hp → Prop, (∃ m, W 0 m (upd H1 D (.dT []))) ∧ ∀ i m H, W i m H →
  (J.stop i H ∧ Q (.ref D) H) ∨ (J.go i H ∧ ∃ Nx : Hp → Prop, (∀ H', Nx H' → ∃ m', m' < m ∧ W (i + 1) m' H') ∧ ∀ x H', J.yld i H x H' → g x (L2.wipe σ vs) H' fun σ2 H2 => L2.wipe σ2 vs = L2.wipe σ vs ∧ tt σ2 H2 fun b H3 =>
    if b = true then tk σ2 H3 fun y H4 => tv σ2 H4 fun z H5 => ∃ kvs ks q, y = .ref q ∧ H5 q = some (.tup (ks.map kV)) ∧ H5 D = some (.dT kvs) ∧ kvs.length < sizeLine ∧ Nx (upd H5 D (.dT (putK kvs ks z))) else Nx H3)
theorem pe_dcT {kx vx tg iter : Expr} {ifs : List Expr} {scope : Scope} {own : List (Str × Nat)} {pos : Pos} {wi : TI} {g : TG} {tt : TT} {tk tv : TE} (hu : X.A.units + 1 < cLine) (calm : X.calm = true) (nd : X.N.Nodup) (hi : PI X tg iter wi) (ok : BlkOk X.N X.env.scope scope own)
    (G : ∀ (s : Shared) (H : Hp) (c : Addr) (cl : List (Str × Addr)) (fp : List Addr), PG (X.blk s H scope (compEnvC scope cl c X.env) fp) tg g) (Tt : ∀ (s : Shared) (H : Hp) (c : Addr) (cl : List (Str × Addr)) (fp : List Addr), PTs (X.blk s H scope (compEnvC scope cl c X.env) fp) ifs tt)
    (Ek : ∀ (s : Shared) (H : Hp) (c : Addr) (cl : List (Str × Addr)) (fp : List Addr), PE (X.blk s H scope (compEnvC scope cl c X.env) fp) kx tk) (Ev : ∀ (s : Shared) (H : Hp) (c : Addr) (cl : List (Str × Addr)) (fp : List Addr), PE (X.blk s H scope (compEnvC scope cl c X.env) fp) vx tv)
    (fold : ∀ x, foldedSetIterable iter X.env x = pure x := by intro _; rfl) : PE X (.DictComp kx vx [⟨tg, iter, ifs, 0⟩] scope pos) (tDcT wi g tt tk tv (own.map (·.2))) := by
  refine ⟨fun pins s σ H Q I want => ?_⟩
  rw [arm_eval_DictComp]
  have frees : ∀ y ∈ scope.names, y.2 = .free → ∃ c, X.env.cells.lookup y.1 = some c := fun y hy e => by
    rcases ok.free y hy e with z | z
    · exact I.ok.has _ (.inl z)
    · rcases (.inr z : False ∨ _) with w | w
      · exact w.elim
      · first
          | exact I.ok.has _ (.inl w)
          | exact I.ok.has _ (.inr w)
          | (rcases w with w | w
             · exact I.ok.has _ (.inl w)
             · exact I.ok.has _ (.inr w))
  refine wpAny_comprehension_free (use := none) rfl fold (closure_ok frees) ok.kind (fun y hy e => by rw [ok.uniq y hy, e]) (thn (hi.run pins s σ H _ I want) fun xv s1 h1 => thn h1 fun itv s2 h2 => ?_)
  obtain ⟨it, fp, tn, J, H2, e, I2, T, st2, f2, turns⟩ := h2
  subst e
  refine wpAny_newObj_type (newEnv_comp ?_)
  generalize hD : s2.heap.objs.size = D
  have freshD : H2 D = none := I2.hok.fresh (Nat.le_of_eq hD)
  obtain ⟨W, ⟨m0, w0⟩, turn⟩ := turns D freshD
  generalize hsD : ({ s2 with heap := s2.heap.push { cls := .type "dict", data := .dict #[] } } : Shared) = sD
  have heapD : sD.heap = s2.heap.push { cls := .type "dict", data := .dict #[] } := by rw [← hsD]
  have ID : Inv X pins σ (upd H2 D (.dT [])) sD := by
    rw [← hsD]
    refine I2.laid (t' := s2.toks) (fun _ _ q => Heap.get?_push_of_some _ q) (Nat.le_of_eq hD) ?_
    rw [← hD]
    exact dt_empty s2.heap I2.big
  have below : ∀ b ∈ fp, b < s2.heap.objs.size := fun b hb => let ⟨_, q, _⟩ := T.obj _ _ st2 b hb; Heap.lt_size q
  have fpD : ∀ b ∈ fp, FpOk X pins (upd H2 D (.dT [])) b ∧ b < sD.heap.objs.size := fun b hb => by
    have lt := below b hb
    have ne : b ≠ D := by
      rw [← hD]
      exact Nat.ne_of_lt lt
    refine ⟨⟨by rw [upd_ne ne]; exact (f2 b hb).1, (f2 b hb).2⟩, ?_⟩
    rw [heapD, Heap.size_push]
    exact Nat.lt_succ_of_lt lt
  have stD : tn 0 sD.heap := T.keep _ _ _ st2 fun b _ o q => by
    rw [heapD]
    exact Heap.get?_push_of_some _ q
  have IB := block_start ID ok nd fpD
  have pG := G sD (upd H2 D (.dT [])) sD.heap.objs.size (cellsFrom (sD.heap.objs.size + 1) scope.names (cloFrom X.env.cells scope.names [])) fp
  have pT := Tt sD (upd H2 D (.dT [])) sD.heap.objs.size (cellsFrom (sD.heap.objs.size + 1) scope.names (cloFrom X.env.cells scope.names [])) fp
  have pK := Ek sD (upd H2 D (.dT [])) sD.heap.objs.size (cellsFrom (sD.heap.objs.size + 1) scope.names (cloFrom X.env.cells scope.names [])) fp
  have pV := Ev sD (upd H2 D (.dT [])) sD.heap.objs.size (cellsFrom (sD.heap.objs.size + 1) scope.names (cloFrom X.env.cells scope.names [])) fp
  show codeAny _ _ (.compStart (.DictComp kx vx [⟨tg, iter, ifs, 0⟩] scope pos) 0 (.ref it) (.ref D) (compEnvC scope (cellsFrom (sD.heap.objs.size + 1) scope.names (cloFrom X.env.cells scope.names [])) sD.heap.objs.size X.env)) (compPost (model X.prog X.w) X.A X.xe none _ (.ref D) sD.heap.objs.size) _
  have clear0 : ∀ b ∈ fp, (upd H2 D (.dT [])) b = none := fun b hb => (fpD b hb).1.1
  generalize hen : compEnvC scope (cellsFrom (sD.heap.objs.size + 1) scope.names (cloFrom X.env.cells scope.names [])) sD.heap.objs.size X.env = en at IB pG pT pK pV ⊢
  have locs : en.locals = sD.heap.objs.size := by subst hen; rfl
  generalize hHD : upd H2 D (.dT []) = HD at ID IB pG pT pK pV w0 clear0 fpD
  generalize hsB : ({ sD with heap := pushCells (sD.heap.push { cls := .type "dict", data := .dict #[] }) scope.names } : Shared) = sB at IB ⊢
  have stB : tn 0 sB.heap := T.keep _ _ _ stD fun b _ o q => by
    rw [← hsB]
    exact pushCells_keeps _ _ _ _ (Heap.get?_push_of_some _ q)
  have fpB : ∀ {σ' : L2.St} {H' : Hp} {s' : Shared}, Inv (X.blk sD HD scope en fp) [] σ' H' s' → (∀ b ∈ fp, H' b = none) → ∀ b ∈ fp, FpOk (X.blk sD HD scope en fp) [] H' b := fun {σ' H' s'} I' none' b hb =>
    ⟨none' b hb, (I'.ok.exf b hb).1, I'.ok.exfs b hb, .inl hb, fun x c q => (I'.ok.exf b hb).2 x c q, fun p hp => absurd (show p ∈ ([] : List (Addr × Obj)) ++ [] from hp) (by simp)⟩
  have loop : codeAny (model X.prog X.w) X.A (.compLoop (.DictComp kx vx [⟨tg, iter, ifs, 0⟩] scope pos) 0 (.ref it) (.ref D) en) (compPost (model X.prog X.w) X.A X.xe none (EP X pins σ Q) (.ref D) sD.heap.objs.size) sB := by
    refine compLoop_anyD (fun n s' => ∃ i H', Inv (X.blk sD HD scope en fp) [] (L2.wipe σ (own.map (·.2))) H' s' ∧ tn i s'.heap ∧ (∀ b ∈ fp, H' b = none) ∧ W i n H') ?_ m0 ⟨0, HD, IB, stB, clear0, w0⟩
    rintro n s5 ⟨i, H5, I5, st5, n5, w5⟩
    rcases turn i n H5 w5 with ⟨stop, res⟩ | ⟨go, Nx, hNx, step⟩
    · refine thnF (T.done (X.blk sD HD scope en fp) rfl rfl rfl calm i [] s5 _ H5 (fun _ _ => False) I5 (fpB I5 n5) st5 stop) fun r s6 ⟨hr, I6⟩ => ?_
      subst hr
      have I7 : Inv X pins σ H5 s6 := ID.call' (ch := fp) I6.os I6.base I6.hok I6.bare fun b hb => let z := (fpD b hb).1.2; ⟨z.2.2.1, z.1, z.2.2.2.1, z.2.2.2.2⟩
      have freeC : H5 sD.heap.objs.size = none := by
        rw [← locs]
        exact I6.free
      obtain ⟨m, hn, _⟩ := I6.loc
      have hn : s6.heap.Ns sD.heap.objs.size m := by
        rw [← locs]
        exact hn
      refine ⟨m, hn, fun h'' sb => ?_⟩
      obtain ⟨g0, g1, g2, g3, g4, g5⟩ := (ID.fpOk (Nat.le_refl _) freeC : FpOk X pins H5 sD.heap.objs.size)
      exact ⟨.ref D, H5, I7.turned (t' := s6.toks) (fun b o hb q => (sb.2 b hb).trans q) g0 g1 g3 g4 g5, rfl, res⟩
    · refine thnF (T.item (X.blk sD HD scope en fp) rfl rfl rfl calm i [] s5 _ H5 (fun _ _ => False) I5 (fpB I5 n5) st5 go) fun r s6 ⟨u, hr, h6⟩ => ?_
      subst hr
      refine thnF h6 fun _ s7 ⟨x, H7, I7, r7, y7, st7, n7⟩ => ?_
      refine thnF (pG.run _ s7 _ H7 x u _ (I7.pinned (fpB I7 n7) (T.obj _ _ st7)) r7 (step x H7 y7)) fun _ s8 ⟨σ8, H8, I8, wip, q8⟩ => ?_
      refine thnF (pT.run _ s8 σ8 H8 _ I8 q8) fun b s9 ⟨H9, I9, q9⟩ => ?_
      have back : ∀ {s' : Shared} {H' : Hp}, Inv (X.blk sD HD scope en fp) ([] ++ pinsAt fp s7.heap) σ8 H' s' → Nx H' → ∃ m, m < n ∧ ∃ i H', Inv (X.blk sD HD scope en fp) [] (L2.wipe σ (own.map (·.2))) H' s' ∧ tn i s'.heap ∧ (∀ b ∈ fp, H' b = none) ∧ W i m H' := fun {s' H'} I' nx => by
        obtain ⟨m', less, w'⟩ := hNx H' nx
        have pinned : ∀ b ∈ fp, ∀ o, s7.heap.get? b = some o → s'.heap.get? b = some o ∧ H' b = none := fun b hb o q =>
          let z := I'.pin (b, o) (List.mem_append_right _ (List.mem_append_right _ (mem_pinsAt hb q)))
          ⟨z.1, z.2.1⟩
        have len8 : (L2.wipe σ (own.map (·.2))).length = σ8.length := by rw [← wip, wipe_length]
        refine ⟨m', less, i + 1, H', (I'.unpinned (pins := [])).weak len8 (fun j v q => ?_), T.keep _ _ _ st7 fun b hb o q => (pinned b hb o q).1, fun b hb => ?_, w'⟩
        · rw [← wip] at q
          exact (wipe_some q).1
        · obtain ⟨o, q, _⟩ := T.obj _ _ st7 b hb
          exact (pinned b hb o q).2
      cases b with
      | false =>
        simp only [Bool.false_eq_true, if_false] at q9 ⊢
        exact back I9 q9
      | true =>
        simp only [if_true] at q9 ⊢
        refine thnF (pK.run _ s9 σ8 H9 _ I9 q9) fun z s10 ⟨yk, H10, I10, r10, q10⟩ => ?_
        refine thnF (pV.run _ s10 σ8 H10 _ I10 q10) fun z2 s11 ⟨yv, H11, I11, r11, kvs, ks, q, ek, hq, hD11, room11, nx⟩ => ?_
        subst ek
        obtain rfl := r10
        exact t_dictSet (X := X.blk sD HD scope en fp) hu I11 hD11 hq room11 r11 fun s12 I12 => back I12 nx
  exact codeAny_compStart_dict loop (T.self X.A 0 _ _ _ stB loop)
end
/-! ### by data -/
section
variable {K : PySem.W.Frag} {τ : Tau} {O : Ow} {te tk tv tl : TE} {tt : TT} {wi : TI} {g : TG} {Φ : Cd} {vs : List Nat}
/-- gaps.setdefault(k, x): what stands there, or x -/
theorem ec_setd {td ty tx : TE} (h : Ec td τ O fun x O1 => ∃ (j : Nat) (a : Addr) (kvs : List (List L2.Key × D)), x = .adr a ∧ O1[j]? = some (a, oT kvs) ∧ Ec ty τ O1 fun y O2 => Ec tx τ O2 fun z O3 => ∃ (i : Nat) (kvs : List (List L2.Key × D)) (ks : List L2.Key), y = ksD ks ∧ O3[i]? = some (a, oT kvs) ∧ kvs.length < sizeLine ∧
      (∀ d, valG kvs ks = some d → Φ d O3) ∧ (valG kvs ks = none → Φ z (O3.set i (a, oT (putG kvs ks z))))) : Ec (tBM K "dict" rSetdT td (tCons ty (tCons tx tNil))) τ O Φ := fun σ B C s o Q f =>
  h σ B C s o _ fun v x B1 C1 O1 ⟨j, a, kvs0, e, hO, h1⟩ l1 d1 => by
    subst e
    cases d1
    obtain ⟨z0, hc, xs, rfl, hx⟩ := l1.ok.at_ hO
    refine ⟨.inr (.inr (.inl ⟨rfl, .inr ⟨xs, hc⟩⟩)), h1 σ B1 C1 (s.mono l1.base) l1.ok _ fun u y B2 C2 O2 h2 l2 d2 => h2 σ B2 C2 ((s.mono l1.base).mono l2.base) l2.ok _ fun w z B3 C3 O3 ⟨i, kvs, ks, ey, hO3, hl, k1, k2⟩ l3 d3 => ?_⟩
    subst ey
    obtain ⟨z3, hc3, ys, rfl, hy⟩ := l3.ok.at_ hO3
    obtain ⟨b, rfl, hb⟩ := ksD_of (d2.mono l3.base)
    have pr := dtT_pr hy
    have ly : ys.length = kvs.length := Paired.length pr
    have lt := (l1.trans l2).trans l3
    refine ⟨a, b, w, ys, ks, rfl, rfl, hc3, l3.ok.sub _ _ hb, by omega, fun r hr => ?_, fun hr => ?_⟩
    · have q := pr.val ks
      have e : valG ys ks = some r := hr
      rw [e] at q
      cases e2 : valG kvs ks with
      | none =>
        rw [e2] at q
        exact q.elim
      | some d =>
        rw [e2] at q
        exact f r d B3 C3 O3 (k1 d e2) lt q
    · have q := pr.val ks
      have e : valG ys ks = none := hr
      rw [e] at q
      cases e2 : valG kvs ks with
      | some d =>
        rw [e2] at q
        exact q.elim
      | none =>
        rw [putK_is]
        have lw := l3.ok.write (u := oT (putG kvs ks z)) hO3 (o := .dT (putG ys ks w)) ⟨_, rfl, pr_dtT (pr.put ks d3)⟩
        exact f _ _ _ _ _ (k2 e2) (lt.trans lw) d3
/-- a dict comprehension with tuple keys, nothing changed on the way -/
theorem ec_dcT {α : Type} (xs : List α) (enc : α → D) (ky : α → List L2.Key) (ev : α → D) (hI : Ic wi τ O fun ds need O1 => ds = xs.map enc ∧ O1 = O ∧ need O) (hz : xs.length < sizeLine) (nd : (xs.map ky).Nodup)
    (hs : ∀ x ∈ xs, ∃ js τ2, (∀ j ∈ js, j ∈ vs) ∧ Gc g js (enc x) (wipeT τ vs) τ2 ∧ Tc tt τ2 O fun c O' => O' = O ∧ c = true ∧ Ec tk τ2 O fun y O' => y = ksD (ky x) ∧ O' = O ∧ Ec tv τ2 O fun z O' => z = ev x ∧ O' = O)
    (hΦ : Φ (.dT (xs.map fun x => (ky x, ev x))) O) : Ec (tDcT wi g tt tk tv vs) τ O Φ := fun σ B C s o Q f =>
  hI σ B C s o _ fun J ds need B1 C1 O1 ⟨h1, h2, hn⟩ l wk Dl hD => by
    subst h1 h2
    have lD := l.ok.layO (o := .dT []) (t := oT []) hD ⟨[], rfl, .nil⟩
    refine ⟨fun i m H => i + m = xs.length ∧ ∃ B2, Le O1 B C B2 H ((Dl, oT ((xs.take i).map fun x => (ky x, ev x))) :: O1) ∧ Same B1 B2, ⟨xs.length, by omega, B1, l.trans lD, Same.refl _⟩, ?_⟩
    rintro i m H ⟨him, B2, l2, sb⟩
    have ok2 : Ok B2 H O1 := l2.ok.tail
    cases m with
    | zero =>
      have hi : i = xs.length := by omega
      subst hi
      have lm : (xs.map enc).length = xs.length := List.length_map _
      refine .inl ⟨lm ▸ wk.fin O1 B2 H hn sb ok2, ?_⟩
      rw [List.take_length] at l2
      obtain ⟨hb, ob, hc, ys, e, hx⟩ := l2.ok.own (Dl, oT _) List.mem_cons_self
      subst e
      have lf := l2.ok.freeze (j := 0) rfl hc
      exact f _ _ _ _ _ hΦ (l2.trans lf) (.dT upd_same (DtT.mono lf.base hx))
    | succ m =>
      have hi : i < xs.length := by omega
      obtain ⟨x, hx⟩ : ∃ x, xs[i]? = some x := ⟨_, List.getElem?_eq_getElem hi⟩
      obtain ⟨go, yl⟩ := wk.at_ O1 B2 H i (enc x) hn sb ok2 (by rw [List.getElem?_map, hx]; rfl)
      obtain ⟨js, τ2, hj, hg, hb⟩ := hs x (List.mem_of_getElem? hx)
      refine .inr ⟨go, fun H' => ∃ B2, Le O1 B C B2 H' ((Dl, oT ((xs.take (i + 1)).map fun x => (ky x, ev x))) :: O1) ∧ Same B1 B2, fun H' ⟨B2, a, c⟩ => ⟨m, Nat.lt_succ_self _, by omega, B2, a, c⟩, fun y H' hy => ?_⟩
      obtain ⟨B3, l3, dy⟩ := yl y H' hy
      have l3' := Le.cons l2.ok l3
      have sw : Sl B3 (L2.wipe σ vs) (wipeT τ vs) := (s.mono ((l2.trans l3').base)).wipe vs
      refine hg _ B3 H' y sw l3.ok.sub dy _ fun σ3 s3 ag => ⟨wipe_agr ag hj, ?_⟩
      refine hb σ3 B3 H' s3 l3.ok _ fun b B4 H4 O4 ⟨e4, eb, p⟩ l4 => ?_
      subst e4 eb
      have l4' := Le.cons (l2.trans l3').ok l4
      have l24 := (l2.trans l3').trans l4'
      have sb4 := (sb.trans l3.base).trans l4.base
      show tk σ3 H4 _
      refine p σ3 B4 H4 (s3.mono l4.base) l4.ok _ fun u ud B5 H5 O5 ⟨eu, e5, p⟩ l5 du => ?_
      subst eu e5
      refine p σ3 B5 H5 ((s3.mono l4.base).mono l5.base) l5.ok _ fun v vd B6 H6 O6 ⟨ev6, e6⟩ l6 dv => ?_
      subst ev6 e6
      have l5' := Le.cons l24.ok l5
      have l6' := Le.cons (l24.trans l5').ok l6
      have l26 := (l24.trans l5').trans l6'
      obtain ⟨hb6, ob, hc6, ys, e, hys⟩ := l26.ok.own (Dl, oT ((xs.take i).map fun x => (ky x, ev x))) List.mem_cons_self
      subst e
      obtain ⟨q, rfl, hq⟩ := ksD_of (du.mono l6.base)
      have pr := dtT_pr hys
      have ly : ys.length = i := by
        have z : ys.length = ((xs.take i).map fun x => (ky x, ev x)).length := Paired.length pr
        rw [z, List.length_map, List.length_take]
        omega
      refine ⟨ys, ky x, q, rfl, l6.ok.sub _ _ hq, hc6, by omega, B6, ?_, (sb4.trans l5.base).trans l6.base⟩
      rw [putK_is]
      have tk1 : xs.take (i + 1) = xs.take i ++ [x] := by rw [List.take_add_one, hx]; rfl
      have pn : putG ((xs.take i).map fun x => (ky x, ev x)) (ky x) (ev x) = (xs.take (i + 1)).map fun x => (ky x, ev x) := by
        rw [putG_new _ (valG_none.mpr fun p hp e => ?_), tk1, List.map_append]
        · rfl
        · obtain ⟨z, hz, rfl⟩ := List.mem_map.mp hp
          have nd2 : ((xs.take (i + 1)).map ky).Nodup := nd.sublist ((List.take_sublist _ _).map _)
          rw [tk1, List.map_append] at nd2
          exact (List.nodup_append.mp nd2).2.2 (ky z) (List.mem_map_of_mem hz) (ky x) (by simp) e
      rw [← pn]
      exact l26.trans (l26.ok.write (j := 0) (u := oT (putG ((xs.take i).map fun x => (ky x, ev x)) (ky x) (ev x))) rfl ⟨_, rfl, pr_dtT (pr.put (ky x) dv)⟩)
/-- for k in d, d locked: the keys' own tuples -/
theorem ic_keysL {j : Nat} {a : Addr} {kvs : List (List L2.Key × D)} {od : Obj} {w : HO} {Ψ : List D → (Ow → Prop) → Ow → Prop} (h : Ec tl τ O fun d O1 => d = .adr a ∧ O1[j]? = some (a, oLk (oT kvs) od w) ∧ Ψ (kvs.map fun kv => ksD kv.1) (fun O' => ∃ i : Nat, O'[i]? = some (a, oLk (oT kvs) od w)) O1) : Ic (iKeys tl) τ O Ψ := fun σ B C s o R f =>
  h σ B C s o _ fun v d B1 C1 O1 ⟨e, hO, p⟩ l hd => by
    subst e
    cases hd
    obtain ⟨z, hc, rfl, xs, rfl, hx⟩ := l.ok.at_ hO
    refine ⟨a, od, rfl, .inr ⟨xs, hc, f _ _ _ B1 C1 O1 p l ⟨fun O2 B2 C2 i d ⟨i2, n⟩ s2 k2 e2 => ?_, fun O2 B2 C2 ⟨i2, n⟩ s2 k2 => ?_⟩⟩⟩
    · obtain ⟨z2, hc2, e3, xs2, e4, hx2⟩ := k2.at_ n
      subst e3
      obtain ⟨kv, hkv, rfl⟩ : ∃ kv, kvs[i]? = some kv ∧ d = ksD kv.1 := by
        rw [List.getElem?_map] at e2
        cases q : kvs[i]? with
        | none => rw [q] at e2; cases e2
        | some kv =>
          rw [q] at e2
          exact ⟨kv, rfl, (Option.some.inj e2).symm⟩
      have hl : xs.length = kvs.length := Paired.length (dtT_pr hx)
      refine ⟨⟨hc2, by rw [hl]; exact (List.getElem?_eq_some_iff.mp hkv).1⟩, fun y C3 ⟨e5, k, v, q, hq, e6, ht⟩ => ?_⟩
      subst e5 e6
      obtain ⟨kv2, hk2, hk3⟩ := paired_get (dtT_pr hx) hq
      rw [hkv] at hk2
      obtain rfl := Option.some.inj hk2
      have hk3 : k = kv.1 := hk3.1
      subst hk3
      exact ⟨tups B2 C3, k2.tups, .tup (tups_at k2.sub ht) (dt_kDs _ _)⟩
    · obtain ⟨z2, hc2, e3, xs2, e4, hx2⟩ := k2.at_ n
      subst e3
      have hl : xs.length = kvs.length := Paired.length (dtT_pr hx)
      exact ⟨hc2, by rw [List.length_map, hl]; exact Nat.le_refl _⟩
end
end Ab

/-! ## AbI -/
set_option Elab.async false
set_option linter.all false
set_option maxRecDepth 100000
set_option maxHeartbeats 1000000
/-! own classes: making, fields, operators; targets of two kinds -/
namespace Ab
open PySem L2
section
variable {X : Cx} {K : PySem.W.Frag}
/-! ### a target of either kind -/
def gOr (a b : TG) : TG := fun v σ H Q => a v σ H Q ∨ b v σ H Q
theorem pg_or {tg : Expr} {a b : TG} (h1 : PG X tg a) (h2 : PG X tg b) : PG X tg (gOr a b) :=
  ⟨fun pins s σ H v u Q I r h => h.elim (h1.run pins s σ H v u Q I r) (h2.run pins s σ H v u Q I r)⟩
theorem pg_unlK {es : List Expr} {k : Nat} {t : TGs} {n : Nat} {pos : Pos} (hK : X.K = K) (hc : X.calm = true) (h : PGs X es t)
    (hn : (assignEach es X.env).length = n := by rfl) (hst : (assignEach es X.env).findIdx? (·.1) = none := by rfl) : PG X (.Tuple es k pos) (gUnl K n t) := by
  subst hK
  exact pg_unl hc h hn hst
/-! ### operators of an own class -/
theorem inst_of {h : Heap} {x dx C : Addr} {mA : Str → Option Value} (O : ObjM h x dx C mA) : ∃ od, PySem.W.InstAt h x (PySem.W.instObj C dx) C (some od) := by
  obtain ⟨od, e, _⟩ := lookIn_ns O.ns
  exact ⟨od, ⟨O.obj, rfl, rfl, e⟩⟩
theorem own_bin {M : Model} {A : Around} {E : Value → Shared → Prop} {s : Shared} {op : Operator} {x y C f : Addr} {ox oy : Obj} {od oe : Option Obj} {Q : Value → Shared → Prop} (k : K.In s.heap) (hc : PySem.W.selfFirst K C = true) (I : PySem.W.InstAt s.heap x ox C od) (J : PySem.W.InstAt s.heap y oy C oe)
    (hs : PySem.W.findIn K (.ref C) (PySem.dunder op.info.2) = some (some (.ref f))) (hf : PySem.W.isFn K (.ref f) = true) (h : wpAny M A (call (.ref f) [.ref x, .ref y]) (PySem.W.CmpBack Q) E s) : wpAny M A (binaryOp op (.ref x) (.ref y)) Q E s := by
  obtain ⟨cd, rest, hcd, hm⟩ := PySem.W.ksp_first hc
  rcases hi : op.info with ⟨sym, nm⟩
  rw [hi] at hs
  have one := PySem.W.ksp_try k I hs hf h
  obtain ⟨hh, g, d, tt, os⟩ := s
  have L1 : PySem.W.Looks M hh (typeOf (.ref x)) (.ref C) := I.type
  have L2 : PySem.W.Looks M hh (typeOf (.ref y)) (.ref C) := J.type
  have L3 : PySem.W.Looks M hh (fillsNumberSlot (.ref C) nm) true := PySem.W.fills_K k hcd hm hs
  have heq : (Value.ref C == Value.ref C) = true := beq_iff_eq.mpr rfl
  simp only [binaryOp, hi]
  refine wpAny_holding (wpAny_bind ?_)
  unfold binaryOp1
  refine wpAny_bind (L1.at (wpAny_bind (L2.at (wpAny_bind (L3.at ?_)))))
  simp only [heq, if_true]
  ksp_lk
  refine wpAny_mono one (fun r s' hr' => ?_) fun _ _ e => e
  obtain ⟨v, rfl, hq⟩ := hr'
  ksp_lk
  exact hq
theorem own_neg {M : Model} {A : Around} {E : Value → Shared → Prop} {s : Shared} {x C f : Addr} {ox : Obj} {od : Option Obj} {Q : Value → Shared → Prop} (k : K.In s.heap) (I : PySem.W.InstAt s.heap x ox C od) (hs : PySem.W.findIn K (.ref C) "__neg__" = some (some (.ref f))) (hf : PySem.W.isFn K (.ref f) = true)
    (h : wpAny M A (call (.ref f) [.ref x]) Q E s) : wpAny M A (unaryOp .USub (.ref x)) Q E s := by
  unfold unaryOp
  refine wpAny_holding (wpAny_bind (PySem.W.special_fn k I hs (beq_iff_eq.mp hf) (wpAny_mono h (fun _ _ z => wpAny_pure z) fun _ _ z => z)))
end
/-- a method as callers see it -/
structure KnM (P : Program) (w : World) (K : PySem.W.Frag) (mg : Str → Option Value) (base : Heap) (C : Addr) (m : Str) (k : Nat) (ps : List Str) (sp : Sp) : Prop where
  ex : ∃ (f : Addr) (fd : FuncData), Meth K C m f ∧ Binds K fd ps [] ∧ FnOk P w K mg base CX0 k f fd ps sp
/-- a class as callers see it, by its __init__ -/
structure KnC (P : Program) (w : World) (K : PySem.W.Frag) (mg : Str → Option Value) (base : Heap) (x : Str) (C : Addr) (k : Nat) (ps : List Str) (sp : Sp) : Prop where
  ex : ∃ (f : Addr) (fd : FuncData), mg x = some (.ref C) ∧ Mk K C f ∧ Binds K fd ps [] ∧ FnOk P w K mg base CX0 k f fd ps sp
theorem ep_back {X : Cx} {pins : List (Addr × Obj)} {σ : L2.St} {Q : VK} {v : Value} {s : Shared} (h : EP X pins σ Q v s) : PySem.W.CmpBack (EP X pins σ Q) v s := by
  obtain ⟨x, H, I, r, q⟩ := h
  cases v with
  | notImplemented => cases x <;> first | (obtain ⟨_, z⟩ := r; exact (nomatch z)) | exact (nomatch r)
  | _ => exact ⟨x, H, I, r, q⟩
/-- a + b of two instances of C -/
def rOwn2 (C : Addr) (sp : Sp) : R2 := fun x y H Q => ∃ a b dx dy fs gs, x = .ref a ∧ y = .ref b ∧ H a = some (.ins C dx fs) ∧ H b = some (.ins C dy gs) ∧ sp [x, y] H Q E0
def rOwn1 (C : Addr) (sp : Sp) : V → Hp → VK → Prop := fun x H Q => ∃ a dx fs, x = .ref a ∧ H a = some (.ins C dx fs) ∧ sp [x] H Q E0
section
variable {X : Cx} {C : Addr} {k j : Nat} {ps : List Str} {sp : Sp} {op : Operator} {m : Str}
theorem op_own (F : KnM X.prog X.w X.K X.mg X.base C m k ps sp) (hm : PySem.dunder op.info.2 = m) (sf : PySem.W.selfFirst X.K C = true) (hr : Room j X.A) (hkj : k ≤ j) : OpR X (binaryOp op) (rOwn2 C sp) := by
  intro pins s σ H x y v u Q I rx ry h
  obtain ⟨f, fd, M, hb, F⟩ := F.ex
  obtain ⟨a, b, dx, dy, fs, gs, rfl, rfl, ha, hb', q⟩ := h
  obtain rfl := rx
  obtain rfl := ry
  obtain ⟨mA, O, _⟩ := ins_get I.hok ha
  obtain ⟨mB, O2, _⟩ := ins_get I.hok hb'
  obtain ⟨od, J⟩ := inst_of O
  obtain ⟨oe, J2⟩ := inst_of O2
  refine own_bin I.kIn sf J J2 (by rw [hm]; exact M.at_) M.fn (thn (run_fn (us := [.ref a, .ref b]) (vs := [.ref a, .ref b]) F (hr.mono hkj) hb .nil pass0 I (.cons rfl (.cons rfl .nil)) (by rw [List.append_nil]; exact q)) fun v s' z => ep_back z)
theorem un_own (F : KnM X.prog X.w X.K X.mg X.base C "__neg__" k ps sp) (hr : Room j X.A) (hkj : k ≤ j) : UnR X (unaryOp .USub) (rOwn1 C sp) := by
  intro pins s σ H x v Q I rx h
  obtain ⟨f, fd, M, hb, F⟩ := F.ex
  obtain ⟨a, dx, fs, rfl, ha, q⟩ := h
  obtain rfl := rx
  obtain ⟨mA, O, _⟩ := ins_get I.hok ha
  obtain ⟨od, J⟩ := inst_of O
  exact own_neg I.kIn J M.at_ M.fn (run_fn (us := [.ref a]) (vs := [.ref a]) F (hr.mono hkj) hb .nil pass0 I (.cons rfl .nil) (by rw [List.append_nil]; exact q))
theorem pe_mk {x : Str} {p pos : Pos} {e : Expr} {es : List Expr} {t : TA} (F : KnC X.prog X.w X.K X.mg X.base x C k ps sp) (hr : Room j X.A) (hkj : k + 1 ≤ j) (ha : PA X (e :: es) t) (hg : Gl X x := by rfl) (hdb : (x == ("__debug__" : Str)) = false := by decide)
    (he : starEach (e :: es) X.env = (false, eval e X.env) :: starEach es X.env := by rfl) (hpl : (backTo pos (starEach es X.env)).any (·.1) = false := by rfl) : PE X (.Call (.Name x p) (e :: es) [] pos) (tMake C sp [] E0 t) := by
  obtain ⟨f, fd, h1, M, hb, F⟩ := F.ex
  exact pe_make M F (hr.mono hkj) hg h1 hb .nil pass0 ha hdb he hpl
end
/-! ### by data -/
def putD (f : Str) (d : D) : List (Str × D) → List (Str × D)
  | [] => [(f, d)]
  | (g, x) :: r => if g = f then (g, d) :: r else (g, x) :: putD f d r
theorem dtF_put {B : Hp} {f : Str} {v : V} {d : D} (h : Dt B v d) : ∀ {fs : List (Str × V)} {gs : List (Str × D)}, DtF B fs gs → DtF B (putF f v fs) (putD f d gs)
  | _, _, .nil => .cons h .nil
  | _, _, @DtF.cons _ k x xs e es a r => by
    show DtF B (if k = f then (k, v) :: xs else (k, x) :: putF f v xs) (if k = f then (k, d) :: es else (k, e) :: putD f d es)
    by_cases z : k = f
    · rw [if_pos z, if_pos z]
      exact .cons h r
    · rw [if_neg z, if_neg z]
      exact .cons a (dtF_put h r)
theorem dtF_length {B : Hp} : ∀ {fs : List (Str × V)} {gs : List (Str × D)}, DtF B fs gs → fs.length = gs.length
  | _, _, .nil => rfl
  | _, _, .cons _ r => congrArg (· + 1) (dtF_length r)
section
variable {K : PySem.W.Frag} {τ : Tau} {O : Ow} {te ta tv : TE} {tg : TA} {E : De} {Φ : Cd} {C : Addr} {f : Str} {W : List D → Ow → Cd → Prop}
/-- self.f = v -/
theorem sc_fldS (hC : Cls K C) (hn : NoAttr K C f) (h : Ec tv τ O fun v O1 => Ec ta τ O1 fun x O2 => ∃ (j : Nat) (a : Addr) (gs : List (Str × D)), x = .adr a ∧ O2[j]? = some (a, oIns C gs) ∧ gs.length < 1000 ∧ E.nx τ (O2.set j (a, oIns C (putD f v gs)))) : Sc (sFld K ta tv f) E τ O := fun σ B C0 s o F g =>
  h σ B C0 s o _ fun v vd B1 C1 O1 h1 l1 d1 => h1 σ B1 C1 (s.mono l1.base) l1.ok _ fun x xd B2 C2 O2 ⟨j, a, gs, e, hO, hl, p⟩ l2 d2 => by
    subst e
    cases d2
    obtain ⟨z, hc, dx, fs, rfl, hx⟩ := l2.ok.at_ hO
    refine ⟨a, C, dx, fs, rfl, hc, hC, hn, by rw [dtF_length hx]; exact hl, ?_⟩
    have lw := l2.ok.write (u := oIns C (putD f vd gs)) hO (o := .ins C dx (putF f v fs)) ⟨dx, _, rfl, dtF_put (d1.mono l2.base) hx⟩
    have lt := (l1.trans l2).trans lw
    exact g.nx σ τ _ _ _ p lt (s.mono lt.base)
theorem Ok.more {B C : Hp} (k : Ok B C O) {p : Addr} {o : HO} (h : C p = none) : Le O B C B (upd C p o) O := by
  have hb := k.fresh h
  have hn := k.notin h
  refine ⟨Same.refl _, ⟨fun b u e => ?_, k.nd, fun q hq => ?_⟩, fun a u _ e => ?_, fun a e => ?_, fun _ _ _ _ _ => rfl, fun q hq => .inl (List.mem_map_of_mem hq)⟩
  · rw [upd_ne (ne_of_none e hb)]
    exact k.sub b u e
  · have hq1 : q.1 ≠ p := fun z => hn (z ▸ List.mem_map_of_mem hq)
    obtain ⟨x, u, y, z⟩ := k.own q hq
    exact ⟨x, u, by rw [upd_ne hq1]; exact y, z⟩
  · rw [upd_ne (ne_of_none e h)]
    exact e
  · by_cases hp : a = p
    · rw [hp, upd_same]
      exact Option.some_ne_none _
    · rw [upd_ne hp]
      exact e
/-- C(..), never changed once it is made -/
theorem ec_make (h : Ac tg τ O fun ds O1 => ∀ x, W (.adr x :: ds) ((x, oIns C []) :: O1) fun d O2 => d = .non ∧ ∃ fs O3, O2 = (x, oIns C fs) :: O3 ∧ Φ (.ins C fs) O3) : Ec (tMake C (spW W) [] E0 tg) τ O Φ := fun σ B C0 s o Q f =>
  h σ B C0 s o _ fun vs ds B1 C1 O1 k l1 d1 x dx hx hdx ne => by
    rw [List.append_nil]
    have la := l1.ok.more (o := .own x) hdx
    have lb := la.ok.layO (o := .ins C dx []) (t := oIns C []) (p := x) (by rw [upd_ne fun z => ne z.symm]; exact hx) ⟨dx, [], rfl, .nil⟩
    have lt := (l1.trans la).trans lb
    refine ⟨B1, (x, oIns C []) :: O1, .adr x :: ds, _, lb.ok, .cons (.adr x) d1, k x, fun v d B2 C2 O2 ⟨e, fs, O3, e2, p⟩ l2 d2 => ?_⟩
    subst e e2
    cases d2
    refine ⟨rfl, ?_⟩
    obtain ⟨hb, o2, hc, ho⟩ := l2.ok.own (x, oIns C fs) List.mem_cons_self
    have lf := l2.ok.freeze (j := 0) rfl hc
    exact f _ _ _ _ _ p ((lt.trans l2).trans lf) (fz_I _ _ upd_same ((oIns C fs).mono lf.base ho))
/-- the operators -/
theorem rc_own2 {gs hs : List (Str × D)} (k : W [.ins C gs, .ins C hs] O Φ) : Rc (rOwn2 C (spW W)) (.ins C gs) (.ins C hs) O Φ := fun B C0 v u o d e Q f => by
  cases d with
  | ins ha hf =>
    cases e with
    | ins hb hg => exact ⟨_, _, _, _, _, _, rfl, rfl, o.sub _ _ ha, o.sub _ _ hb, B, O, _, Φ, o, .cons (.ins ha hf) (.one (.ins hb hg)), k, f⟩
theorem uc_own1 {gs : List (Str × D)} (k : W [.ins C gs] O Φ) : Uc (rOwn1 C (spW W)) (.ins C gs) O Φ := fun B C0 v o d Q f => by
  cases d with
  | ins ha hf => exact ⟨_, _, _, rfl, o.sub _ _ ha, B, O, _, Φ, o, .one (.ins ha hf), k, f⟩
/-- targets -/
theorem gc_or1 {a b : TG} {js : List Nat} {d : D} {τ' : Tau} (h : Gc a js d τ τ') : Gc (gOr a b) js d τ τ' := fun σ B C v s sub hv Q k => .inl (h σ B C v s sub hv Q k)
theorem gc_or2 {a b : TG} {js : List Nat} {d : D} {τ' : Tau} (h : Gc b js d τ τ') : Gc (gOr a b) js d τ τ' := fun σ B C v s sub hv Q k => .inr (h σ B C v s sub hv Q k)
theorem gc_unl {n : Nat} {gs : TGs} {js : List Nat} {ds : List D} {τ' : Tau} (h : Gcs gs js ds τ τ') (hn : ds.length = n) : Gc (gUnl K n gs) js (.lst ds) τ τ' := fun σ B C v s sub hv Q k => by
  cases hv with
  | lst ha hl => exact ⟨_, _, rfl, .inl (.inl (sub _ _ ha)), hl.length.trans hn, h σ B C _ s sub hl Q k⟩
end
/-! ### methods told -/
section
variable {P : Program} {w : World} {K : PySem.W.Frag} {mg : Str → Option Value} {base : Heap}
theorem fn_mk {name qual : Str} {params : Arguments} {body : List Stmt} {scope : Scope} {f : Addr} {k : Nat} {N ps : List Str} {W : List D → Ow → Cd → Prop} (hfn : ∃ fd, FunD K name qual params body scope [] [] f fd) (S : FnScope N ps scope)
    (hb : ∀ (kV doc pm : Value) (an : Option Addr) (cdv ct : Value) (us : List Value), us.length = ps.length → bindArgs (PySem.W.fnOf name qual params body scope .none kV doc pm an cdv ct) ⟨us, []⟩ = pure (ps.zip us)) (len : ∀ ds O Φ, W ds O Φ → ds.length = ps.length)
    (hbody : ∀ (cdv : Value) (A : Around) (outer : List Env) (s : Shared) (H : Hp) (E : XK), Room k (A.deeper (PyProof.Rows.envOfC qual scope s.heap.objs.size f cdv)) →
      ∃ t, PSs (cxOf CX0 P w K mg base N qual scope f cdv A outer s H E).nox body t ∧ ∀ ds O Φ, W ds O Φ → Sc t (endOf Φ) (ds.map some ++ List.replicate (N.length - ds.length) none) O) : ∃ fd, Binds K fd ps [] ∧ FnOk P w K mg base CX0 (k + 1) f fd ps (spW W) := by
  obtain ⟨fd, F⟩ := hfn
  have lenV : ∀ vs H Q E, spW W vs H Q E → vs.length = ps.length := fun vs H Q E ⟨B, O, ds, Φ, _, hd, hw, _⟩ => hd.length.trans (len ds O Φ hw)
  refine ⟨fd, F.bindsN hb, F.ok S lenV fun cdv A outer s H vs Q E hr h => ?_⟩
  obtain ⟨t, ht, hs⟩ := hbody cdv A outer s H E hr
  exact ⟨t, ht.nox, sc_def hs h⟩
theorem knc_mk {x : Str} {C : Addr} {name qual : Str} {params : Arguments} {body : List Stmt} {scope : Scope} {f : Addr} {k : Nat} {N ps : List Str} {W : List D → Ow → Cd → Prop} (hfn : ∃ fd, FunD K name qual params body scope [] [] f fd) (hg : mg x = some (.ref C)) (M : Mk K C f) (S : FnScope N ps scope)
    (hb : ∀ (kV doc pm : Value) (an : Option Addr) (cdv ct : Value) (us : List Value), us.length = ps.length → bindArgs (PySem.W.fnOf name qual params body scope .none kV doc pm an cdv ct) ⟨us, []⟩ = pure (ps.zip us)) (len : ∀ ds O Φ, W ds O Φ → ds.length = ps.length)
    (hbody : ∀ (cdv : Value) (A : Around) (outer : List Env) (s : Shared) (H : Hp) (E : XK), Room k (A.deeper (PyProof.Rows.envOfC qual scope s.heap.objs.size f cdv)) →
      ∃ t, PSs (cxOf CX0 P w K mg base N qual scope f cdv A outer s H E).nox body t ∧ ∀ ds O Φ, W ds O Φ → Sc t (endOf Φ) (ds.map some ++ List.replicate (N.length - ds.length) none) O) : KnC P w K mg base x C (k + 1) ps (spW W) := by
  obtain ⟨fd, h, F⟩ := fn_mk hfn S hb len hbody
  exact ⟨_, fd, hg, M, h, F⟩
theorem knm_mk {C : Addr} {m : Str} {name qual : Str} {params : Arguments} {body : List Stmt} {scope : Scope} {f : Addr} {k : Nat} {N ps : List Str} {W : List D → Ow → Cd → Prop} (hfn : ∃ fd, FunD K name qual params body scope [] [] f fd) (M : Meth K C m f) (S : FnScope N ps scope)
    (hb : ∀ (kV doc pm : Value) (an : Option Addr) (cdv ct : Value) (us : List Value), us.length = ps.length → bindArgs (PySem.W.fnOf name qual params body scope .none kV doc pm an cdv ct) ⟨us, []⟩ = pure (ps.zip us)) (len : ∀ ds O Φ, W ds O Φ → ds.length = ps.length)
    (hbody : ∀ (cdv : Value) (A : Around) (outer : List Env) (s : Shared) (H : Hp) (E : XK), Room k (A.deeper (PyProof.Rows.envOfC qual scope s.heap.objs.size f cdv)) →
      ∃ t, PSs (cxOf CX0 P w K mg base N qual scope f cdv A outer s H E).nox body t ∧ ∀ ds O Φ, W ds O Φ → Sc t (endOf Φ) (ds.map some ++ List.replicate (N.length - ds.length) none) O) : KnM P w K mg base C m (k + 1) ps (spW W) := by
  obtain ⟨fd, h, F⟩ := fn_mk hfn S hb len hbody
  exact ⟨_, fd, M, h, F⟩
end
end Ab

/-! ## AbJ -/
set_option Elab.async false
set_option linter.all false
set_option maxRecDepth 100000
set_option maxHeartbeats 1000000
namespace Ab
open PySem L2
theorem hu9_of {A : Around} {k : Nat} (hr : Room k A) : A.units + 9 < cLine := Nat.lt_of_le_of_lt (Nat.add_le_add_left (by decide : 9 ≤ 64) _) hr.units
section
variable {X : Cx} {K : PySem.W.Frag}
theorem pe_glob_MOST_KINDS {pos : Pos} {mg : Str → Option Value} (T : Txt K mg) (hm : X.mg = mg := by rfl) (hg : Gl X "MOST_KINDS" := by rfl) : PE X (.Name "MOST_KINDS" pos) (tC (.int 3)) := by
  subst hm
  obtain ⟨t, e⟩ := T.i_MOST_KINDS
  exact pe_glob hg e ⟨t, rfl⟩
theorem op_eqDK (hK : X.K = K) (hu : X.A.units + 64 < cLine) : OpR X (compareOp .Eq) (rEqD K) := by
  subst hK
  exact op_eqD hu
theorem op_neDK (hK : X.K = K) (hu : X.A.units + 64 < cLine) : OpR X (compareOp .NotEq) (rNeD K) := by
  subst hK
  exact op_neD hu
end
end Ab

/-! ## AbL -/
set_option Elab.async false
set_option linter.all false
set_option maxRecDepth 100000
set_option maxHeartbeats 1000000
namespace Ab
open PySem L2
section
variable {K : PySem.W.Frag} {τ : Tau} {O : Ow} {te : TE} {tt tt1 : TT} {wi wi1 : TI} {g g1 : TG} {Φ : Cd} {vs vs1 : List Nat} {X : Cx}
theorem op_catK (hK : X.K = K) : OpR X (binaryOp .Add) (rCatA K) := by
  subst hK
  exact op_catA
/-- t + u of tuples -/
theorem rc_catT {xs ys : List D} (hz : xs.length + ys.length ≤ sizeLine) (k : Φ (.tup (xs ++ ys)) O) : Rc (rCatA K) (.tup xs) (.tup ys) O Φ := fun B C v u o d e Q f => by
  cases d with
  | tup ha hl =>
    cases e with
    | tup hb hm =>
      refine ⟨_, _, _, _, rfl, rfl, .inl (.inl (o.sub _ _ ha)), .inl (.inl (o.sub _ _ hb)), by rw [hl.length, hm.length]; exact hz, fun h => ?_, fun _ h => ?_, fun _ _ p hp => f.newT o hp (hl.append hm) k⟩
      · subst h
        cases hl
        exact f _ _ B C O k o.le (.tup hb hm)
      · subst h
        cases hm
        rw [List.append_nil] at k
        exact f _ _ B C O k o.le (.tup ha hl)
theorem map_at {α β : Type} {f : α → β} {xs : List α} {i : Nat} {x : α} (h : xs[i]? = some x) : (xs.map f)[i]? = some (f x) := by
  rw [List.getElem?_map, h]
  rfl
theorem take_snoc {α : Type} {xs : List α} {i : Nat} {x : α} (h : xs[i]? = some x) : xs.take (i + 1) = xs.take i ++ [x] := by
  rw [List.take_add_one, h]
  rfl
/-- a comprehension of two sources, nothing changed on the way -/
theorem ec_lc2p {α β : Type} (xs : List α) (enc : α → D) (ys : α → List β) (enc1 : β → D) (b1 : α → β → Bool) (e : α → β → D) (hI : Ic wi τ O fun ds need O1 => ds = xs.map enc ∧ O1 = O ∧ need O) (hz : (xs.flatMap fun x => ((ys x).filter (b1 x)).map (e x)).length ≤ sizeLine)
    (hs : ∀ x ∈ xs, ∃ js τ2, (∀ j ∈ js, j ∈ vs) ∧ Gc g js (enc x) (wipeT τ vs) τ2 ∧ Tc tt τ2 O fun c O' => O' = O ∧ c = true ∧ Ic wi1 τ2 O fun ds need O1 => ds = (ys x).map enc1 ∧ O1 = O ∧ need O ∧
      ∀ y ∈ ys x, ∃ js1 τ3, (∀ j ∈ js1, j ∈ vs1) ∧ Gc g1 js1 (enc1 y) (wipeT τ2 vs1) τ3 ∧ Tc tt1 τ3 O fun c O' => O' = O ∧ c = b1 x y ∧ (c = true → Ec te τ3 O fun z O' => z = e x y ∧ O' = O))
    (hΦ : Φ (.lst (xs.flatMap fun x => ((ys x).filter (b1 x)).map (e x))) O ∨ ∀ p, Φ (.adr p) ((p, oLst (xs.flatMap fun x => ((ys x).filter (b1 x)).map (e x))) :: O)) : Ec (tLc2 wi g tt wi1 g1 tt1 te vs vs1) τ O Φ := fun σ B C s o Q f =>
  hI σ B C s o _ fun J ds need B1 C1 O1 ⟨h1, h2, hn⟩ l wk Dl hD => by
    subst h1 h2
    have lD := l.ok.layO (o := .lst []) (t := oLst []) hD ⟨[], rfl, .nil⟩
    have part : ∀ i, ((xs.take i).flatMap fun x => ((ys x).filter (b1 x)).map (e x)).length ≤ (xs.flatMap fun x => ((ys x).filter (b1 x)).map (e x)).length := fun i => by
      conv => rhs; rw [← List.take_append_drop i xs, List.flatMap_append, List.length_append]
      omega
    refine ⟨fun i m H => i + m = xs.length ∧ ∃ B2, Le O1 B C B2 H ((Dl, oLst ((xs.take i).flatMap fun x => ((ys x).filter (b1 x)).map (e x))) :: O1) ∧ Same B1 B2, ⟨xs.length, by omega, B1, l.trans lD, Same.refl _⟩, ?_⟩
    rintro i m H ⟨him, B2, l2, sb⟩
    have ok2 : Ok B2 H O1 := l2.ok.tail
    cases m with
    | zero =>
      have hi : i = xs.length := by omega
      subst hi
      have lm : (xs.map enc).length = xs.length := List.length_map _
      refine .inl ⟨lm ▸ wk.fin O1 B2 H hn sb ok2, ?_⟩
      rw [List.take_length] at l2
      rcases hΦ with p | p
      · obtain ⟨hb, ob, hc, zs, e, hx⟩ := l2.ok.own (Dl, oLst _) List.mem_cons_self
        subst e
        have lf := l2.ok.freeze (j := 0) rfl hc
        exact f _ _ _ _ _ p (l2.trans lf) (.lst upd_same (hx.mono lf.base))
      · exact f _ _ _ _ _ (p Dl) l2 (.adr Dl)
    | succ m =>
      have hi : i < xs.length := by omega
      obtain ⟨x, hx⟩ : ∃ x, xs[i]? = some x := ⟨_, List.getElem?_eq_getElem hi⟩
      obtain ⟨go, yl⟩ := wk.at_ O1 B2 H i (enc x) hn sb ok2 (map_at hx)
      obtain ⟨js, τ2, hj, hg, hb⟩ := hs x (List.mem_of_getElem? hx)
      have tk1 : (xs.take (i + 1)).flatMap (fun x => ((ys x).filter (b1 x)).map (e x)) = (xs.take i).flatMap (fun x => ((ys x).filter (b1 x)).map (e x)) ++ ((ys x).filter (b1 x)).map (e x) := by
        rw [take_snoc hx, List.flatMap_append, List.flatMap_singleton]
      refine .inr ⟨go, fun H' => ∃ B2, Le O1 B C B2 H' ((Dl, oLst ((xs.take (i + 1)).flatMap fun x => ((ys x).filter (b1 x)).map (e x))) :: O1) ∧ Same B1 B2, fun H' ⟨B2, a, c⟩ => ⟨m, Nat.lt_succ_self _, by omega, B2, a, c⟩, fun y H' hy => ?_⟩
      obtain ⟨B3, l3, dy⟩ := yl y H' hy
      have l3' := Le.cons l2.ok l3
      have sw : Sl B3 (L2.wipe σ vs) (wipeT τ vs) := (s.mono ((l2.trans l3').base)).wipe vs
      refine hg _ B3 H' y sw l3.ok.sub dy _ fun σ3 s3 ag => ⟨wipe_agr ag hj, ?_⟩
      refine hb σ3 B3 H' s3 l3.ok _ fun c B4 H4 O4 ⟨e4, ec, hI1⟩ l4 => ?_
      subst e4 ec
      have l4' := Le.cons (l2.trans l3').ok l4
      have l24 := (l2.trans l3').trans l4'
      have sb4 := (sb.trans l3.base).trans l4.base
      show wi1 σ3 H4 _
      refine hI1 σ3 B4 H4 (s3.mono l4.base) l4.ok _ fun J1 ds1 need1 B5 H5 O5 ⟨e5, e6, hn1, hin⟩ l5 wk1 => ?_
      subst e5 e6
      have l5' := Le.cons l24.ok l5
      have l25 := l24.trans l5'
      have sb5 := sb4.trans l5.base
      refine ⟨fun j k H => j + k = (ys x).length ∧ ∃ B6, Le O5 B C B6 H ((Dl, oLst ((xs.take i).flatMap (fun x => ((ys x).filter (b1 x)).map (e x)) ++ (((ys x).take j).filter (b1 x)).map (e x))) :: O5) ∧ Same B5 B6, ⟨(ys x).length, by omega, B5, by simpa using l25, Same.refl _⟩, ?_⟩
      rintro j k H6 ⟨hjk, B6, l6, sb6⟩
      have ok6 : Ok B6 H6 O5 := l6.ok.tail
      cases k with
      | zero =>
        have hj2 : j = (ys x).length := by omega
        subst hj2
        have lm : ((ys x).map enc1).length = (ys x).length := List.length_map _
        refine .inl ⟨lm ▸ wk1.fin O5 B6 H6 hn1 sb6 ok6, B6, ?_, sb5.trans sb6⟩
        rw [List.take_length] at l6
        rw [tk1]
        exact l6
      | succ k =>
        have hj2 : j < (ys x).length := by omega
        obtain ⟨y1, hy1⟩ : ∃ y1, (ys x)[j]? = some y1 := ⟨_, List.getElem?_eq_getElem hj2⟩
        obtain ⟨go1, yl1⟩ := wk1.at_ O5 B6 H6 j (enc1 y1) hn1 sb6 ok6 (map_at hy1)
        obtain ⟨js1, τ3, hj1, hg1, hb1⟩ := hin y1 (List.mem_of_getElem? hy1)
        refine .inr ⟨go1, fun H' => ∃ B6, Le O5 B C B6 H' ((Dl, oLst ((xs.take i).flatMap (fun x => ((ys x).filter (b1 x)).map (e x)) ++ (((ys x).take (j + 1)).filter (b1 x)).map (e x))) :: O5) ∧ Same B5 B6, fun H' ⟨B6, a, c⟩ => ⟨k, Nat.lt_succ_self _, by omega, B6, a, c⟩, fun z H7 hz7 => ?_⟩
        obtain ⟨B7, l7, dz⟩ := yl1 z H7 hz7
        have l7' := Le.cons l6.ok l7
        have s7 : Sl B7 (L2.wipe σ3 vs1) (wipeT τ2 vs1) := ((((s3.mono l4.base).mono l5.base).mono sb6).mono l7.base).wipe vs1
        refine hg1 _ B7 H7 z s7 l7.ok.sub dz _ fun σ8 s8 ag1 => ⟨wipe_agr ag1 hj1, ?_⟩
        refine hb1 σ8 B7 H7 s8 l7.ok _ fun c1 B8 H8 O8 ⟨e8, ec1, p⟩ l8 => ?_
        subst e8
        have l8' := Le.cons (l6.trans l7').ok l8
        have l68 := (l6.trans l7').trans l8'
        have sb8 := (sb6.trans l7.base).trans l8.base
        have tk2 : ((ys x).take (j + 1)).filter (b1 x) = ((ys x).take j).filter (b1 x) ++ (if c1 = true then [y1] else []) := by
          rw [take_snoc hy1, List.filter_append, List.filter_cons, ← ec1]
          rfl
        cases c1 with
        | false =>
          refine ⟨B8, ?_, sb8⟩
          rw [tk2]
          simpa using l68
        | true =>
          show te σ8 H8 _
          refine p rfl σ8 B8 H8 (s8.mono l8.base) l8.ok _ fun v d B9 H9 O9 ⟨ed, e9⟩ l9 dv => ?_
          subst ed e9
          have l9' := Le.cons l68.ok l9
          have l69 := l68.trans l9'
          obtain ⟨hb9, ob, hc9, ws, e, hws⟩ := l69.ok.own (Dl, oLst _) List.mem_cons_self
          subst e
          refine ⟨ws, hc9, ?_, B9, ?_, sb8.trans l9.base⟩
          · rw [hws.length, List.length_append]
            have p1 := part (i + 1)
            rw [tk1, List.length_append] at p1
            have p2 : ((((ys x).take j).filter (b1 x)).map (e x)).length < (((ys x).filter (b1 x)).map (e x)).length := by
              rw [List.length_map, List.length_map]
              have q : ((ys x).filter (b1 x)).length = (((ys x).take (j + 1)).filter (b1 x)).length + (((ys x).drop (j + 1)).filter (b1 x)).length := by
                conv => lhs; rw [← List.take_append_drop (j + 1) (ys x), List.filter_append, List.length_append]
              rw [q, tk2, List.length_append]
              simp
              omega
            omega
          · rw [tk2, if_pos rfl, List.map_append, ← List.append_assoc]
            exact l69.trans (l69.ok.write (j := 0) (u := oLst (_ ++ [e x y1])) rfl ⟨_, rfl, hws.append (.one dv)⟩)
theorem pairs_dt {B : Hp} : ∀ {ps : List Addr} {k : Key2}, Paired (fun (p : Addr) (r : Int × Int) => B p = some (.tup [.int r.1, .int r.2])) ps k → DtL B (ps.map V.ref) (k.map fun q => .tup [.int q.1, .int q.2])
  | _, _, .nil => .nil
  | _, _, .cons h t => .cons (.tup h (.cons (.int _) (.one (.int _)))) (pairs_dt t)
theorem sc_asgG {E : De} {g : TG} (h : Ec te τ O fun d O' => ∃ js τ2, Gc g js d τ τ2 ∧ E.nx τ2 O') : Sc (tAsg te g) E τ O := fun σ B C s o F f =>
  h σ B C s o _ fun v d B' C' O' ⟨js, τ2, hg, p⟩ l e => hg σ B' C' v (s.mono l.base) l.ok.sub e _ fun σ' s' _ => f.nx _ _ B' C' O' p l s'
/-- for k in d, d a table of pairs' keys left as it is -/
theorem ic_nkeys {P : Program} {w : World} {tl : TE} {Ψ : List D → (Ow → Prop) → Ow → Prop} (h : Ec tl τ O fun d O1 => ∃ kvs : List (Key2 × V), d = .dN P w kvs ∧ Ψ (kvs.map fun kv => .tup (kv.1.map fun q => .tup [.int q.1, .int q.2])) Any O1) : Ic (iNKeys P w tl) τ O Ψ := fun σ B C s o R f =>
  h σ B C s o _ fun v d B1 C1 O1 ⟨kvs, e, p⟩ l hd => by
    subst e
    cases hd with
    | dN ha hk =>
      have lk := Paired.length hk
      refine ⟨_, _, _, rfl, l.ok.sub _ _ ha, f _ _ Any B1 C1 O1 p l ⟨fun O2 B2 C2 i d _ s2 k2 e2 => ?_, fun O2 B2 C2 _ s2 k2 => ⟨k2.sub _ _ (s2 _ _ ha), ?_⟩⟩⟩
      · obtain ⟨kv, hkv, rfl⟩ : ∃ kv, kvs[i]? = some kv ∧ d = .tup (kv.1.map fun q => .tup [.int q.1, .int q.2]) := by
          rw [List.getElem?_map] at e2
          cases q : kvs[i]? with
          | none => rw [q] at e2; cases e2
          | some kv =>
            rw [q] at e2
            exact ⟨kv, rfl, (Option.some.inj e2).symm⟩
        refine ⟨⟨k2.sub _ _ (s2 _ _ ha), by rw [lk]; exact (List.getElem?_eq_some_iff.mp hkv).1⟩, fun y C3 ⟨e5, en, hen, e6⟩ => ?_⟩
        subst e5 e6
        obtain ⟨kv2, hk2, hk3⟩ := paired_get hk hen
        rw [hkv] at hk2
        obtain rfl := Option.some.inj hk2
        obtain ⟨e7, ⟨ps, hq, hp⟩, e8⟩ := hk3
        refine ⟨B2, k2.le, .tup (s2 _ _ hq) ?_⟩
        exact pairs_dt (Paired.mapP hp fun _ _ z => s2 _ _ z)
      · rw [List.length_map, lk]
        exact Nat.le_refl _
/-- a key's own place -/
theorem keyAt_of {B : Hp} {u : V} {k : Key2} (h : Dt B u (.tup (k.map fun q => .tup [.int q.1, .int q.2]))) : ∃ q, u = .ref q ∧ KeyAt B q k := by
  cases h with
  | @tup a xs _ ha hl =>
    refine ⟨a, rfl, ?_⟩
    have key : ∀ (k : Key2) (xs : List V), DtL B xs (k.map fun q => .tup [.int q.1, .int q.2]) → ∃ ps : List Addr, xs = ps.map V.ref ∧ Paired (fun (p : Addr) (r : Int × Int) => B p = some (.tup [.int r.1, .int r.2])) ps k := by
      intro k
      induction k with
      | nil =>
        intro xs h
        cases h
        exact ⟨[], rfl, .nil⟩
      | cons q k ih =>
        intro xs h
        rw [List.map_cons] at h
        cases h with
        | cons a b =>
          obtain ⟨ps, e, r⟩ := ih _ b
          cases a with
          | @tup p ys _ hp hy =>
            have e2 : ys = [.int q.1, .int q.2] := hy.ints (ns := [q.1, q.2])
            subst e2
            exact ⟨p :: ps, by rw [e]; rfl, .cons hp r⟩
    obtain ⟨ps, e, r⟩ := key k xs hl
    subst e
    exact ⟨ps, ha, r⟩
theorem ek_at {B : Hp} {ys : Ents} {kvs : List (Key2 × V)} (r : EK B ys kvs) (k : Key2) : atN ys k = valG kvs k := by
  induction r with
  | nil => rfl
  | @cons y kv l m h t ih =>
    by_cases e : y.1 = k
    · rw [valG_hit (h.1.symm.trans e), ← h.2.2]
      simp [atN, e]
    · rw [valG_miss fun z => e (h.1.trans z), ← ih]
      simp [atN, e]
theorem ek_keys {B C : Hp} (s : Same B C) {ys : Ents} {kvs : List (Key2 × V)} (r : EK B ys kvs) : Keys C ys := by
  induction r with
  | nil => exact fun y hy => absurd hy List.not_mem_nil
  | @cons y kv l m h t ih =>
    intro z hz
    rcases List.mem_cons.mp hz with rfl | hz
    · rw [h.1]
      exact h.2.1.mono fun b xs => s b _
    · exact ih z hz
theorem ek_repl {B : Hp} {ys : Ents} {kvs : List (Key2 × V)} (r : EK B ys kvs) (k : Key2) (v : V) : EK B (ys.map fun y => if y.1 = k then (y.1, y.2.1, v) else y) (kvs.map fun kv => if kv.1 = k then (kv.1, v) else kv) := by
  induction r with
  | nil => exact .nil
  | @cons y kv l m h t ih =>
    rw [List.map_cons, List.map_cons]
    refine .cons ?_ ih
    by_cases e : y.1 = k
    · rw [if_pos e, if_pos (h.1.symm.trans e)]
      exact ⟨h.1, h.2.1, rfl⟩
    · rw [if_neg e, if_neg fun z => e (h.1.trans z)]
      exact h
theorem ek_put {B : Hp} {ys : Ents} {kvs : List (Key2 × V)} (r : EK B ys kvs) {k : Key2} {q : Addr} (hq : KeyAt B q k) (v : V) : EK B (putN ys k q v) (putG kvs k v) := by
  unfold putN putG
  rw [ek_at r k]
  split
  · exact ek_repl r k v
  · exact Paired.snoc r ⟨rfl, hq, rfl⟩
abbrev k2D (k : Key2) : D := .tup (k.map fun q => .tup [.int q.1, .int q.2])
variable {P : Program} {w : World} {td ty tx tv : TE} {E : De}
theorem ec_nnew (k : ∀ p, Φ (.adr p) ((p, oN P w p []) :: O)) : Ec (tNNew P w) τ O Φ := fun σ B C s o Q f p hp => f _ _ _ _ _ (k p) (o.layO (t := oN P w p []) hp ⟨0, [], rfl, .nil⟩) (.adr p)
/-- d[k], d left as it is -/
theorem ec_nget (h : Ec td τ O fun x O1 => Ec ty τ O1 fun y O2 => ∃ (kvs : List (Key2 × V)) (k : Key2) (v : V) (d : D), x = .dN P w kvs ∧ y = k2D k ∧ valG kvs k = some v ∧ (∀ B, Dt B v d) ∧ Φ d O2) : Ec (tNGet P w td ty) τ O Φ := fun σ B C s o Q f =>
  h σ B C s o _ fun u x B1 C1 O1 h1 l1 d1 => h1 σ B1 C1 (s.mono l1.base) l1.ok _ fun t y B2 C2 O2 ⟨kvs, k, v, d, e1, e2, hv, hd, p⟩ l2 d2 => by
    subst e1 e2
    cases d1.mono l2.base with
    | dN ha hk =>
      obtain ⟨q, rfl, hq⟩ := keyAt_of d2
      exact ⟨_, _, _, q, k, v, rfl, ⟨l2.ok.sub _ _ ha, ek_keys l2.ok.sub hk⟩, rfl, hq.mono fun b xs => l2.ok.sub b _, (ek_at hk k).trans hv, f v d B2 C2 O2 p (l1.trans l2) (hd B2)⟩
/-- d.get(k, x), d ours -/
theorem ec_nget2 (h : Ec td τ O fun x O1 => ∃ (j : Nat) (a : Addr) (kvs : List (Key2 × V)), x = .adr a ∧ O1[j]? = some (a, oN P w a kvs) ∧ Ec ty τ O1 fun y O2 => Ec tx τ O2 fun z O3 => ∃ (i : Nat) (kvs : List (Key2 × V)) (k : Key2) (d : D), y = k2D k ∧ O3[i]? = some (a, oN P w a kvs) ∧ (∀ B v, Dt B v z → Dt B ((valG kvs k).getD v) d) ∧ Φ d O3) :
    Ec (tNGet2 P w td ty tx) τ O Φ := fun σ B C s o Q f =>
  h σ B C s o _ fun u x B1 C1 O1 ⟨j, a, kvs0, e1, hO, h1⟩ l1 d1 => by
    subst e1
    cases d1
    obtain ⟨z0, hc, ep, ys, rfl, hk⟩ := l1.ok.at_ hO
    refine ⟨a, rfl, ⟨ep, ys, hc⟩, h1 σ B1 C1 (s.mono l1.base) l1.ok _ fun t y B2 C2 O2 h2 l2 d2 => h2 σ B2 C2 ((s.mono l1.base).mono l2.base) l2.ok _ fun r z B3 C3 O3 ⟨i, kvs, k, d, e2, hO3, hd, p⟩ l3 d3 => ?_⟩
    subst e2
    obtain ⟨z3, hc3, ep3, ys3, rfl, hk3⟩ := l3.ok.at_ hO3
    obtain ⟨q, rfl, hq⟩ := keyAt_of (d2.mono l3.base)
    refine ⟨ep3, ys3, q, k, ⟨hc3, ek_keys l3.ok.sub hk3⟩, rfl, hq.mono fun b xs => l3.ok.sub b _, ?_⟩
    rw [ek_at hk3 k]
    exact f _ d B3 C3 O3 p ((l1.trans l2).trans l3) (hd B3 r d3)
/-- k not in d, d ours -/
theorem ec_nnotin (h : Ec ty τ O fun y O1 => Ec td τ O1 fun x O2 => ∃ (j : Nat) (a : Addr) (kvs : List (Key2 × V)) (k : Key2), x = .adr a ∧ y = k2D k ∧ O2[j]? = some (a, oN P w a kvs) ∧ Φ (.bl (!(valG kvs k).isSome)) O2) : Ec (tNNotIn P w ty td) τ O Φ := fun σ B C s o Q f =>
  h σ B C s o _ fun t y B1 C1 O1 h1 l1 d1 => h1 σ B1 C1 (s.mono l1.base) l1.ok _ fun u x B2 C2 O2 ⟨j, a, kvs, k, e1, e2, hO, p⟩ l2 d2 => by
    subst e1 e2
    cases d2
    obtain ⟨z3, hc3, ep, ys, rfl, hk⟩ := l2.ok.at_ hO
    obtain ⟨q, rfl, hq⟩ := keyAt_of (d1.mono l2.base)
    refine ⟨a, ep, ys, q, k, rfl, ⟨hc3, ek_keys l2.ok.sub hk⟩, rfl, hq.mono fun b xs => l2.ok.sub b _, ?_⟩
    rw [ek_at hk k]
    exact f _ _ B2 C2 O2 p (l1.trans l2) (.bl _)
/-- d[k] = v, d ours; v without a heap -/
theorem sc_nput (h : Ec tv τ O fun z O1 => Ec td τ O1 fun x O2 => Ec ty τ O2 fun y O3 => ∃ (j : Nat) (a : Addr) (kvs : List (Key2 × V)) (k : Key2) (v : V), (∀ B u, Dt B u z → u = v) ∧ x = .adr a ∧ y = k2D k ∧ O3[j]? = some (a, oN P w a kvs) ∧ kvs.length < sizeLine ∧ E.nx τ (O3.set j (a, oN P w a (putG kvs k v)))) :
    Sc (sNPut P w td ty tv) E τ O := fun σ B C s o F f =>
  h σ B C s o _ fun r z B1 C1 O1 h1 l1 d1 => h1 σ B1 C1 (s.mono l1.base) l1.ok _ fun u x B2 C2 O2 h2 l2 d2 => h2 σ B2 C2 ((s.mono l1.base).mono l2.base) l2.ok _ fun t y B3 C3 O3 ⟨j, a, kvs, k, v, hv, e1, e2, hO, hl, p⟩ l3 d3 => by
    subst e1 e2
    cases d2
    obtain rfl := hv _ _ d1
    obtain ⟨z3, hc3, ep, ys, rfl, hk⟩ := l3.ok.at_ hO
    obtain ⟨q, rfl, hq⟩ := keyAt_of d3
    refine ⟨a, ep, ys, q, k, rfl, ⟨hc3, ek_keys l3.ok.sub hk⟩, rfl, hq.mono fun b xs => l3.ok.sub b _, by rw [Paired.length hk]; exact hl, fun ep' => ?_⟩
    have lw := l3.ok.write (u := oN P w a (putG kvs k r)) hO (o := dnO P w a ep' (putN ys k q r)) ⟨ep', _, rfl, ek_put hk hq r⟩
    have lt := ((l1.trans l2).trans l3).trans lw
    exact f.nx σ τ _ _ _ p lt (s.mono lt.base)
end
end Ab

/-! ## AbD1 -/
set_option Elab.async false
set_option linter.all false
set_option maxRecDepth 100000
set_option maxHeartbeats 1000000
namespace Ab
open PySem L2
local macro_rules | `(tactic| walk_at "g") => `(tactic| first
  | with_reducible refine sc_seq ?_ | with_reducible refine sc_if ?_ | with_reducible refine sc_ret ?_ | with_reducible refine sc_asg ?_ | with_reducible refine sc_par ?_ | with_reducible refine sc_next ?_
  | ((with_reducible refine ec_var (d := ?dd) ?hv ?_); (case hv => exact rfl)) | with_reducible refine ec_int ?_ | with_reducible refine ec_bl ?_ | with_reducible refine ec_str ?_ | with_reducible refine ec_ty ?_ | with_reducible refine ec_non ?_
  | with_reducible refine ec_op ?_ | with_reducible refine ec_call ?_ | with_reducible refine ec_un ?_ | with_reducible refine ec_cb ?_ | with_reducible refine ec_if ?_ | with_reducible refine ec_andV ?_ | with_reducible refine ec_orV ?_ | with_reducible refine ec_notV ?_
  | with_reducible refine ac_cons ?_ | with_reducible refine ac_nil ?_ | (with_reducible refine ec_tup (ac_cons ?_)) | with_reducible refine ec_tup ?_
  | with_reducible refine tc_test ?_ | with_reducible refine tc_B ?_ | with_reducible refine tc_and ?_ | with_reducible refine tc_or ?_ | with_reducible refine tc_not ?_ | with_reducible refine tc_yes ?_
  | with_reducible refine rc_i0 ?_ | with_reducible refine rc_b0 ?_ | with_reducible refine rc_eqI ?_ | with_reducible refine rc_neI ?_ | with_reducible refine rc_eqS ?_ | with_reducible refine uc_neg ?_
  | with_reducible refine bc_int ?_ | with_reducible refine bc_abs ?_ | with_reducible refine bc_lenL ?_ | with_reducible refine bc_lenT ?_ | with_reducible refine bc_tupL ?_ | with_reducible refine bc_tupT ?_
  | with_reducible refine ec_chain ?_ | with_reducible refine ec_dget ?_ | with_reducible refine ec_dget2 ?_ | with_reducible refine ec_din ?_ | with_reducible refine ec_nget ?_ | with_reducible refine ec_nget2 ?_ | with_reducible refine ec_nnotin ?_ | with_reducible refine ec_app ?_ | with_reducible refine sc_nput ?_ | with_reducible refine sc_drop ?_ | with_reducible refine ec_setd ?_ | with_reducible refine ec_make ?_ | with_reducible refine ec_disp ?_ | with_reducible refine pc_cons ?_ | with_reducible refine pc_nil ?_ | with_reducible refine gc_sub ?_ | with_reducible refine sc_asgG ?_
  | with_reducible refine ⟨_, rfl, ?_⟩ | refine iteT ?_ | refine iteF ?_ | dsimp only )

/-! ### ratios -/
/-- the greatest common divisor as an int -/
def gcdI (a b : Int) : Int := (Int.gcd a b : Int)
theorem gcdI_mod (a b : Int) : gcdI b (a % b) = gcdI a b := by
  unfold gcdI
  congr 1
  have e : a % b + b * (a / b) = a := Int.emod_add_mul_ediv a b
  apply Nat.dvd_antisymm
  · refine Int.natCast_dvd_natCast.mp (Int.dvd_coe_gcd ?_ (Int.gcd_dvd_left _ _))
    conv => rhs; rw [← e]
    exact Int.dvd_add (Int.gcd_dvd_right _ _) (Int.dvd_mul_of_dvd_left (Int.gcd_dvd_left _ _))
  · refine Int.natCast_dvd_natCast.mp (Int.dvd_coe_gcd (Int.gcd_dvd_right _ _) ?_)
    have e2 : a % b = a - b * (a / b) := by omega
    rw [e2]
    exact Int.dvd_sub (Int.gcd_dvd_left _ _) (Int.dvd_mul_of_dvd_left (Int.gcd_dvd_right _ _))
theorem gcdI_zero (a : Int) : gcdI a 0 = a.natAbs := by
  unfold gcdI
  rw [Int.gcd_zero_right]
theorem gcdI_pos (a b : Int) (h : 0 < b) : 0 < gcdI a b := by
  have h1 : gcdI a b ∣ b := Int.gcd_dvd_right a b
  have h2 : 0 ≤ gcdI a b := Int.natCast_nonneg _
  rcases Int.lt_or_eq_of_le h2 with z | z
  · exact z
  · rw [← z] at h1
    have := Int.zero_dvd.mp h1
    omega
theorem gcdI_le (a b : Int) (h : 0 < b) : gcdI a b ≤ b := Int.le_of_dvd h (Int.gcd_dvd_right a b)
/-- a ratio in lowest terms -/
def low (a b : Int) : Int × Int := (a / gcdI a b, b / gcdI a b)
abbrev ratD (q : Int × Int) : D := .tup [.int q.1, .int q.2]
/-- a value that is a ratio -/
inductive IsRat : D → Int → Int → Prop
  | int (i : Int) : IsRat (.int i) i 1
  | tup (a b : Int) (h : 0 < b) : IsRat (.tup [.int a, .int b]) a b
  | lst (a b : Int) (h : 0 < b) : IsRat (.lst [.int a, .int b]) a b
theorem IsRat.pos {x : D} {a b : Int} (h : IsRat x a b) : 0 < b := by
  cases h with
  | int => decide
  | tup _ _ h => exact h
  | lst _ _ h => exact h
def whB : D → Option Bool
  | .int _ => some true
  | .tup _ => some false
  | .lst _ => some false
  | _ => none
def W_is_whole (ds : List D) (O : Ow) (Φ : Cd) : Prop := ∃ x b, ds = [x] ∧ whB x = some b ∧ Φ (.bl b) O
theorem sc_is_whole : FnScope ["value"] ["value"] (defScope s_is_whole) := ⟨rfl, rfl, rfl, by decide +kernel, rfl, by decide +kernel, by decide +kernel⟩
theorem kn_is_whole {P : Program} {w : World} {K : PySem.W.Frag} {mg : Str → Option Value} {base : Heap} (T : Txt K mg) : Kn P w K mg base "is_whole" 1 ["value"] (spW (W_is_whole)) := by
  have S := sc_is_whole
  refine kn_mk T.d_is_whole T.g_is_whole S (fun _ _ _ _ _ _ us hl => match us, hl with | [_], _ => rfl) (fun ds O Φ h => ?_) (fun cdv A outer s H E hr => ?_)
  · obtain ⟨x, b, rfl, hx, k⟩ := h
    rfl
  have hu := hu_of hr
  have hu64 := hr.units
  have hu9 := hu9_of hr
  refine ⟨_, (pss_one (ps_ret (pe_and (pe_callB (call_isiK' (K := K) rfl) (by rfl) T.f_isinstance (by decide +kernel) (pa_cons (pv 0) (pa_cons (pe_bltn (v := .ty "int") (by rfl) T.f_int (by decide +kernel) rfl) pa_nil))) (pe_one (pe_not (pe_callB (call_isiK' (K := K) rfl) (by rfl) T.f_isinstance (by decide +kernel) (pa_cons (pv 0) (pa_cons (pe_bltn (v := .ty "bool") (by rfl) T.f_bool (by decide +kernel) rfl) pa_nil)))))))), fun ds O Φ h => ?_⟩
  obtain ⟨x, b, rfl, hx, k⟩ := h
  walk_at "g"
  repeat walk_at "g"
  cases x with
  | int i =>
    obtain rfl := Option.some.inj hx
    refine bc_isi (T := "int") (b := true) rfl (by decide +kernel) ?_
    repeat walk_at "g"
    refine bc_isi (T := "int") (b := false) rfl (by decide +kernel) ?_
    exact ⟨_, rfl, k⟩
  | tup l =>
    obtain rfl := Option.some.inj hx
    refine bc_isi (T := "tuple") (b := false) rfl (by decide +kernel) ?_
    exact ⟨_, rfl, k⟩
  | lst l =>
    obtain rfl := Option.some.inj hx
    refine bc_isi (T := "list") (b := false) rfl (by decide +kernel) ?_
    exact ⟨_, rfl, k⟩
  | _ => cases hx
def W_is_ratio (ds : List D) (O : Ow) (Φ : Cd) : Prop := ∃ x a b, ds = [x] ∧ IsRat x a b ∧ Φ (.bl true) O
theorem sc_is_ratio : FnScope ["value"] ["value"] (defScope s_is_ratio) := ⟨rfl, rfl, rfl, by decide +kernel, rfl, by decide +kernel, by decide +kernel⟩
theorem kn_is_ratio {P : Program} {w : World} {K : PySem.W.Frag} {mg : Str → Option Value} {base : Heap} (T : Txt K mg) : Kn P w K mg base "is_ratio" 2 ["value"] (spW (W_is_ratio)) := by
  have S := sc_is_ratio
  have k_is_whole := kn_is_whole (P := P) (w := w) (base := base) T
  refine kn_mk T.d_is_ratio T.g_is_ratio S (fun _ _ _ _ _ _ us hl => match us, hl with | [_], _ => rfl) (fun ds O Φ h => ?_) (fun cdv A outer s H E hr => ?_)
  · obtain ⟨x, a, b, rfl, hx, k⟩ := h
    rfl
  have hu := hu_of hr
  have hu64 := hr.units
  have hu9 := hu9_of hr
  refine ⟨_, (pss_cons (ps_if (pt_val (pe_kn k_is_whole hr (by decide) (pa_cons (pv 0) pa_nil))) (pss_one (ps_ret pe_bl)) pss_nil)
        (pss_cons (ps_if (PW.pt (pw_or (pt_not (pt_val (pe_callB (call_isiTK (K := K) rfl) (by rfl) T.f_isinstance (by decide +kernel) (pa_cons (pv 0) (pa_cons (pe_tup (pa_cons (pe_bltn (v := .ty "tuple") (by rfl) T.f_tuple (by decide +kernel) rfl) (pa_cons (pe_bltn (v := .ty "list") (by rfl) T.f_list (by decide +kernel) rfl) pa_nil))) pa_nil))))) (pw_or1 (pt_cmpR op_ne (pe_callB (call_lenK (K := K) rfl) (by rfl) T.f_len PySem.boot_len (pa_cons (pv 0) pa_nil)) pe_int (nomark _))))) (pss_one (ps_ret pe_bl)) pss_nil)
        (pss_one (ps_ret (pe_and (pe_kn k_is_whole hr (by decide) (pa_cons (pe_ix (ix_seqK (K := K) rfl) (pv 0) pe_int (fun _ _ => rfl)) pa_nil)) (pe_and (pe_kn k_is_whole hr (by decide) (pa_cons (pe_ix (ix_seqK (K := K) rfl) (pv 0) pe_int (fun _ _ => rfl)) pa_nil)) (pe_one (pe_cmpR op_gt (pe_ix (ix_seqK (K := K) rfl) (pv 0) pe_int (fun _ _ => rfl)) pe_int (nomark _))))))))), fun ds O Φ h => ?_⟩
  obtain ⟨x, a, b, rfl, hx, k⟩ := h
  repeat walk_at "g"
  cases hx with
  | int i =>
    refine ⟨_, true, rfl, rfl, ?_⟩
    repeat walk_at "g"
    exact k
  | tup a b h =>
    refine ⟨_, false, rfl, rfl, ?_⟩
    repeat walk_at "g"
    refine ⟨by decide, ?_⟩
    repeat walk_at "g"
    refine bc_isiT (T := "tuple") (b := true) (c := false) rfl (by decide +kernel) (by decide +kernel) ?_
    repeat walk_at "g"
    refine rc_ixT (d := .int a) rfl ?_
    repeat walk_at "g"
    refine ⟨_, true, rfl, rfl, ?_⟩
    repeat walk_at "g"
    refine rc_ixT (d := .int b) rfl ?_
    repeat walk_at "g"
    refine ⟨_, true, rfl, rfl, ?_⟩
    repeat walk_at "g"
    refine rc_ixT (d := .int b) rfl ?_
    repeat walk_at "g"
    rw [decide_eq_true h]
    exact k
  | lst a b h =>
    refine ⟨_, false, rfl, rfl, ?_⟩
    repeat walk_at "g"
    refine ⟨by decide, ?_⟩
    repeat walk_at "g"
    refine bc_isiT (T := "list") (b := false) (c := true) rfl (by decide +kernel) (by decide +kernel) ?_
    repeat walk_at "g"
    refine rc_ixL (d := .int a) rfl ?_
    repeat walk_at "g"
    refine ⟨_, true, rfl, rfl, ?_⟩
    repeat walk_at "g"
    refine rc_ixL (d := .int b) rfl ?_
    repeat walk_at "g"
    refine ⟨_, true, rfl, rfl, ?_⟩
    repeat walk_at "g"
    refine rc_ixL (d := .int b) rfl ?_
    repeat walk_at "g"
    rw [decide_eq_true h]
    exact k
def W_divisor (ds : List D) (O : Ow) (Φ : Cd) : Prop := ∃ a b : Int, ds = [.int a, .int b] ∧ 0 ≤ b ∧ Φ (.int (gcdI a b)) O
theorem sc_divisor : FnScope ["one", "other"] ["one", "other"] (defScope s_divisor) := ⟨rfl, rfl, rfl, by decide +kernel, rfl, by decide +kernel, by decide +kernel⟩
theorem kn_divisor {P : Program} {w : World} {K : PySem.W.Frag} {mg : Str → Option Value} {base : Heap} (T : Txt K mg) : Kn P w K mg base "divisor" 1 ["one", "other"] (spW (W_divisor)) := by
  have S := sc_divisor
  refine kn_mk T.d_divisor T.g_divisor S (fun _ _ _ _ _ _ us hl => match us, hl with | [_, _], _ => rfl) (fun ds O Φ h => ?_) (fun cdv A outer s H E hr => ?_)
  · obtain ⟨a, b, rfl, hb, k⟩ := h
    rfl
  have hu := hu_of hr
  have hu64 := hr.units
  have hu9 := hu9_of hr
  refine ⟨_, (pss_cons (ps_while PassesOwn.never (pt_cmpR op_ne (pv 1) pe_int (nomark _)) (pss_one (ps_par (i := 0) (j := 1) rfl S.nd rfl rfl (by decide) rfl rfl (pa_cons (pv 1) (pa_cons (pe_op op_mod (pv 0) (pv 1)) pa_nil)) (by rfl))))
        (pss_one (ps_ret (pe_callB call_absN (by rfl) T.f_abs PyProof.Rows.boot_abs (pa_cons (pv 0) pa_nil))))), fun ds O Φ h => ?_⟩
  obtain ⟨a, b, rfl, hb, k⟩ := h
  refine sc_seq ?_
  refine sc_while b.toNat (fun m τ O' => O' = O ∧ ∃ x y : Int, τ = [some (.int x), some (.int y)] ∧ 0 ≤ y ∧ m = y.toNat ∧ gcdI x y = gcdI a b) ⟨rfl, a, b, rfl, hb, rfl, rfl⟩ ?_
  rintro m τ O' ⟨rfl, x, y, rfl, hy, rfl, e⟩
  repeat walk_at "g"
  by_cases h : y = 0
  · subst h
    refine iteF ?_
    repeat walk_at "g"
    rw [gcdI_zero] at e
    rw [e]
    exact k
  · rw [decide_eq_false h]
    have hy0 : 0 < y := by omega
    repeat walk_at "g"
    refine rc_i ⟨hy0, ac_nil ⟨_, _, rfl, ?_⟩⟩
    have h1 := Int.emod_nonneg x h
    have h2 := Int.emod_lt_of_pos x hy0
    exact ⟨(x % y).toNat, by omega, rfl, y, x % y, rfl, h1, rfl, by rw [gcdI_mod x y, e]⟩
def W_lowest (ds : List D) (O : Ow) (Φ : Cd) : Prop := ∃ a b : Int, ds = [.int a, .int b] ∧ 0 < b ∧ b < 1073741824 ∧ Φ (ratD (low a b)) O
theorem sc_lowest : FnScope ["top", "bottom", "by"] ["top", "bottom"] (defScope s_lowest) := ⟨rfl, rfl, rfl, by decide +kernel, rfl, by decide +kernel, by decide +kernel⟩
theorem kn_lowest {P : Program} {w : World} {K : PySem.W.Frag} {mg : Str → Option Value} {base : Heap} (T : Txt K mg) : Kn P w K mg base "lowest" 2 ["top", "bottom"] (spW (W_lowest)) := by
  have S := sc_lowest
  have k_divisor := kn_divisor (P := P) (w := w) (base := base) T
  refine kn_mk T.d_lowest T.g_lowest S (fun _ _ _ _ _ _ us hl => match us, hl with | [_, _], _ => rfl) (fun ds O Φ h => ?_) (fun cdv A outer s H E hr => ?_)
  · obtain ⟨a, b, rfl, hb, hb2, k⟩ := h
    rfl
  have hu := hu_of hr
  have hu64 := hr.units
  have hu9 := hu9_of hr
  refine ⟨_, (pss_cons (ps_set (i := 2) S.nd rfl (Or.inl rfl) (pe_kn k_divisor hr (by decide) (pa_cons (pv 0) (pa_cons (pv 1) pa_nil))))
        (pss_one (ps_ret (pe_tup (pa_cons (pe_op op_fdiv (pv 0) (pv 2)) (pa_cons (pe_op op_fdiv (pv 1) (pv 2)) pa_nil)))))), fun ds O Φ h => ?_⟩
  obtain ⟨a, b, rfl, hb, hb2, k⟩ := h
  have g1 := gcdI_pos a b hb
  have g2 := gcdI_le a b hb
  repeat walk_at "g"
  refine ⟨a, b, rfl, by omega, ?_⟩
  repeat walk_at "g"
  refine rc_i ⟨⟨g1, by omega⟩, ?_⟩
  repeat walk_at "g"
  refine rc_i ⟨⟨g1, by omega⟩, ?_⟩
  repeat walk_at "g"
  exact ⟨by show 2 ≤ sizeLine; decide, k⟩
def W_told (ds : List D) (O : Ow) (Φ : Cd) : Prop := ∃ x y a b, ds = [x, y] ∧ IsRat x a b ∧ b < 1073741824 ∧ Φ (ratD (low a b)) O
theorem sc_told : FnScope ["value", "what"] ["value", "what"] (defScope s_told) := ⟨rfl, rfl, rfl, by decide +kernel, rfl, by decide +kernel, by decide +kernel⟩
theorem kn_told {P : Program} {w : World} {K : PySem.W.Frag} {mg : Str → Option Value} {base : Heap} (T : Txt K mg) : Kn P w K mg base "told" 3 ["value", "what"] (spW (W_told)) := by
  have S := sc_told
  have k_is_ratio := kn_is_ratio (P := P) (w := w) (base := base) T
  have k_is_whole := kn_is_whole (P := P) (w := w) (base := base) T
  have k_lowest := kn_lowest (P := P) (w := w) (base := base) T
  refine kn_mk T.d_told T.g_told S (fun _ _ _ _ _ _ us hl => match us, hl with | [_, _], _ => rfl) (fun ds O Φ h => ?_) (fun cdv A outer s H E hr => ?_)
  · obtain ⟨x, y, a, b, rfl, hx, hb, k⟩ := h
    rfl
  have hu := hu_of hr
  have hu64 := hr.units
  have hu9 := hu9_of hr
  refine ⟨_, (pss_cons (ps_if (pt_not (pt_val (pe_kn k_is_ratio hr (by decide) (pa_cons (pv 0) pa_nil)))) (pss_one ps_never) pss_nil)
        (pss_one (ps_ret (pe_ifExp (pt_val (pe_kn k_is_whole hr (by decide) (pa_cons (pv 0) pa_nil))) (pe_tup (pa_cons (pv 0) (pa_cons pe_int pa_nil))) (pe_kn k_lowest hr (by decide) (pa_cons (pe_ix (ix_seqK (K := K) rfl) (pv 0) pe_int (fun _ _ => rfl)) (pa_cons (pe_ix (ix_seqK (K := K) rfl) (pv 0) pe_int (fun _ _ => rfl)) pa_nil))))))), fun ds O Φ h => ?_⟩
  obtain ⟨x, y, a, b, rfl, hx, hb, k⟩ := h
  repeat walk_at "g"
  refine ⟨_, _, _, rfl, hx, ?_⟩
  repeat walk_at "g"
  cases hx with
  | int i =>
    refine ⟨_, true, rfl, rfl, ?_⟩
    repeat walk_at "g"
    refine ⟨by show 2 ≤ sizeLine; decide, ?_⟩
    have e : low a 1 = (a, 1) := by
      unfold low gcdI
      rw [Int.gcd_one_right]
      simp
    rw [e] at k
    exact k
  | tup a b h =>
    refine ⟨_, false, rfl, rfl, ?_⟩
    repeat walk_at "g"
    refine rc_ixT (d := .int a) rfl ?_
    repeat walk_at "g"
    refine rc_ixT (d := .int b) rfl ?_
    repeat walk_at "g"
    exact ⟨a, b, rfl, h, hb, k⟩
  | lst a b h =>
    refine ⟨_, false, rfl, rfl, ?_⟩
    repeat walk_at "g"
    refine rc_ixL (d := .int a) rfl ?_
    repeat walk_at "g"
    refine rc_ixL (d := .int b) rfl ?_
    repeat walk_at "g"
    exact ⟨a, b, rfl, h, hb, k⟩
end Ab

/-! ## AbD2 -/
set_option Elab.async false
set_option linter.all false
set_option maxRecDepth 100000
set_option maxHeartbeats 1000000
namespace Ab
open PySem L2
local macro_rules | `(tactic| walk_at "g") => `(tactic| first
  | with_reducible refine sc_seq ?_ | with_reducible refine sc_if ?_ | with_reducible refine sc_ret ?_ | with_reducible refine sc_asg ?_ | with_reducible refine sc_par ?_ | with_reducible refine sc_next ?_
  | ((with_reducible refine ec_var (d := ?dd) ?hv ?_); (case hv => exact rfl)) | with_reducible refine ec_int ?_ | with_reducible refine ec_bl ?_ | with_reducible refine ec_str ?_ | with_reducible refine ec_ty ?_ | with_reducible refine ec_non ?_
  | with_reducible refine ec_op ?_ | with_reducible refine ec_call ?_ | with_reducible refine ec_un ?_ | with_reducible refine ec_cb ?_ | with_reducible refine ec_if ?_ | with_reducible refine ec_andV ?_ | with_reducible refine ec_orV ?_ | with_reducible refine ec_notV ?_
  | with_reducible refine ac_cons ?_ | with_reducible refine ac_nil ?_ | (with_reducible refine ec_tup (ac_cons ?_)) | with_reducible refine ec_tup ?_
  | with_reducible refine tc_test ?_ | with_reducible refine tc_B ?_ | with_reducible refine tc_and ?_ | with_reducible refine tc_or ?_ | with_reducible refine tc_not ?_ | with_reducible refine tc_yes ?_
  | with_reducible refine rc_i0 ?_ | with_reducible refine rc_b0 ?_ | with_reducible refine rc_eqI ?_ | with_reducible refine rc_neI ?_ | with_reducible refine rc_eqS ?_ | with_reducible refine uc_neg ?_
  | with_reducible refine bc_int ?_ | with_reducible refine bc_abs ?_ | with_reducible refine bc_lenL ?_ | with_reducible refine bc_lenT ?_ | with_reducible refine bc_tupL ?_ | with_reducible refine bc_tupT ?_
  | with_reducible refine ec_chain ?_ | with_reducible refine ec_dget ?_ | with_reducible refine ec_dget2 ?_ | with_reducible refine ec_din ?_ | with_reducible refine ec_nget ?_ | with_reducible refine ec_nget2 ?_ | with_reducible refine ec_nnotin ?_ | with_reducible refine ec_app ?_ | with_reducible refine sc_nput ?_ | with_reducible refine sc_drop ?_ | with_reducible refine ec_setd ?_ | with_reducible refine ec_make ?_ | with_reducible refine ec_disp ?_ | with_reducible refine pc_cons ?_ | with_reducible refine pc_nil ?_ | with_reducible refine gc_sub ?_ | with_reducible refine sc_asgG ?_
  | with_reducible refine ⟨_, rfl, ?_⟩ | refine iteT ?_ | refine iteF ?_ | dsimp only )

theorem map_get {α β : Type} {f : α → β} {xs : List α} {i : Nat} {y : β} (h : (xs.map f)[i]? = some y) : ∃ x, xs[i]? = some x ∧ y = f x := by
  rw [List.getElem?_map] at h
  cases e : xs[i]? with
  | none => rw [e] at h; cases h
  | some x =>
    rw [e] at h
    exact ⟨x, rfl, (Option.some.inj h).symm⟩
theorem take_next {α : Type} {xs : List α} {i : Nat} {x : α} (h : xs[i]? = some x) : xs.take (i + 1) = xs.take i ++ [x] := by
  rw [List.take_add_one, h]
  rfl
theorem foldl_next {α β : Type} {f : β → α → β} {b : β} {xs : List α} {i : Nat} {x : α} (h : xs[i]? = some x) : (xs.take (i + 1)).foldl f b = f ((xs.take i).foldl f b) x := by
  rw [take_next h, List.foldl_append]
  rfl
/-- a loop over data that does not touch what is ours -/
theorem sc_forM {wi : TI} {g : TG} {tb : TS} {E : De} {τ : Tau} {O : Ow} {α : Type} (xs : List α) (enc : α → D) (hI : Ic wi τ O fun ds need O1 => ds = xs.map enc ∧ need = Any ∧ O1 = O) (IV : Nat → Tau → Ow → Prop) (h0 : IV 0 τ O)
    (hs : ∀ i x τ1 O1, xs[i]? = some x → IV i τ1 O1 → ∃ js τ2, Gc g js (enc x) τ1 τ2 ∧ Sc tb { E with nx := IV (i + 1), ct := IV (i + 1), bk := E.nx } τ2 O1) (hd : ∀ τ1 O1, IV xs.length τ1 O1 → E.nx τ1 O1) : Sc (tFor wi g tb) E τ O := by
  refine sc_for fun σ B C s o R f => hI σ B C s o R fun J ds need B' C' O' ⟨h1, h2, h3⟩ l w => f J ds need B' C' O' ?_ l w
  subst h1 h2 h3
  refine ⟨IV, h0, fun _ _ _ _ => trivial, fun i d τ1 O2 hd hI => ?_, fun τ1 O2 h => ?_⟩
  · obtain ⟨x, hx, rfl⟩ := map_get hd
    exact hs i x τ1 O2 hx hI
  · rw [List.length_map] at h
    exact hd τ1 O2 h
abbrev Row := Int × Key2
abbrev keyD (k : Key2) : D := .tup (k.map ratD)
abbrev rowD (r : Row) : D := .tup [.int r.1, keyD r.2]
abbrev WRow := Int × List Int
abbrev wrowD (r : WRow) : D := .tup [.int r.1, .lst (r.2.map D.int)]
abbrev prD (p : List Int) : D := .tup (p.map D.int)
def lcmF (f b : Int) : Int := f / gcdI f b * b
theorem lcmF_pos {f b : Int} (hf : 0 < f) (hb : 0 < b) : 0 < lcmF f b := by
  have g := gcdI_pos f b hb
  have h : gcdI f b ∣ f := Int.gcd_dvd_left f b
  have : 0 < f / gcdI f b := Int.ediv_pos_of_pos_of_dvd hf (Int.le_of_lt g) h
  exact Int.mul_pos this hb
def W_less (ds : List D) (O : Ow) (Φ : Cd) : Prop := ∃ x y a b c d, ds = [x, y] ∧ IsRat x a b ∧ IsRat y c d ∧ b < 1073741824 ∧ d < 1073741824 ∧ Φ (.bl (decide ((low a b).1 * (low c d).2 < (low c d).1 * (low a b).2))) O
theorem low_snd_pos (a b : Int) (h : 0 < b) : 0 < (low a b).2 := Int.ediv_pos_of_pos_of_dvd h (Int.natCast_nonneg _) (Int.gcd_dvd_right a b)
theorem low_snd_le (a b : Int) (h : 0 < b) : (low a b).2 ≤ b := Int.ediv_le_self _ (Int.le_of_lt h)
theorem sc_less : FnScope ["one", "other", "first", "second"] ["one", "other"] (defScope s_less) := ⟨rfl, rfl, rfl, by decide +kernel, rfl, by decide +kernel, by decide +kernel⟩
theorem kn_less {P : Program} {w : World} {K : PySem.W.Frag} {mg : Str → Option Value} {base : Heap} (T : Txt K mg) : Kn P w K mg base "less" 4 ["one", "other"] (spW (W_less)) := by
  have S := sc_less
  have k_told := kn_told (P := P) (w := w) (base := base) T
  refine kn_mk T.d_less T.g_less S (fun _ _ _ _ _ _ us hl => match us, hl with | [_, _], _ => rfl) (fun ds O Φ h => ?_) (fun cdv A outer s H E hr => ?_)
  · obtain ⟨x, y, a, b, c, d, rfl, hx, hy, hb, hd, k⟩ := h
    rfl
  have hu := hu_of hr
  have hu64 := hr.units
  have hu9 := hu9_of hr
  refine ⟨_, (pss_cons (ps_par (i := 2) (j := 3) rfl S.nd rfl rfl (by decide) rfl rfl (pa_cons (pe_kn k_told hr (by decide) (pa_cons (pv 0) (pa_cons pe_str pa_nil))) (pa_cons (pe_kn k_told hr (by decide) (pa_cons (pv 1) (pa_cons pe_str pa_nil))) pa_nil)) (by rfl))
        (pss_one (ps_ret (pe_cmpR op_lt (pe_op op_mul (pe_ix (ix_seqK (K := K) rfl) (pv 2) pe_int (fun _ _ => rfl)) (pe_ix (ix_seqK (K := K) rfl) (pv 3) pe_int (fun _ _ => rfl))) (pe_op op_mul (pe_ix (ix_seqK (K := K) rfl) (pv 3) pe_int (fun _ _ => rfl)) (pe_ix (ix_seqK (K := K) rfl) (pv 2) pe_int (fun _ _ => rfl))) (nomark _))))), fun ds O Φ h => ?_⟩
  obtain ⟨x, y, a, b, c, d, rfl, hx, hy, hb, hd, k⟩ := h
  have p1 := low_snd_pos a b hx.pos
  have p2 := low_snd_le a b hx.pos
  have p3 := low_snd_pos c d hy.pos
  have p4 := low_snd_le c d hy.pos
  repeat walk_at "g"
  refine ⟨_, _, a, b, rfl, hx, hb, ?_⟩
  repeat walk_at "g"
  refine ⟨_, _, c, d, rfl, hy, hd, ac_nil ⟨_, _, rfl, ?_⟩⟩
  repeat walk_at "g"
  refine rc_ixT (d := .int (low a b).1) rfl ?_
  repeat walk_at "g"
  refine rc_ixT (d := .int (low c d).2) rfl ?_
  refine rc_i ⟨.inr ⟨by omega, by omega⟩, ?_⟩
  repeat walk_at "g"
  refine rc_ixT (d := .int (low c d).1) rfl ?_
  repeat walk_at "g"
  refine rc_ixT (d := .int (low a b).2) rfl ?_
  refine rc_i ⟨.inr ⟨by omega, by omega⟩, ?_⟩
  repeat walk_at "g"
  exact k
def lcmQ (qs : Key2) : Int := qs.foldl (fun f q => lcmF f q.2) 1
theorem lcmQ_pos {qs : Key2} (h : ∀ q ∈ qs, 0 < q.2) : ∀ f : Int, 0 < f → 0 < qs.foldl (fun f q => lcmF f q.2) f := by
  induction qs with
  | nil => exact fun f hf => hf
  | cons q r ih => exact fun f hf => ih (fun q hq => h q (List.mem_cons_of_mem _ hq)) _ (lcmF_pos hf (h q List.mem_cons_self))
def W_bottom_of (ds : List D) (O : Ow) (Φ : Cd) : Prop := ∃ qs : Key2, ds = [.lst (qs.map ratD)] ∧ (∀ q ∈ qs, 0 < q.2 ∧ q.2 < 1073741824) ∧ Φ (.int (lcmQ qs)) O
theorem sc_bottom_of : FnScope ["ratios", "found", "top", "bottom"] ["ratios"] (defScope s_bottom_of) := ⟨rfl, rfl, rfl, by decide +kernel, rfl, by decide +kernel, by decide +kernel⟩
theorem kn_bottom_of {P : Program} {w : World} {K : PySem.W.Frag} {mg : Str → Option Value} {base : Heap} (T : Txt K mg) : Kn P w K mg base "bottom_of" 2 ["ratios"] (spW (W_bottom_of)) := by
  have S := sc_bottom_of
  have k_divisor := kn_divisor (P := P) (w := w) (base := base) T
  refine kn_mk T.d_bottom_of T.g_bottom_of S (fun _ _ _ _ _ _ us hl => match us, hl with | [_], _ => rfl) (fun ds O Φ h => ?_) (fun cdv A outer s H E hr => ?_)
  · obtain ⟨qs, rfl, hq, k⟩ := h
    rfl
  have hu := hu_of hr
  have hu64 := hr.units
  have hu9 := hu9_of hr
  refine ⟨_, (pss_cons (ps_set (i := 1) S.nd rfl (Or.inl rfl) pe_int)
        (pss_cons (ps_for PassesOwn.never rfl (pi_listK (K := K) rfl (pv 0)) (pg_tupK (K := K) (n := 2) rfl rfl (pgs_cons (pg_name (i := 2) S.nd rfl (Or.inl rfl)) (pgs_cons (pg_name (i := 3) S.nd rfl (Or.inl rfl)) pgs_nil))) (pss_one (ps_set (i := 1) S.nd rfl (Or.inl rfl) (pe_op op_mul (pe_op op_fdiv (pv 1) (pe_kn k_divisor hr (by decide) (pa_cons (pv 1) (pa_cons (pv 3) pa_nil)))) (pv 3)))))
        (pss_one (ps_ret (pv 1))))), fun ds O Φ h => ?_⟩
  obtain ⟨qs, rfl, hq, k⟩ := h
  repeat walk_at "g"
  refine (sc_forM qs ratD (ic_list (ec_var rfl ⟨_, rfl, rfl, rfl, rfl⟩)) (fun i τ O' => O' = O ∧ ∃ x2 x3, τ = [some (.lst (qs.map ratD)), some (.int (lcmQ (qs.take i))), x2, x3]) ⟨rfl, none, none, rfl⟩ ?_ ?_)
  · rintro i q τ O1 hi ⟨rfl, x2, x3, rfl⟩
    obtain ⟨h1, h2⟩ := hq q (List.mem_of_getElem? hi)
    have g1 := gcdI_pos (lcmQ (qs.take i)) q.2 h1
    have g2 := gcdI_le (lcmQ (qs.take i)) q.2 h1
    refine ⟨_, _, gc_tup (gcs_cons (gcs_cons gcs_nil)) rfl, ?_⟩
    repeat walk_at "g"
    refine ⟨_, _, rfl, by omega, ?_⟩
    refine rc_i ⟨⟨g1, by omega⟩, ?_⟩
    repeat walk_at "g"
    refine rc_i ⟨.inr ⟨by omega, by omega⟩, ?_⟩
    have e : lcmQ (qs.take (i + 1)) = lcmF (lcmQ (qs.take i)) q.2 := foldl_next hi
    rw [e]
    exact ⟨rfl, _, _, rfl⟩
  · rintro τ O1 ⟨rfl, x2, x3, rfl⟩
    rw [List.take_length]
    repeat walk_at "g"
    exact k
def W_common_divisor (ds : List D) (O : Ow) (Φ : Cd) : Prop := ∃ a b : Int, ds = [.int a, .int b] ∧ 0 ≤ a ∧ 0 ≤ b ∧ Φ (.int (gcdI a b)) O
theorem sc_common_divisor : FnScope ["one", "other"] ["one", "other"] (defScope s_common_divisor) := ⟨rfl, rfl, rfl, by decide +kernel, rfl, by decide +kernel, by decide +kernel⟩
theorem kn_common_divisor {P : Program} {w : World} {K : PySem.W.Frag} {mg : Str → Option Value} {base : Heap} (T : Txt K mg) : Kn P w K mg base "common_divisor" 1 ["one", "other"] (spW (W_common_divisor)) := by
  have S := sc_common_divisor
  refine kn_mk T.d_common_divisor T.g_common_divisor S (fun _ _ _ _ _ _ us hl => match us, hl with | [_, _], _ => rfl) (fun ds O Φ h => ?_) (fun cdv A outer s H E hr => ?_)
  · obtain ⟨a, b, rfl, ha, hb, k⟩ := h
    rfl
  have hu := hu_of hr
  have hu64 := hr.units
  have hu9 := hu9_of hr
  refine ⟨_, (pss_cons (ps_while PassesOwn.never (pt_cmpR op_gt (pv 1) pe_int (nomark _)) (pss_one (ps_par (i := 0) (j := 1) rfl S.nd rfl rfl (by decide) rfl rfl (pa_cons (pv 1) (pa_cons (pe_op op_mod (pv 0) (pv 1)) pa_nil)) (by rfl))))
        (pss_one (ps_ret (pv 0)))), fun ds O Φ h => ?_⟩
  obtain ⟨a, b, rfl, ha, hb, k⟩ := h
  refine sc_seq ?_
  refine sc_while b.toNat (fun m τ O' => O' = O ∧ ∃ x y : Int, τ = [some (.int x), some (.int y)] ∧ 0 ≤ x ∧ 0 ≤ y ∧ m = y.toNat ∧ gcdI x y = gcdI a b) ⟨rfl, a, b, rfl, ha, hb, rfl, rfl⟩ ?_
  rintro m τ O' ⟨rfl, x, y, rfl, hx, hy, rfl, e⟩
  repeat walk_at "g"
  by_cases h : y = 0
  · subst h
    refine iteF ?_
    repeat walk_at "g"
    rw [gcdI_zero] at e
    have : x = (x.natAbs : Int) := by omega
    rw [this, e]
    exact k
  · have hy0 : 0 < y := by omega
    rw [decide_eq_true hy0]
    repeat walk_at "g"
    refine rc_i ⟨hy0, ac_nil ⟨_, _, rfl, ?_⟩⟩
    have h1 := Int.emod_nonneg x h
    have h2 := Int.emod_lt_of_pos x hy0
    exact ⟨(x % y).toNat, by omega, rfl, y, x % y, rfl, hy, h1, rfl, by rw [gcdI_mod x y, e]⟩
def scaleF (f : Int) (k : Key2) : Int := k.foldl (fun f q => lcmF f q.2) f
def scaleQ (rows : List Row) : Int := rows.foldl (fun f r => scaleF f r.2) 1
theorem scaleQ_pos {rows : List Row} (h : ∀ r ∈ rows, ∀ q ∈ r.2, 0 < q.2) : ∀ f : Int, 0 < f → 0 < rows.foldl (fun f r => scaleF f r.2) f := by
  induction rows with
  | nil => exact fun f hf => hf
  | cons q r ih => exact fun f hf => ih (fun q hq => h q (List.mem_cons_of_mem _ hq)) _ (lcmQ_pos (h q List.mem_cons_self) f hf)
def W_scale_of (ds : List D) (O : Ow) (Φ : Cd) : Prop := ∃ rows : List Row, ds = [.tup (rows.map rowD)] ∧ (∀ r ∈ rows, ∀ q ∈ r.2, 0 < q.2 ∧ q.2 < 1073741824) ∧ Φ (.int (scaleQ rows)) O
theorem sc_scale_of : FnScope ["rows", "scale", "weight", "numbers", "top", "bottom"] ["rows"] (defScope s_scale_of) := ⟨rfl, rfl, rfl, by decide +kernel, rfl, by decide +kernel, by decide +kernel⟩
theorem kn_scale_of {P : Program} {w : World} {K : PySem.W.Frag} {mg : Str → Option Value} {base : Heap} (T : Txt K mg) : Kn P w K mg base "scale_of" 2 ["rows"] (spW (W_scale_of)) := by
  have S := sc_scale_of
  have k_common_divisor := kn_common_divisor (P := P) (w := w) (base := base) T
  refine kn_mk T.d_scale_of T.g_scale_of S (fun _ _ _ _ _ _ us hl => match us, hl with | [_], _ => rfl) (fun ds O Φ h => ?_) (fun cdv A outer s H E hr => ?_)
  · obtain ⟨rows, rfl, hq, k⟩ := h
    rfl
  have hu := hu_of hr
  have hu64 := hr.units
  have hu9 := hu9_of hr
  refine ⟨_, (pss_cons (ps_set (i := 1) S.nd rfl (Or.inl rfl) pe_int)
        (pss_cons (ps_for PassesOwn.never rfl (pi_tupK (K := K) rfl (pv 0)) (pg_tupK (K := K) (n := 2) rfl rfl (pgs_cons (pg_name (i := 2) S.nd rfl (Or.inl rfl)) (pgs_cons (pg_name (i := 3) S.nd rfl (Or.inl rfl)) pgs_nil))) (pss_one (ps_for PassesOwn.never rfl (pi_tupK (K := K) rfl (pv 3)) (pg_tupK (K := K) (n := 2) rfl rfl (pgs_cons (pg_name (i := 4) S.nd rfl (Or.inl rfl)) (pgs_cons (pg_name (i := 5) S.nd rfl (Or.inl rfl)) pgs_nil))) (pss_one (ps_set (i := 1) S.nd rfl (Or.inl rfl) (pe_op op_mul (pe_op op_fdiv (pv 1) (pe_kn k_common_divisor hr (by decide) (pa_cons (pv 1) (pa_cons (pv 5) pa_nil)))) (pv 5)))))))
        (pss_one (ps_ret (pv 1))))), fun ds O Φ h => ?_⟩
  obtain ⟨rows, rfl, hq, k⟩ := h
  repeat walk_at "g"
  refine (sc_forM rows rowD (ic_tup (ec_var rfl ⟨_, rfl, rfl, rfl, rfl⟩)) (fun i τ O' => O' = O ∧ ∃ x2 x3 x4 x5, τ = [some (.tup (rows.map rowD)), some (.int (scaleQ (rows.take i))), x2, x3, x4, x5]) ⟨rfl, none, none, none, none, rfl⟩ ?_ ?_)
  · rintro i r τ O1 hi ⟨rfl, x2, x3, x4, x5, rfl⟩
    have hr := hq r (List.mem_of_getElem? hi)
    have pos : 0 < scaleQ (rows.take i) := scaleQ_pos (fun r hr q h => (hq r (List.mem_of_mem_take hr) q h).1) 1 (by decide)
    refine ⟨_, _, gc_tup (gcs_cons (gcs_cons gcs_nil)) rfl, ?_⟩
    refine sc_forM r.2 ratD (ic_tup (ec_var rfl ⟨_, rfl, rfl, rfl, rfl⟩)) (fun j τ O' => O' = O1 ∧ ∃ x4 x5, τ = [some (.tup (rows.map rowD)), some (.int (scaleF (scaleQ (rows.take i)) (r.2.take j))), some (.int r.1), some (keyD r.2), x4, x5]) ⟨rfl, _, _, rfl⟩ ?_ ?_
    · rintro j q τ O2 hj ⟨rfl, x4, x5, rfl⟩
      obtain ⟨h1, h2⟩ := hr q (List.mem_of_getElem? hj)
      have pos2 : 0 < scaleF (scaleQ (rows.take i)) (r.2.take j) := lcmQ_pos (fun q h => (hr q (List.mem_of_mem_take h)).1) _ pos
      have g1 := gcdI_pos (scaleF (scaleQ (rows.take i)) (r.2.take j)) q.2 h1
      have g2 := gcdI_le (scaleF (scaleQ (rows.take i)) (r.2.take j)) q.2 h1
      refine ⟨_, _, gc_tup (gcs_cons (gcs_cons gcs_nil)) rfl, ?_⟩
      repeat walk_at "g"
      refine ⟨_, _, rfl, by omega, by omega, ?_⟩
      refine rc_i ⟨⟨g1, by omega⟩, ?_⟩
      repeat walk_at "g"
      refine rc_i ⟨.inr ⟨by omega, by omega⟩, ?_⟩
      have e : scaleF (scaleQ (rows.take i)) (r.2.take (j + 1)) = lcmF (scaleF (scaleQ (rows.take i)) (r.2.take j)) q.2 := foldl_next hj
      rw [e]
      exact ⟨rfl, _, _, rfl⟩
    · rintro τ O2 ⟨rfl, x4, x5, rfl⟩
      rw [List.take_length]
      have e : scaleQ (rows.take (i + 1)) = scaleF (scaleQ (rows.take i)) r.2 := foldl_next hi
      rw [e]
      exact ⟨rfl, _, _, _, _, rfl⟩
  · rintro τ O1 ⟨rfl, x2, x3, x4, x5, rfl⟩
    rw [List.take_length]
    repeat walk_at "g"
    exact k
def wholeQ (S : Int) (q : Int × Int) : Int := q.1 * S / q.2
def wholeR (S : Int) (r : Row) : WRow := (r.1, r.2.map (wholeQ S))
def W_whole_rows (ds : List D) (O : Ow) (Φ : Cd) : Prop := ∃ (rows : List Row) (S : Int), ds = [.tup (rows.map rowD), .int S] ∧ 0 < S ∧ S < 1073741824 ∧ rows.length ≤ 10000 ∧ (∀ r ∈ rows, r.2.length ≤ 3 ∧ ∀ q ∈ r.2, 0 < q.2 ∧ q.2 < 1073741824) ∧ Φ (.lst ((rows.map (wholeR S)).map wrowD)) O
theorem filter_yes {α : Type} : ∀ xs : List α, xs.filter (fun _ => true) = xs
  | [] => rfl
  | x :: xs => by rw [List.filter_cons, if_pos rfl, filter_yes xs]
theorem sz_ok {n : Nat} (h : n ≤ 16777216) : n ≤ sizeLine := by rw [sizeLine_eq]; exact h
theorem sc_whole_rows : FnScope ["rows", "scale", "weight", "numbers", "top", "bottom"] ["rows", "scale"] (defScope s_whole_rows) := ⟨rfl, rfl, rfl, by decide +kernel, rfl, by decide +kernel, by decide +kernel⟩
theorem kn_whole_rows {P : Program} {w : World} {K : PySem.W.Frag} {mg : Str → Option Value} {base : Heap} (T : Txt K mg) : Kn P w K mg base "whole_rows" 1 ["rows", "scale"] (spW (W_whole_rows)) := by
  have S := sc_whole_rows
  refine kn_mk T.d_whole_rows T.g_whole_rows S (fun _ _ _ _ _ _ us hl => match us, hl with | [_, _], _ => rfl) (fun ds O Φ h => ?_) (fun cdv A outer s H E hr => ?_)
  · obtain ⟨rows, S, rfl, hS, hS2, hn, hq, k⟩ := h
    rfl
  have hu := hu_of hr
  have hu64 := hr.units
  have hu9 := hu9_of hr
  refine ⟨_, (pss_one (ps_ret (pe_lc (own := [("weight", 2), ("numbers", 3)]) rfl S.nd (pi_tupK (K := K) rfl (pv 0)) (blkOk_by (own := [("weight", 2), ("numbers", 3)]) (by kernel_rfl)) (fun _ _ _ _ _ => (pg_tupK (K := K) (n := 2) rfl rfl (pgs_cons (pg_name (i := 2) S.nd rfl (by first | exact Or.inl rfl | exact Or.inr rfl)) (pgs_cons (pg_name (i := 3) S.nd rfl (by first | exact Or.inl rfl | exact Or.inr rfl)) pgs_nil)))) (fun _ _ _ _ _ => pts_nil) (fun _ _ _ _ _ => (pe_tup (pa_cons (pv 2) (pa_cons (pe_lc (own := [("top", 4), ("bottom", 5)]) rfl S.nd (pi_tupK (K := K) rfl (pv 3)) (blkOk_by (own := [("top", 4), ("bottom", 5)]) (by kernel_rfl)) (fun _ _ _ _ _ => (pg_tupK (K := K) (n := 2) rfl rfl (pgs_cons (pg_name (i := 4) S.nd rfl (by first | exact Or.inl rfl | exact Or.inr rfl)) (pgs_cons (pg_name (i := 5) S.nd rfl (by first | exact Or.inl rfl | exact Or.inr rfl)) pgs_nil)))) (fun _ _ _ _ _ => pts_nil) (fun _ _ _ _ _ => (pe_op op_fdiv (pe_op op_mul (pv 4) (pv 1)) (pv 5)))) pa_nil))))))), fun ds O Φ h => ?_⟩
  obtain ⟨rows, S, rfl, hS, hS2, hn, hq, k⟩ := h
  repeat walk_at "g"
  refine ec_lcp rows rowD (fun _ => true) (fun r => wrowD (wholeR S r)) (ic_tup (ec_var rfl ⟨_, rfl, rfl, rfl, trivial⟩)) (sz_ok (by omega)) (fun r hr => ?_) (.inl ?_)
  · obtain ⟨h1, h2⟩ := hq r hr
    refine ⟨_, _, ?_, gc_tup (gcs_cons (gcs_cons gcs_nil)) rfl, tc_yes ⟨rfl, rfl, fun _ => ?_⟩⟩
    · decide
    repeat walk_at "g"
    refine ec_lcp r.2 ratD (fun _ => true) (fun q => .int (wholeQ S q)) (ic_tup (ec_var rfl ⟨_, rfl, rfl, rfl, trivial⟩)) (sz_ok (by omega)) (fun q hq => ?_) (.inl ?_)
    · obtain ⟨p1, p2⟩ := h2 q hq
      refine ⟨_, _, ?_, gc_tup (gcs_cons (gcs_cons gcs_nil)) rfl, tc_yes ⟨rfl, rfl, fun _ => ?_⟩⟩
      · decide
      repeat walk_at "g"
      refine rc_i ⟨.inr ⟨by omega, by omega⟩, ?_⟩
      repeat walk_at "g"
      refine rc_i ⟨⟨p1, by omega⟩, ?_⟩
      exact ⟨rfl, rfl⟩
    · refine ac_nil ⟨by show 2 ≤ sizeLine; decide, ?_, rfl⟩
      rw [filter_yes]
      show D.tup [.int r.1, .lst (r.2.map fun q => D.int (wholeQ S q))] = D.tup [.int r.1, .lst ((r.2.map (wholeQ S)).map D.int)]
      rw [List.map_map]
      rfl
  · rw [filter_yes]
    rw [List.map_map] at k
    exact k
/-- what a bid is worth at most, by the factor 1 -/
def bestW (n p : List Int) : Int := maxI (0 :: (((n.zip p).filter fun z => decide (0 < z.1)).map fun z => 1 * z.1 - z.2))
def gainW (rows : List WRow) (p : List Int) : Int := rows.foldl (fun t r => t + r.1 * bestW r.2 p) 0
theorem bestW_ge (n p : List Int) : 0 ≤ bestW n p := le_maxI _ _ List.mem_cons_self
theorem bestW_le {n p : List Int} {M : Int} (hM : 0 ≤ M) (hn : ∀ x ∈ n, x ≤ M) (hp : ∀ x ∈ p, 0 ≤ x) : bestW n p ≤ M := by
  have h := maxI_mem (0 :: (((n.zip p).filter fun z => decide (0 < z.1)).map fun z => 1 * z.1 - z.2)) (List.cons_ne_nil _ _)
  rcases List.mem_cons.mp h with h | h
  · unfold bestW
    omega
  · obtain ⟨z, hz, e⟩ := List.mem_map.mp h
    have hz1 := (List.mem_filter.mp hz).1
    have a := hn _ (List.of_mem_zip hz1).1
    have b := hp _ (List.of_mem_zip hz1).2
    unfold bestW
    omega
def W_whole_gain (ds : List D) (O : Ow) (Φ : Cd) : Prop := ∃ (rows : List WRow) (p : List Int), ds = [.lst (rows.map wrowD), prD p, .int 1] ∧ p.length ≤ 3 ∧ (∀ x ∈ p, 0 ≤ x) ∧ (∀ r ∈ rows, ∀ x ∈ r.2, x ≤ 1000000000) ∧ Φ (.int (gainW rows p)) O
theorem sc_whole_gain : FnScope ["rows", "prices", "by", "total", "weight", "numbers", "number", "price"] ["rows", "prices", "by"] (defScope s_whole_gain) := ⟨rfl, rfl, rfl, by decide +kernel, rfl, by decide +kernel, by decide +kernel⟩
theorem kn_whole_gain {P : Program} {w : World} {K : PySem.W.Frag} {mg : Str → Option Value} {base : Heap} (T : Txt K mg) : Kn P w K mg base "whole_gain" 1 ["rows", "prices", "by"] (spW (W_whole_gain)) := by
  have S := sc_whole_gain
  refine kn_mk T.d_whole_gain T.g_whole_gain S (fun _ _ _ _ _ _ us hl => match us, hl with | [_, _, _], _ => rfl) (fun ds O Φ h => ?_) (fun cdv A outer s H E hr => ?_)
  · obtain ⟨rows, p, rfl, hl, hp, hr, k⟩ := h
    rfl
  have hu := hu_of hr
  have hu64 := hr.units
  have hu9 := hu9_of hr
  refine ⟨_, (pss_cons (ps_set (i := 3) S.nd rfl (Or.inl rfl) pe_int)
        (pss_cons (ps_for PassesOwn.never rfl (pi_listK (K := K) rfl (pv 0)) (pg_tupK (K := K) (n := 2) rfl rfl (pgs_cons (pg_name (i := 4) S.nd rfl (Or.inl rfl)) (pgs_cons (pg_name (i := 5) S.nd rfl (Or.inl rfl)) pgs_nil))) (pss_one (ps_aug (i := 3) S.nd rfl (Or.inl rfl) (pe_op op_mul (pv 4) (pe_callB (cr_maxK (K := K) rfl rfl) (by rfl) T.f_max (by decide +kernel) (pa_cons (pe_op op_cat (pe_lst (pa_cons pe_int pa_nil)) (pe_lc (own := [("number", 6), ("price", 7)]) rfl S.nd (pi_zipMK (K := K) rfl (by rfl) T.f_zip (pa_cons (pv 5) (pa_cons (pv 1) pa_nil))) (blkOk_by (own := [("number", 6), ("price", 7)]) (by kernel_rfl)) (fun _ _ _ _ _ => (pg_tupK (K := K) (n := 2) rfl rfl (pgs_cons (pg_name (i := 6) S.nd rfl (by first | exact Or.inl rfl | exact Or.inr rfl)) (pgs_cons (pg_name (i := 7) S.nd rfl (by first | exact Or.inl rfl | exact Or.inr rfl)) pgs_nil)))) (fun _ _ _ _ _ => (pts_one (pt_cmpR op_gt (pv 6) pe_int (nomark _)))) (fun _ _ _ _ _ => (pe_op op_sub (pe_op op_mul (pv 2) (pv 6)) (pv 7))))) pa_nil))) ip_add)))
        (pss_one (ps_ret (pv 3))))), fun ds O Φ h => ?_⟩
  obtain ⟨rows, p, rfl, hl, hp, hr, k⟩ := h
  repeat walk_at "g"
  refine (sc_forM rows wrowD (ic_list (ec_var rfl ⟨_, rfl, rfl, rfl, rfl⟩)) (fun i τ O' => O' = O ∧ ∃ x4 x5 x6 x7, τ = [some (.lst (rows.map wrowD)), some (prD p), some (.int 1), some (.int (gainW (rows.take i) p)), x4, x5, x6, x7]) ⟨rfl, _, _, _, _, rfl⟩ ?_ ?_)
  · rintro i r τ O1 hi ⟨rfl, x4, x5, x6, x7, rfl⟩
    have h1 := hr r (List.mem_of_getElem? hi)
    have b1 := bestW_ge r.2 p
    have b2 := bestW_le (M := 1000000000) (by decide) h1 hp
    refine ⟨_, _, gc_tup (gcs_cons (gcs_cons gcs_nil)) rfl, ?_⟩
    refine sc_aug rfl ?_
    repeat walk_at "g"
    refine ec_lst (ac_cons (ec_int (ac_nil ⟨by show 1 ≤ sizeLine; decide, ?_⟩)))
    refine ec_lcp (r.2.zip p) (fun z => .tup [.int z.1, .int z.2]) (fun z => decide (0 < z.1)) (fun z => .int (1 * z.1 - z.2)) (ic_zm (ac_cons (ec_var rfl (ac_cons (ec_var rfl (ac_nil ⟨_, _, rfl, ?_, rfl, trivial⟩)))))) (sz_ok ?_) (fun z hz => ?_) (.inl ?_)
    · unfold zipD
      rw [List.zip_map, List.map_map]
      rfl
    · rw [List.length_zip]
      omega
    · refine ⟨_, _, ?_, gc_tup (gcs_cons (gcs_cons gcs_nil)) rfl, ?_⟩
      · decide
      repeat walk_at "g"
      refine ⟨rfl, rfl, fun _ => ?_⟩
      repeat walk_at "g"
      refine rc_i ⟨.inl ⟨by decide, by decide⟩, ?_⟩
      repeat walk_at "g"
      exact ⟨rfl, rfl⟩
    · have lz : ((r.2.zip p).filter fun z => decide (0 < z.1)).length ≤ 3 := Nat.le_trans (List.length_filter_le _ _) (by rw [List.length_zip]; omega)
      refine rc_cat (sz_ok (by rw [List.length_map]; show 1 + _ ≤ _; omega)) (.inl ?_)
      repeat walk_at "g"
      have e : ([D.int 0] ++ ((r.2.zip p).filter fun z => decide (0 < z.1)).map fun z => D.int (1 * z.1 - z.2)) = (0 :: (((r.2.zip p).filter fun z => decide (0 < z.1)).map fun z => 1 * z.1 - z.2)).map D.int := by
        rw [List.map_cons, List.map_map]
        rfl
      rw [e]
      refine bc_max (List.cons_ne_nil _ _) ?_
      refine rc_i ⟨.inr ⟨?_, ?_⟩, ?_⟩
      · show -(2 ^ 64) < bestW r.2 p
        omega
      · show bestW r.2 p < 2 ^ 64
        omega
      have e : gainW (rows.take (i + 1)) p = gainW (rows.take i) p + r.1 * bestW r.2 p := foldl_next hi
      rw [e]
      exact ⟨_, rfl, rfl, _, _, _, _, rfl⟩
  · rintro τ O1 ⟨rfl, x4, x5, x6, x7, rfl⟩
    rw [List.take_length]
    repeat walk_at "g"
    exact k
def W_price_tuple (ds : List D) (O : Ow) (Φ : Cd) : Prop := ∃ (p : List Int) (S : Int), ds = [prD p, .int S] ∧ p.length ≤ 3 ∧ 0 < S ∧ S < 1073741824 ∧ Φ (.tup (p.map fun x => ratD (low x S))) O
theorem sc_price_tuple : FnScope ["prices", "scale", "price"] ["prices", "scale"] (defScope s_price_tuple) := ⟨rfl, rfl, rfl, by decide +kernel, rfl, by decide +kernel, by decide +kernel⟩
theorem kn_price_tuple {P : Program} {w : World} {K : PySem.W.Frag} {mg : Str → Option Value} {base : Heap} (T : Txt K mg) : Kn P w K mg base "price_tuple" 4 ["prices", "scale"] (spW (W_price_tuple)) := by
  have S := sc_price_tuple
  have k_told := kn_told (P := P) (w := w) (base := base) T
  refine kn_mk T.d_price_tuple T.g_price_tuple S (fun _ _ _ _ _ _ us hl => match us, hl with | [_, _], _ => rfl) (fun ds O Φ h => ?_) (fun cdv A outer s H E hr => ?_)
  · obtain ⟨p, S, rfl, hl, h1, h2, k⟩ := h
    rfl
  have hu := hu_of hr
  have hu64 := hr.units
  have hu9 := hu9_of hr
  refine ⟨_, (pss_one (ps_ret (pe_callTy (call_tupK (K := K) rfl) (by rfl) T.f_tuple (by decide +kernel) (pa_cons (pe_lc (own := [("price", 2)]) rfl S.nd (pi_tupK (K := K) rfl (pv 0)) (blkOk_by (own := [("price", 2)]) (by kernel_rfl)) (fun _ _ _ _ _ => (pg_name (i := 2) S.nd rfl (by first | exact Or.inl rfl | exact Or.inr rfl))) (fun _ _ _ _ _ => pts_nil) (fun _ _ _ _ _ => (pe_kn k_told hr (by decide) (pa_cons (pe_tup (pa_cons (pv 2) (pa_cons (pv 1) pa_nil))) (pa_cons pe_str pa_nil))))) pa_nil)))), fun ds O Φ h => ?_⟩
  obtain ⟨p, S, rfl, hl, h1, h2, k⟩ := h
  repeat walk_at "g"
  refine ec_lcp p D.int (fun _ => true) (fun x => ratD (low x S)) (ic_tup (ec_var rfl ⟨_, rfl, rfl, rfl, trivial⟩)) (sz_ok (by omega)) (fun x hx => ?_) (.inl ?_)
  · refine ⟨_, _, ?_, gc_name, tc_yes ⟨rfl, rfl, fun _ => ?_⟩⟩
    · decide
    repeat walk_at "g"
    refine ⟨by show 2 ≤ sizeLine; decide, ?_⟩
    repeat walk_at "g"
    exact ⟨_, _, _, _, rfl, .tup x S h1, h2, rfl, rfl⟩
  · repeat walk_at "g"
    rw [filter_yes]
    exact k
end Ab

/-! ## AbD3 -/
set_option Elab.async false
set_option linter.all false
set_option maxRecDepth 100000
set_option maxHeartbeats 1000000
namespace Ab
open PySem L2
local macro_rules | `(tactic| walk_at "g") => `(tactic| first
  | with_reducible refine sc_seq ?_ | with_reducible refine sc_if ?_ | with_reducible refine sc_ret ?_ | with_reducible refine sc_asg ?_ | with_reducible refine sc_par ?_ | with_reducible refine sc_next ?_
  | ((with_reducible refine ec_var (d := ?dd) ?hv ?_); (case hv => exact rfl)) | with_reducible refine ec_int ?_ | with_reducible refine ec_bl ?_ | with_reducible refine ec_str ?_ | with_reducible refine ec_ty ?_ | with_reducible refine ec_non ?_
  | with_reducible refine ec_op ?_ | with_reducible refine ec_call ?_ | with_reducible refine ec_un ?_ | with_reducible refine ec_cb ?_ | with_reducible refine ec_if ?_ | with_reducible refine ec_andV ?_ | with_reducible refine ec_orV ?_ | with_reducible refine ec_notV ?_
  | with_reducible refine ac_cons ?_ | with_reducible refine ac_nil ?_ | (with_reducible refine ec_tup (ac_cons ?_)) | with_reducible refine ec_tup ?_
  | with_reducible refine tc_test ?_ | with_reducible refine tc_B ?_ | with_reducible refine tc_and ?_ | with_reducible refine tc_or ?_ | with_reducible refine tc_not ?_ | with_reducible refine tc_yes ?_
  | with_reducible refine rc_i0 ?_ | with_reducible refine rc_b0 ?_ | with_reducible refine rc_eqI ?_ | with_reducible refine rc_neI ?_ | with_reducible refine rc_eqS ?_ | with_reducible refine uc_neg ?_
  | with_reducible refine bc_int ?_ | with_reducible refine bc_abs ?_ | with_reducible refine bc_lenL ?_ | with_reducible refine bc_lenT ?_ | with_reducible refine bc_tupL ?_ | with_reducible refine bc_tupT ?_
  | with_reducible refine ec_chain ?_ | with_reducible refine ec_dget ?_ | with_reducible refine ec_dget2 ?_ | with_reducible refine ec_din ?_ | with_reducible refine ec_nget ?_ | with_reducible refine ec_nget2 ?_ | with_reducible refine ec_nnotin ?_ | with_reducible refine ec_app ?_ | with_reducible refine sc_nput ?_ | with_reducible refine sc_drop ?_ | with_reducible refine ec_setd ?_ | with_reducible refine ec_make ?_ | with_reducible refine ec_disp ?_ | with_reducible refine pc_cons ?_ | with_reducible refine pc_nil ?_ | with_reducible refine gc_sub ?_ | with_reducible refine sc_asgG ?_
  | with_reducible refine ⟨_, rfl, ?_⟩ | refine iteT ?_ | refine iteF ?_ | dsimp only )

/-! ### bids -/
abbrev Nums := List (D × (Int × Int))
abbrev Raw := Int × Nums
def NumsOk (zs : Nums) : Prop := zs.length ≤ 3 ∧ ∀ z ∈ zs, IsRat z.1 z.2.1 z.2.2 ∧ 0 ≤ z.2.1 ∧ z.2.1 < 1073741824 ∧ z.2.2 < 1073741824
theorem low_fst_nonneg {a b : Int} (h : 0 ≤ a) : 0 ≤ (low a b).1 := Int.ediv_nonneg h (Int.natCast_nonneg _)
theorem low_fst_le {a b : Int} (h : 0 ≤ a) : (low a b).1 ≤ a := Int.ediv_le_self _ h
def SeqOf (x : D) (ds : List D) : Prop := x = .tup ds ∨ x = .lst ds
def IsRaw (d : D) (r : Raw) : Prop := ∃ x, SeqOf x (r.2.map (·.1)) ∧ SeqOf d [.int r.1, x]
theorem ic_seq {K : PySem.W.Frag} {tl : TE} {τ : Tau} {O : Ow} {x : D} {ds : List D} {Ψ : List D → (Ow → Prop) → Ow → Prop} (hx : SeqOf x ds) (h : Ec tl τ O fun d O1 => d = x ∧ Ψ ds Any O1) : Ic (iOr (iList K tl) (iTup K tl)) τ O Ψ := by
  rcases hx with e | e
  · exact ic_or2 (ic_tup (h.imp fun d O1 ⟨a, b⟩ => ⟨ds, a.trans e, b⟩))
  · exact ic_or1 (ic_list (h.imp fun d O1 ⟨a, b⟩ => ⟨ds, a.trans e, b⟩))
theorem gc_seq2 {K : PySem.W.Frag} {i j : Nat} {d x y : D} {τ : Tau} (h : SeqOf d [x, y]) : Gc (gOr (gTup K 2 (gCons (gName i) (gCons (gName j) gNil))) (gUnl K 2 (gCons (gName i) (gCons (gName j) gNil)))) [i, j] d τ ((τ.set i (some x)).set j (some y)) := by
  rcases h with rfl | rfl
  · exact gc_or1 (gc_tup (gcs_cons (gcs_cons gcs_nil)) rfl)
  · exact gc_or2 (gc_unl (gcs_cons (gcs_cons gcs_nil)) rfl)
theorem bc_lenS {K : PySem.W.Frag} {O : Ow} {Φ : Cd} {x : D} {ds : List D} (h : SeqOf x ds) (k : Φ (.int (ds.length : Int)) O) : Bc (rLenK K) [x] O Φ := by
  rcases h with rfl | rfl
  · exact bc_lenT k
  · exact bc_lenL k
theorem bc_isiS {K : PySem.W.Frag} {O : Ow} {Φ : Cd} {x : D} {ds : List D} (h : SeqOf x ds) (k : Φ (.bl true) O) : Bc (rIsiT K) [x, .tup [.ty "tuple", .ty "list"]] O Φ := by
  rcases h with rfl | rfl
  · exact bc_isiT (T := "tuple") (b := true) (c := false) rfl (by decide +kernel) (by decide +kernel) k
  · exact bc_isiT (T := "list") (b := false) (c := true) rfl (by decide +kernel) (by decide +kernel) k
theorem rc_ixS {K : PySem.W.Frag} {O : Ow} {Φ : Cd} {x : D} {ds : List D} {i : Int} {d : D} (h : SeqOf x ds) (e : atI ds i = some d) (k : Φ d O) : Rc (rIx K) x (.int i) O Φ := by
  rcases h with rfl | rfl
  · exact rc_ixT e k
  · exact rc_ixL e k
def W_need_kinds_bids (ds : List D) (O : Ow) (Φ : Cd) : Prop := ∃ k : Int, ds = [.int k] ∧ 1 ≤ k ∧ k ≤ 3 ∧ Φ .non O
theorem sc_need_kinds_bids : FnScope ["kinds"] ["kinds"] (defScope s_need_kinds_bids) := ⟨rfl, rfl, rfl, by decide +kernel, rfl, by decide +kernel, by decide +kernel⟩
theorem kn_need_kinds_bids {P : Program} {w : World} {K : PySem.W.Frag} {mg : Str → Option Value} {base : Heap} (T : Txt K mg) : Kn P w K mg base "need_kinds_bids" 2 ["kinds"] (spW (W_need_kinds_bids)) := by
  have S := sc_need_kinds_bids
  have k_is_whole := kn_is_whole (P := P) (w := w) (base := base) T
  refine kn_mk T.d_need_kinds_bids T.g_need_kinds_bids S (fun _ _ _ _ _ _ us hl => match us, hl with | [_], _ => rfl) (fun ds O Φ h => ?_) (fun cdv A outer s H E hr => ?_)
  · obtain ⟨n, rfl, h1, h3, k⟩ := h
    rfl
  have hu := hu_of hr
  have hu64 := hr.units
  have hu9 := hu9_of hr
  refine ⟨_, (pss_one (ps_if (PW.pt (pw_or (pt_not (pt_val (pe_kn k_is_whole hr (by decide) (pa_cons (pv 0) pa_nil)))) (pw_or1 (pt_not (pt_chain op_le op_le pe_int (pv 0) (pe_glob_MOST_KINDS T)))))) (pss_one ps_never) pss_nil)), fun ds O Φ h => ?_⟩
  obtain ⟨n, rfl, h1, h3, k⟩ := h
  repeat walk_at "g"
  refine ⟨_, true, rfl, rfl, ?_⟩
  repeat walk_at "g"
  rw [decide_eq_true h1]
  repeat walk_at "g"
  rw [decide_eq_true h3]
  repeat walk_at "g"
  exact k
def W_is_price_row (ds : List D) (O : Ow) (Φ : Cd) : Prop := ∃ x zs, ds = [x, .int (zs.length : Int)] ∧ SeqOf x (zs.map (·.1)) ∧ NumsOk zs ∧ Φ (.bl true) O
theorem sc_is_price_row : FnScope ["value", "kinds", "number"] ["value", "kinds"] (defScope s_is_price_row) := ⟨rfl, rfl, rfl, by decide +kernel, rfl, by decide +kernel, by decide +kernel⟩
theorem kn_is_price_row {P : Program} {w : World} {K : PySem.W.Frag} {mg : Str → Option Value} {base : Heap} (T : Txt K mg) : Kn P w K mg base "is_price_row" 4 ["value", "kinds"] (spW (W_is_price_row)) := by
  have S := sc_is_price_row
  have k_is_ratio := kn_is_ratio (P := P) (w := w) (base := base) T
  have k_told := kn_told (P := P) (w := w) (base := base) T
  refine kn_mk T.d_is_price_row T.g_is_price_row S (fun _ _ _ _ _ _ us hl => match us, hl with | [_, _], _ => rfl) (fun ds O Φ h => ?_) (fun cdv A outer s H E hr => ?_)
  · obtain ⟨x, zs, rfl, hx, hz, k⟩ := h
    rfl
  have hu := hu_of hr
  have hu64 := hr.units
  have hu9 := hu9_of hr
  refine ⟨_, (pss_cons (ps_if (PW.pt (pw_or (pt_not (pt_val (pe_callB (call_isiTK (K := K) rfl) (by rfl) T.f_isinstance (by decide +kernel) (pa_cons (pv 0) (pa_cons (pe_tup (pa_cons (pe_bltn (v := .ty "tuple") (by rfl) T.f_tuple (by decide +kernel) rfl) (pa_cons (pe_bltn (v := .ty "list") (by rfl) T.f_list (by decide +kernel) rfl) pa_nil))) pa_nil))))) (pw_or (pt_cmpR op_ne (pe_callB (call_lenK (K := K) rfl) (by rfl) T.f_len PySem.boot_len (pa_cons (pv 0) pa_nil)) (pv 1) (nomark _)) (pw_or1 (pt_not (pt_val (pe_callB (cr_allK (K := K) rfl rfl) (by rfl) T.f_all (by decide +kernel) (pa_cons (pe_lc (own := [("number", 2)]) rfl S.nd (pi_or (pi_listK (K := K) rfl (pv 0)) (pi_tupK (K := K) rfl (pv 0))) (blkOk_by (own := [("number", 2)]) (by kernel_rfl)) (fun _ _ _ _ _ => (pg_name (i := 2) S.nd rfl (by first | exact Or.inl rfl | exact Or.inr rfl))) (fun _ _ _ _ _ => pts_nil) (fun _ _ _ _ _ => (pe_kn k_is_ratio hr (by decide) (pa_cons (pv 2) pa_nil)))) pa_nil)))))))) (pss_one (ps_ret pe_bl)) pss_nil)
        (pss_one (ps_ret (pe_callB (cr_allK (K := K) rfl rfl) (by rfl) T.f_all (by decide +kernel) (pa_cons (pe_lc (own := [("number", 2)]) rfl S.nd (pi_or (pi_listK (K := K) rfl (pv 0)) (pi_tupK (K := K) rfl (pv 0))) (blkOk_by (own := [("number", 2)]) (by kernel_rfl)) (fun _ _ _ _ _ => (pg_name (i := 2) S.nd rfl (by first | exact Or.inl rfl | exact Or.inr rfl))) (fun _ _ _ _ _ => pts_nil) (fun _ _ _ _ _ => (pe_cmpR op_ge (pe_ix (ix_seqK (K := K) rfl) (pe_kn k_told hr (by decide) (pa_cons (pv 2) (pa_cons pe_str pa_nil))) pe_int (fun _ _ => rfl)) pe_int (nomark _)))) pa_nil))))), fun ds O Φ h => ?_⟩
  obtain ⟨x, zs, rfl, hx, hz, k⟩ := h
  have hlen : zs.length ≤ sizeLine := sz_ok (by have := hz.1; omega)
  have bits : ((zs.filter fun _ => true).map fun _ => D.bl true) = (zs.map fun _ => true).map D.bl := by
    rw [filter_yes, List.map_map]
    rfl
  have all : (zs.map fun _ => true).all id = true := List.all_eq_true.mpr fun b hb => by
    obtain ⟨z, _, rfl⟩ := List.mem_map.mp hb
    rfl
  repeat walk_at "g"
  refine ⟨by show 2 ≤ sizeLine; decide, ?_⟩
  repeat walk_at "g"
  refine bc_isiS hx ?_
  repeat walk_at "g"
  refine bc_lenS hx ?_
  repeat walk_at "g"
  rw [List.length_map, decide_eq_true rfl]
  repeat walk_at "g"
  refine ec_lcp zs (·.1) (fun _ => true) (fun _ => .bl true) (ic_seq hx (ec_var rfl ⟨rfl, rfl, rfl, trivial⟩)) hlen (fun z hm => ?_) (.inl ?_)
  · refine ⟨_, _, ?_, gc_name, tc_yes ⟨rfl, rfl, fun _ => ?_⟩⟩
    · decide
    repeat walk_at "g"
    exact ⟨_, _, _, rfl, (hz.2 z hm).1, rfl, rfl⟩
  repeat walk_at "g"
  rw [bits]
  refine bc_all ?_
  rw [all]
  repeat walk_at "g"
  refine ec_lcp zs (·.1) (fun _ => true) (fun _ => .bl true) (ic_seq hx (ec_var rfl ⟨rfl, rfl, rfl, trivial⟩)) hlen (fun z hm => ?_) (.inl ?_)
  · refine ⟨_, _, ?_, gc_name, tc_yes ⟨rfl, rfl, fun _ => ?_⟩⟩
    · decide
    obtain ⟨h1, h2, h3, h4⟩ := hz.2 z hm
    repeat walk_at "g"
    refine ⟨_, _, _, _, rfl, h1, h4, ?_⟩
    repeat walk_at "g"
    refine rc_ixT (d := .int (low z.2.1 z.2.2).1) rfl ?_
    repeat walk_at "g"
    rw [decide_eq_true (low_fst_nonneg h2)]
    exact ⟨rfl, rfl⟩
  repeat walk_at "g"
  rw [bits]
  refine bc_all ?_
  rw [all]
  exact k
def W_is_bid (ds : List D) (O : Ow) (Φ : Cd) : Prop := ∃ d r, ds = [d, .int (r.2.length : Int)] ∧ IsRaw d r ∧ NumsOk r.2 ∧ Φ (.bl true) O
theorem sc_is_bid : FnScope ["value", "kinds"] ["value", "kinds"] (defScope s_is_bid) := ⟨rfl, rfl, rfl, by decide +kernel, rfl, by decide +kernel, by decide +kernel⟩
theorem kn_is_bid {P : Program} {w : World} {K : PySem.W.Frag} {mg : Str → Option Value} {base : Heap} (T : Txt K mg) : Kn P w K mg base "is_bid" 5 ["value", "kinds"] (spW (W_is_bid)) := by
  have S := sc_is_bid
  have k_is_whole := kn_is_whole (P := P) (w := w) (base := base) T
  have k_is_price_row := kn_is_price_row (P := P) (w := w) (base := base) T
  refine kn_mk T.d_is_bid T.g_is_bid S (fun _ _ _ _ _ _ us hl => match us, hl with | [_, _], _ => rfl) (fun ds O Φ h => ?_) (fun cdv A outer s H E hr => ?_)
  · obtain ⟨d, r, rfl, ⟨x, hx, hd⟩, hz, k⟩ := h
    rfl
  have hu := hu_of hr
  have hu64 := hr.units
  have hu9 := hu9_of hr
  refine ⟨_, (pss_cons (ps_if (PW.pt (pw_or (pt_not (pt_val (pe_callB (call_isiTK (K := K) rfl) (by rfl) T.f_isinstance (by decide +kernel) (pa_cons (pv 0) (pa_cons (pe_tup (pa_cons (pe_bltn (v := .ty "tuple") (by rfl) T.f_tuple (by decide +kernel) rfl) (pa_cons (pe_bltn (v := .ty "list") (by rfl) T.f_list (by decide +kernel) rfl) pa_nil))) pa_nil))))) (pw_or1 (pt_cmpR op_ne (pe_callB (call_lenK (K := K) rfl) (by rfl) T.f_len PySem.boot_len (pa_cons (pv 0) pa_nil)) pe_int (nomark _))))) (pss_one (ps_ret pe_bl)) pss_nil)
        (pss_one (ps_ret (pe_and (pe_kn k_is_whole hr (by decide) (pa_cons (pe_ix (ix_seqK (K := K) rfl) (pv 0) pe_int (fun _ _ => rfl)) pa_nil)) (pe_one (pe_kn k_is_price_row hr (by decide) (pa_cons (pe_ix (ix_seqK (K := K) rfl) (pv 0) pe_int (fun _ _ => rfl)) (pa_cons (pv 1) pa_nil)))))))), fun ds O Φ h => ?_⟩
  obtain ⟨d, r, rfl, ⟨x, hx, hd⟩, hz, k⟩ := h
  repeat walk_at "g"
  refine ⟨by show 2 ≤ sizeLine; decide, ?_⟩
  repeat walk_at "g"
  refine bc_isiS hd ?_
  repeat walk_at "g"
  refine bc_lenS hd ?_
  repeat walk_at "g"
  refine rc_ixS hd (d := .int r.1) rfl ?_
  repeat walk_at "g"
  refine ⟨_, true, rfl, rfl, ?_⟩
  repeat walk_at "g"
  refine rc_ixS hd (d := x) rfl ?_
  repeat walk_at "g"
  exact ⟨x, r.2, rfl, hx, hz, k⟩
end Ab

/-! ## AbD4 -/
set_option Elab.async false
set_option linter.all false
set_option maxRecDepth 100000
set_option maxHeartbeats 1000000
namespace Ab
open PySem L2
local macro_rules | `(tactic| walk_at "g") => `(tactic| first
  | with_reducible refine sc_seq ?_ | with_reducible refine sc_if ?_ | with_reducible refine sc_ret ?_ | with_reducible refine sc_asg ?_ | with_reducible refine sc_par ?_ | with_reducible refine sc_next ?_
  | ((with_reducible refine ec_var (d := ?dd) ?hv ?_); (case hv => exact rfl)) | with_reducible refine ec_int ?_ | with_reducible refine ec_bl ?_ | with_reducible refine ec_str ?_ | with_reducible refine ec_ty ?_ | with_reducible refine ec_non ?_
  | with_reducible refine ec_op ?_ | with_reducible refine ec_call ?_ | with_reducible refine ec_un ?_ | with_reducible refine ec_cb ?_ | with_reducible refine ec_if ?_ | with_reducible refine ec_andV ?_ | with_reducible refine ec_orV ?_ | with_reducible refine ec_notV ?_
  | with_reducible refine ac_cons ?_ | with_reducible refine ac_nil ?_ | (with_reducible refine ec_tup (ac_cons ?_)) | with_reducible refine ec_tup ?_
  | with_reducible refine tc_test ?_ | with_reducible refine tc_B ?_ | with_reducible refine tc_and ?_ | with_reducible refine tc_or ?_ | with_reducible refine tc_not ?_ | with_reducible refine tc_yes ?_
  | with_reducible refine rc_i0 ?_ | with_reducible refine rc_b0 ?_ | with_reducible refine rc_eqI ?_ | with_reducible refine rc_neI ?_ | with_reducible refine rc_eqS ?_ | with_reducible refine uc_neg ?_
  | with_reducible refine bc_int ?_ | with_reducible refine bc_abs ?_ | with_reducible refine bc_lenL ?_ | with_reducible refine bc_lenT ?_ | with_reducible refine bc_tupL ?_ | with_reducible refine bc_tupT ?_
  | with_reducible refine ec_chain ?_ | with_reducible refine ec_dget ?_ | with_reducible refine ec_dget2 ?_ | with_reducible refine ec_din ?_ | with_reducible refine ec_nget ?_ | with_reducible refine ec_nget2 ?_ | with_reducible refine ec_nnotin ?_ | with_reducible refine ec_app ?_ | with_reducible refine sc_nput ?_ | with_reducible refine sc_drop ?_ | with_reducible refine ec_setd ?_ | with_reducible refine ec_make ?_ | with_reducible refine ec_disp ?_ | with_reducible refine pc_cons ?_ | with_reducible refine pc_nil ?_ | with_reducible refine gc_sub ?_ | with_reducible refine sc_asgG ?_
  | with_reducible refine ⟨_, rfl, ?_⟩ | refine iteT ?_ | refine iteF ?_ | dsimp only )

/-! ### the plain list of some rows -/
def keyOf (r : Raw) : Key2 := r.2.map fun z => low z.2.1 z.2.2
def foundOf (rs : List Raw) : List (Key2 × Int) := rs.foldl (fun f r => putG f (keyOf r) ((valG f (keyOf r)).getD 0 + r.1)) []
def vi (kv : Key2 × Int) : Key2 × V := (kv.1, V.int kv.2)
theorem valG_vi (f : List (Key2 × Int)) (k : Key2) : valG (f.map vi) k = (valG f k).map V.int := by
  induction f with
  | nil => rfl
  | cons p r ih =>
    rw [List.map_cons]
    by_cases e : p.1 = k
    · rw [valG_hit (p := vi p) e, valG_hit e]
      rfl
    · rw [valG_miss (p := vi p) e, valG_miss e, ih]
theorem putG_vi (f : List (Key2 × Int)) (k : Key2) (n : Int) : putG (f.map vi) k (.int n) = (putG f k n).map vi := by
  unfold putG
  rw [valG_vi, Option.isSome_map]
  split
  · rw [List.map_map, List.map_map]
    refine List.map_congr_left fun p _ => ?_
    show (if p.1 = k then (p.1, V.int n) else vi p) = vi (if p.1 = k then (p.1, n) else p)
    split <;> rfl
  · rw [List.map_append]
    rfl
theorem foundOf_length (rs : List Raw) : (foundOf rs).length ≤ rs.length := by
  have key : ∀ (rs : List Raw) (f : List (Key2 × Int)), (rs.foldl (fun f r => putG f (keyOf r) ((valG f (keyOf r)).getD 0 + r.1)) f).length ≤ f.length + rs.length := by
    intro rs
    induction rs with
    | nil => exact fun f => Nat.le_refl _
    | cons r rs ih =>
      intro f
      have h1 := ih (putG f (keyOf r) ((valG f (keyOf r)).getD 0 + r.1))
      have h2 := putG_length f (keyOf r) ((valG f (keyOf r)).getD 0 + r.1)
      show (rs.foldl _ (putG f (keyOf r) ((valG f (keyOf r)).getD 0 + r.1))).length ≤ _
      rw [List.length_cons]
      omega
  have := key rs []
  rw [List.length_nil, Nat.zero_add] at this
  exact this
/-- what a key is like -/
def KeyOk (k : Key2) : Prop := k.length ≤ 3 ∧ ∀ q ∈ k, 0 ≤ q.1 ∧ q.1 < 1073741824 ∧ 0 < q.2 ∧ q.2 < 1073741824
theorem keyOf_ok {r : Raw} (h : NumsOk r.2) : KeyOk (keyOf r) := by
  refine ⟨by unfold keyOf; rw [List.length_map]; exact h.1, fun q hq => ?_⟩
  obtain ⟨z, hz, rfl⟩ := List.mem_map.mp hq
  obtain ⟨h1, h2, h3, h4⟩ := h.2 z hz
  have a := low_fst_nonneg (b := z.2.2) h2
  have b := low_fst_le (b := z.2.2) h2
  have c := low_snd_pos z.2.1 z.2.2 h1.pos
  have d := low_snd_le z.2.1 z.2.2 h1.pos
  exact ⟨a, by omega, c, by omega⟩
theorem foundOf_keys {p : Key2 → Prop} {rs : List Raw} (h : ∀ r ∈ rs, p (keyOf r)) : ∀ kv ∈ foundOf rs, p kv.1 := by
  have key : ∀ (rs : List Raw) (f : List (Key2 × Int)), (∀ r ∈ rs, p (keyOf r)) → (∀ x ∈ f.map (·.1), p x) → ∀ x ∈ (rs.foldl (fun f r => putG f (keyOf r) ((valG f (keyOf r)).getD 0 + r.1)) f).map (·.1), p x := by
    intro rs
    induction rs with
    | nil => exact fun f _ h => h
    | cons r rs ih =>
      intro f h1 h2
      refine ih _ (fun r hr => h1 r (List.mem_cons_of_mem _ hr)) fun x hx => ?_
      rcases (putG_keys _ _ _ x).mp hx with rfl | hx
      · exact h1 r List.mem_cons_self
      · exact h2 x hx
  exact fun kv hk => key rs [] h (fun x hx => absurd hx List.not_mem_nil) kv.1 (List.mem_map_of_mem hk)
theorem foundOf_nodup (rs : List Raw) : ((foundOf rs).map (·.1)).Nodup := by
  have key : ∀ (rs : List Raw) (f : List (Key2 × Int)), (f.map (·.1)).Nodup → ((rs.foldl (fun f r => putG f (keyOf r) ((valG f (keyOf r)).getD 0 + r.1)) f).map (·.1)).Nodup := by
    intro rs
    induction rs with
    | nil => exact fun f h => h
    | cons r rs ih => exact fun f h => ih _ (putG_nodup _ _ h)
  exact key rs [] List.nodup_nil
theorem valG_of {α β : Type} [DecidableEq α] {f : List (α × β)} (nd : (f.map (·.1)).Nodup) {k : α} {v : β} (h : (k, v) ∈ f) : valG f k = some v := by
  induction f with
  | nil => cases h
  | cons p r ih =>
    rw [List.map_cons] at nd
    obtain ⟨n1, n2⟩ := List.nodup_cons.mp nd
    rcases List.mem_cons.mp h with rfl | h
    · exact valG_hit rfl
    · rw [valG_miss fun e => n1 (e ▸ List.mem_map_of_mem (f := (·.1)) h)]
      exact ih n2 h
def keepK (kv : Key2 × Int) : Bool := !decide (kv.2 = 0) && kv.1.any fun q => decide (0 < q.1)
def plainR (rs : List Raw) : List Row := ((foundOf rs).filter keepK).map fun kv => (kv.2, kv.1)
/-! what is sorted -/
def pdq (q : Int × Int) : PyData := .tuple [.int q.1, .int q.2]
def wholeK (by_ : Int) (k : Key2) : List Int := k.map fun q => q.1 * (by_ / q.2)
def itemD (by_ : Int) (kv : Key2 × Int) : D := .tup [.tup ((wholeK by_ kv.1).map D.int), k2D kv.1]
def itemP (by_ : Int) (kv : Key2 × Int) : PyData := .tuple [.tuple ((wholeK by_ kv.1).map .int), .tuple (kv.1.map pdq)]
theorem pd_item (b : Int) (kv : Key2 × Int) : Pd (itemD b kv) (itemP b kv) := .tup (.cons (.tup (pd_ints _)) (.cons (.tup (pdL_map (fun q => .tup (.cons (.int _) (.cons (.int _) .nil))) kv.1)) .nil))
theorem alike_pdq : ∀ xs ys : List (Int × Int), PySem.W.alikeAll (xs.map pdq) (ys.map pdq) = true
  | [], ys => by rw [List.map_nil]; unfold PySem.W.alikeAll; cases ys <;> rfl
  | x :: xs, [] => rfl
  | x :: xs, y :: ys => by
    show (PySem.W.alike (pdq x) (pdq y) && PySem.W.alikeAll (xs.map pdq) (ys.map pdq)) = true
    rw [alike_pdq xs ys]
    rfl
theorem alike_item (b : Int) (x y : Key2 × Int) : PySem.W.alike (itemP b x) (itemP b y) = true := by
  show (PySem.W.alikeAll ((wholeK b x.1).map .int) ((wholeK b y.1).map .int) && (PySem.W.alikeAll (x.1.map pdq) (y.1.map pdq) && true)) = true
  rw [PySem.W.alike_ints, alike_pdq]
  rfl
theorem depth_pdq : ∀ xs : List (Int × Int), PyData.depthAll (xs.map pdq) ≤ 1
  | [] => Nat.zero_le _
  | x :: xs => by
    have := depth_pdq xs
    show max (pdq x).depth (PyData.depthAll (xs.map pdq)) ≤ 1
    have h : (pdq x).depth = 1 := rfl
    omega
theorem depth_item (b : Int) (x : Key2 × Int) : (itemP b x).depth ≤ 8 := by
  have h1 := depth0_ints (wholeK b x.1)
  have h2 := depth_pdq x.1
  show max (PyData.depthAll ((wholeK b x.1).map .int) + 1) (max (PyData.depthAll (x.1.map pdq) + 1) 0) + 1 ≤ 8
  omega
theorem flatMap_len {α β : Type} {f : α → List β} {m : Nat} : ∀ {xs : List α}, (∀ x ∈ xs, (f x).length ≤ m) → (xs.flatMap f).length ≤ xs.length * m
  | [], _ => Nat.zero_le _
  | x :: xs, h => by
    have h1 := h x List.mem_cons_self
    have h2 := flatMap_len (xs := xs) fun y hy => h y (List.mem_cons_of_mem _ hy)
    rw [List.flatMap_cons, List.length_append, List.length_cons, Nat.succ_mul]
    omega
def W_plain_rows (ds : List D) (O : Ow) (Φ : Cd) : Prop := ∃ (x : D) (rs : List (D × Raw)), ds = [x] ∧ SeqOf x (rs.map (·.1)) ∧ rs.length ≤ 1000 ∧ (∀ z ∈ rs, IsRaw z.1 z.2 ∧ NumsOk z.2.2) ∧ ∀ R : List Row, R.Perm (plainR (rs.map (·.2))) → Φ (.tup (R.map rowD)) O
theorem sc_plain_rows : FnScope ["rows", "found", "weight", "numbers", "key", "by", "kept", "order", "number", "top", "bottom", "whole"] ["rows"] (defScope s_plain_rows) := ⟨rfl, rfl, rfl, by decide +kernel, rfl, by decide +kernel, by decide +kernel⟩
theorem kn_plain_rows {P : Program} {w : World} {K : PySem.W.Frag} {mg : Str → Option Value} {base : Heap} (T : Txt K mg) : Kn P w K mg base "plain_rows" 4 ["rows"] (spW (W_plain_rows)) := by
  have S := sc_plain_rows
  have k_told := kn_told (P := P) (w := w) (base := base) T
  have k_bottom_of := kn_bottom_of (P := P) (w := w) (base := base) T
  refine kn_mk T.d_plain_rows T.g_plain_rows S (fun _ _ _ _ _ _ us hl => match us, hl with | [_], _ => rfl) (fun ds O Φ h => ?_) (fun cdv A outer s H E hr => ?_)
  · obtain ⟨x, rs, rfl, hx, hn, hr, k⟩ := h
    rfl
  have hu := hu_of hr
  have hu64 := hr.units
  have hu9 := hu9_of hr
  refine ⟨_, (pss_cons (ps_set (i := 1) S.nd rfl (Or.inr rfl) (pe_nnew (P := P) (w := w) rfl rfl))
        (pss_cons (ps_for PassesOwn.never rfl (pi_or (pi_listK (K := K) rfl (pv 0)) (pi_tupK (K := K) rfl (pv 0))) (pg_or (pg_tupK (K := K) (n := 2) rfl rfl (pgs_cons (pg_name (i := 2) S.nd rfl (Or.inl rfl)) (pgs_cons (pg_name (i := 3) S.nd rfl (Or.inl rfl)) pgs_nil))) (pg_unlK (K := K) (n := 2) rfl rfl (pgs_cons (pg_name (i := 2) S.nd rfl (Or.inl rfl)) (pgs_cons (pg_name (i := 3) S.nd rfl (Or.inl rfl)) pgs_nil)))) (pss_cons (ps_set (i := 4) S.nd rfl (Or.inl rfl) (pe_callTy (call_tupK (K := K) rfl) (by rfl) T.f_tuple (by decide +kernel) (pa_cons (pe_lc (own := [("number", 8)]) rfl S.nd (pi_or (pi_listK (K := K) rfl (pv 3)) (pi_tupK (K := K) rfl (pv 3))) (blkOk_by (own := [("number", 8)]) (by kernel_rfl)) (fun _ _ _ _ _ => (pg_name (i := 8) S.nd rfl (by first | exact Or.inl rfl | exact Or.inr rfl))) (fun _ _ _ _ _ => pts_nil) (fun _ _ _ _ _ => (pe_kn k_told hr (by decide) (pa_cons (pv 8) (pa_cons pe_str pa_nil))))) pa_nil)))
        (pss_one (ps_nput (P := P) (w := w) rfl rfl hu9 (pv 1) (pv 4) (pe_op op_add (pe_nget2 (P := P) (w := w) rfl rfl hu9 (pv 1) (pv 4) pe_int ⟨by rfl, by rfl, by rfl, by rfl⟩) (pv 2)) rfl))))
        (pss_cons (ps_set (i := 5) S.nd rfl (Or.inr rfl) (pe_kn k_bottom_of hr (by decide) (pa_cons (pe_lc2 (own := [("key", 4), ("number", 8)]) (vs1 := [8]) rfl S.nd (pi_nkeys (P := P) (w := w) rfl rfl (pv 1)) (blkOk_by (own := [("key", 4), ("number", 8)]) (by kernel_rfl)) (by decide) (fun _ _ _ _ _ => (pg_name (i := 4) S.nd rfl (by first | exact Or.inl rfl | exact Or.inr rfl))) (fun _ _ _ _ _ => pts_nil) (fun _ _ _ _ _ => (pi_tupK (K := K) rfl (pv 4))) (fun _ _ _ _ _ => (pg_name (i := 8) S.nd rfl (by first | exact Or.inl rfl | exact Or.inr rfl))) (fun _ _ _ _ _ => pts_nil) (fun _ _ _ _ _ => (pv 8))) pa_nil)))
        (pss_cons (ps_setLc (i := 6) (own := [("key", 4)]) rfl S.nd rfl rfl (sw_true rfl rfl rfl (by kernel_rfl)) (pi_nkeys (P := P) (w := w) rfl rfl (pv 1)) (blkOk_by (own := [("key", 4)]) (by kernel_rfl)) (fun _ _ _ _ _ => (pg_name (i := 4) S.nd rfl (by first | exact Or.inl rfl | exact Or.inr rfl))) (fun _ _ _ _ _ => (pts_one (PW.pt (pw_and (pt_cmpR op_ne (pe_nget (P := P) (w := w) rfl rfl hu9 (pv 1) (pv 4) (fun _ _ => rfl)) pe_int (nomark _)) (pw_and1 (pt_val (pe_callB (cr_anyK (K := K) rfl rfl) (by rfl) T.f_any (by decide +kernel) (pa_cons (pe_lc (own := [("number", 8)]) rfl S.nd (pi_tupK (K := K) rfl (pv 4)) (blkOk_by (own := [("number", 8)]) (by kernel_rfl)) (fun _ _ _ _ _ => (pg_name (i := 8) S.nd rfl (by first | exact Or.inl rfl | exact Or.inr rfl))) (fun _ _ _ _ _ => pts_nil) (fun _ _ _ _ _ => (pe_cmpR op_gt (pe_ix (ix_seqK (K := K) rfl) (pv 8) pe_int (fun _ _ => rfl)) pe_int (nomark _)))) pa_nil)))))))) (fun _ _ _ _ _ => (pv 4)))
        (pss_cons (ps_set (i := 7) S.nd rfl (Or.inl rfl) (pe_callB (cr_sortedD (K := K) rfl hu64) (by rfl) T.f_sorted (by decide +kernel) (pa_cons (pe_lc (own := [("key", 4)]) rfl S.nd (pi_listK (K := K) rfl (pv 6)) (blkOk_by (own := [("key", 4)]) (by kernel_rfl)) (fun _ _ _ _ _ => (pg_name (i := 4) S.nd rfl (by first | exact Or.inl rfl | exact Or.inr rfl))) (fun _ _ _ _ _ => pts_nil) (fun _ _ _ _ _ => (pe_tup (pa_cons (pe_callTy (call_tupK (K := K) rfl) (by rfl) T.f_tuple (by decide +kernel) (pa_cons (pe_lc (own := [("top", 9), ("bottom", 10)]) rfl S.nd (pi_tupK (K := K) rfl (pv 4)) (blkOk_by (own := [("top", 9), ("bottom", 10)]) (by kernel_rfl)) (fun _ _ _ _ _ => (pg_tupK (K := K) (n := 2) rfl rfl (pgs_cons (pg_name (i := 9) S.nd rfl (by first | exact Or.inl rfl | exact Or.inr rfl)) (pgs_cons (pg_name (i := 10) S.nd rfl (by first | exact Or.inl rfl | exact Or.inr rfl)) pgs_nil)))) (fun _ _ _ _ _ => pts_nil) (fun _ _ _ _ _ => (pe_op op_mul (pv 9) (pe_op op_fdiv (pv 5) (pv 10))))) pa_nil)) (pa_cons (pv 4) pa_nil))))) pa_nil)))
        (pss_one (ps_ret (pe_callTy (call_tupK (K := K) rfl) (by rfl) T.f_tuple (by decide +kernel) (pa_cons (pe_lc (own := [("whole", 11), ("key", 4)]) rfl S.nd (pi_listK (K := K) rfl (pv 7)) (blkOk_by (own := [("whole", 11), ("key", 4)]) (by kernel_rfl)) (fun _ _ _ _ _ => (pg_tupK (K := K) (n := 2) rfl rfl (pgs_cons (pg_name (i := 11) S.nd rfl (by first | exact Or.inl rfl | exact Or.inr rfl)) (pgs_cons (pg_name (i := 4) S.nd rfl (by first | exact Or.inl rfl | exact Or.inr rfl)) pgs_nil)))) (fun _ _ _ _ _ => pts_nil) (fun _ _ _ _ _ => (pe_tup (pa_cons (pe_nget (P := P) (w := w) rfl rfl hu9 (pv 1) (pv 4) (fun _ _ => rfl)) (pa_cons (pv 4) pa_nil))))) pa_nil))))))))), fun ds O Φ h => ?_⟩
  obtain ⟨x, rs, rfl, hx, hn, hr, k⟩ := h
  repeat walk_at "g"
  refine ec_nnew fun a => ?_
  repeat walk_at "g"
  refine sc_for (ic_seq hx (ec_var rfl ⟨rfl, fun i τ O' => O' = (a, oN P w a ((foundOf ((rs.take i).map (·.2))).map vi)) :: O ∧ ∃ x2 x3 x4, τ = [some x, some (.adr a), x2, x3, x4, none, none, none, none, none, none, none], ⟨rfl, _, _, _, rfl⟩, fun _ _ _ _ => trivial, ?_, ?_⟩))
  · rintro i d τ O1 hd ⟨rfl, x2, x3, x4, rfl⟩
    obtain ⟨z, hz, rfl⟩ := map_get hd
    obtain ⟨⟨y, hy, hrow⟩, hnum⟩ := hr z (List.mem_of_getElem? hz)
    refine ⟨_, _, gc_seq2 hrow, ?_⟩
    repeat walk_at "g"
    refine ec_lcp z.2.2 (·.1) (fun _ => true) (fun u => ratD (low u.2.1 u.2.2)) (ic_seq hy (ec_var rfl ⟨rfl, rfl, rfl, trivial⟩)) (sz_ok (by have := hnum.1; omega)) (fun u hu => ?_) (.inl ?_)
    · obtain ⟨h1, h2, h3, h4⟩ := hnum.2 u hu
      refine ⟨_, _, ?_, gc_name, tc_yes ⟨rfl, rfl, fun _ => ?_⟩⟩
      · decide
      repeat walk_at "g"
      exact ⟨_, _, _, _, rfl, h1, h4, rfl, rfl⟩
    have ek : ((z.2.2.filter fun _ => true).map fun u => ratD (low u.2.1 u.2.2)) = (keyOf z.2).map ratD := by
      rw [filter_yes]
      unfold keyOf
      rw [List.map_map]
      rfl
    rw [ek]
    repeat walk_at "g"
    refine ⟨0, a, _, rfl, rfl, ?_⟩
    repeat walk_at "g"
    refine ⟨0, _, keyOf z.2, .int ((valG (foundOf ((rs.take i).map (·.2))) (keyOf z.2)).getD 0), rfl, rfl, fun B v hv => ?_, ?_⟩
    · cases hv
      rw [valG_vi]
      cases valG (foundOf ((rs.take i).map (·.2))) (keyOf z.2) with
      | none => exact .int _
      | some n => exact .int _
    repeat walk_at "g"
    have hl := foundOf_length ((rs.take i).map (·.2))
    rw [List.length_map, List.length_take] at hl
    refine ⟨0, a, _, keyOf z.2, .int _, fun B u hu => by cases hu; rfl, rfl, rfl, rfl, ?_, ?_, _, _, _, rfl⟩
    · rw [List.length_map]
      exact Nat.lt_of_lt_of_le (by omega : _ < 2000) (sz_ok (by omega))
    · have nx : foundOf ((rs.take (i + 1)).map (·.2)) = putG (foundOf ((rs.take i).map (·.2))) (keyOf z.2) ((valG (foundOf ((rs.take i).map (·.2))) (keyOf z.2)).getD 0 + z.2.1) := by
        rw [take_next hz, List.map_append]
        exact List.foldl_append
      rw [nx, putG_vi]
      rfl
  · rintro τ O1 ⟨rfl, x2, x3, x4, rfl⟩
    rw [List.length_map, List.take_length]
    have hok : ∀ kv ∈ foundOf (rs.map (·.2)), KeyOk kv.1 := foundOf_keys fun r hr' => by
      obtain ⟨z, hz, rfl⟩ := List.mem_map.mp hr'
      exact keyOf_ok (hr z hz).2
    have hl := foundOf_length (rs.map (·.2))
    rw [List.length_map] at hl
    have nd := foundOf_nodup (rs.map (·.2))
    unfold plainR at k
    generalize foundOf (rs.map (·.2)) = F at hok hl nd k ⊢
    have vF : ∀ kv ∈ F, valG (F.map vi) kv.1 = some (.int kv.2) := fun kv hkv => by
      rw [valG_vi, valG_of nd (v := kv.2) hkv]
      rfl
    refine sc_fz (j := 0) (i := 1) rfl fz_N rfl ?_
    repeat walk_at "g"
    refine ec_lc2p F (fun kv => k2D kv.1) (fun kv => kv.1) ratD (fun _ _ => true) (fun _ q => ratD q) (ic_nkeys (ec_var rfl ⟨_, rfl, by rw [List.map_map]; rfl, rfl, trivial⟩)) (sz_ok ?_) (fun kv hkv => ?_) (.inl ?_)
    · refine Nat.le_trans (flatMap_len (m := 3) fun x hx => ?_) (by omega)
      rw [List.length_map, filter_yes]
      exact (hok x hx).1
    · refine ⟨_, _, ?_, gc_name, tc_yes ⟨rfl, rfl, ic_tup (ec_var rfl ⟨_, rfl, rfl, rfl, trivial, fun q hq => ⟨_, _, ?_, gc_name, tc_yes ⟨rfl, rfl, fun _ => ec_var rfl ⟨rfl, rfl⟩⟩⟩⟩)⟩⟩
      · decide
      · decide
    repeat walk_at "g"
    refine ⟨F.flatMap (·.1), ?_, fun q hq => ?_, ?_⟩
    · rw [List.map_flatMap]
      simp only [filter_yes]
    · obtain ⟨kv, hkv, hq⟩ := List.mem_flatMap.mp hq
      have := (hok kv hkv).2 q hq
      exact ⟨this.2.2.1, this.2.2.2⟩
    generalize lcmQ (F.flatMap (·.1)) = by_
    repeat walk_at "g"
    refine ec_lcp F (fun kv => k2D kv.1) keepK (fun kv => k2D kv.1) (ic_nkeys (ec_var rfl ⟨_, rfl, by rw [List.map_map]; rfl, rfl, trivial⟩)) (sz_ok (by omega)) (fun kv hkv => ?_) (.inl ?_)
    · refine ⟨_, _, ?_, gc_name, ?_⟩
      · decide
      repeat walk_at "g"
      refine ⟨_, kv.1, .int kv.2, .int kv.2, rfl, rfl, vF kv hkv, fun B => .int _, ?_⟩
      repeat walk_at "g"
      cases hz : decide (kv.2 = 0) with
      | true =>
        refine iteF ?_
        exact ⟨rfl, by unfold keepK; rw [hz]; rfl, fun z => (nomatch z)⟩
      | false =>
        repeat walk_at "g"
        refine ec_lcp kv.1 ratD (fun _ => true) (fun q => .bl (decide (0 < q.1))) (ic_tup (ec_var rfl ⟨_, rfl, rfl, rfl, trivial⟩)) (sz_ok (by have := (hok kv hkv).1; omega)) (fun q hq => ?_) (.inl ?_)
        · refine ⟨_, _, ?_, gc_name, tc_yes ⟨rfl, rfl, fun _ => ?_⟩⟩
          · decide
          repeat walk_at "g"
          refine rc_ixT (d := .int q.1) rfl ?_
          repeat walk_at "g"
          exact ⟨rfl, rfl⟩
        have eb : ((kv.1.filter fun _ => true).map fun q => D.bl (decide (0 < q.1))) = (kv.1.map fun q => decide (0 < q.1)).map D.bl := by
          rw [filter_yes, List.map_map]
          rfl
        rw [eb]
        repeat walk_at "g"
        refine bc_any ⟨_, rfl, rfl, ?_, fun _ => ec_var rfl ⟨rfl, rfl⟩⟩
        unfold keepK
        rw [hz, List.any_map]
        rfl
    have hokf : ∀ kv ∈ F.filter keepK, KeyOk kv.1 ∧ kv ∈ F := fun kv h => ⟨hok kv (List.mem_filter.mp h).1, (List.mem_filter.mp h).1⟩
    have lf : (F.filter keepK).length ≤ F.length := List.length_filter_le _ _
    generalize F.filter keepK = G at k hokf lf ⊢
    repeat walk_at "g"
    refine ec_lcp G (fun kv => k2D kv.1) (fun _ => true) (itemD by_) (ic_list (ec_var rfl ⟨_, rfl, rfl, rfl, trivial⟩)) (sz_ok (by omega)) (fun kv hkv => ?_) (.inl ?_)
    · refine ⟨_, _, ?_, gc_name, tc_yes ⟨rfl, rfl, fun _ => ?_⟩⟩
      · decide
      repeat walk_at "g"
      refine ec_lcp kv.1 ratD (fun _ => true) (fun q => .int (q.1 * (by_ / q.2))) (ic_tup (ec_var rfl ⟨_, rfl, rfl, rfl, trivial⟩)) (sz_ok (by have := (hokf kv hkv).1.1; omega)) (fun q hq => ?_) (.inl ?_)
      · refine ⟨_, _, ?_, gc_tup (gcs_cons (gcs_cons gcs_nil)) rfl, tc_yes ⟨rfl, rfl, fun _ => ?_⟩⟩
        · decide
        obtain ⟨h1, h2, h3, h4⟩ := (hokf kv hkv).1.2 q hq
        repeat walk_at "g"
        refine rc_i ⟨⟨h3, by omega⟩, ?_⟩
        refine rc_i ⟨.inl ⟨by omega, by omega⟩, ?_⟩
        exact ⟨rfl, rfl⟩
      repeat walk_at "g"
      refine ⟨by show 2 ≤ sizeLine; decide, ?_, rfl⟩
      rw [filter_yes]
      unfold itemD wholeK
      rw [List.map_map]
      rfl
    rw [filter_yes]
    repeat walk_at "g"
    refine bc_sort (itemD by_) (itemP by_) (fun kv _ => pd_item by_ kv) (fun x _ y _ => alike_item by_ x y) (PySem.W.Sortable.tuples fun kv => ⟨_, _, rfl⟩) (fun kv _ => depth_item by_ kv) ?_
    have perm := List.mergeSort_perm G (PySem.W.dataLe false (itemP by_))
    generalize G.mergeSort (PySem.W.dataLe false (itemP by_)) = Y at perm ⊢
    have lY := perm.length_eq
    repeat walk_at "g"
    refine ec_lcp Y (itemD by_) (fun _ => true) (fun kv => rowD (kv.2, kv.1)) (ic_list (ec_var rfl ⟨_, rfl, rfl, rfl, trivial⟩)) (sz_ok (by omega)) (fun kv hkv => ?_) (.inl ?_)
    · refine ⟨_, _, ?_, gc_tup (gcs_cons (gcs_cons gcs_nil)) rfl, tc_yes ⟨rfl, rfl, fun _ => ?_⟩⟩
      · decide
      repeat walk_at "g"
      refine ⟨_, kv.1, .int kv.2, .int kv.2, rfl, rfl, vF kv (hokf kv (perm.mem_iff.mp hkv)).2, fun B => .int _, ?_⟩
      repeat walk_at "g"
      exact ⟨by show 2 ≤ sizeLine; decide, rfl, rfl⟩
    repeat walk_at "g"
    rw [filter_yes]
    have := k (Y.map fun kv => (kv.2, kv.1)) (perm.map _)
    rw [List.map_map] at this
    exact this
end Ab

/-! ## AbD5 -/
set_option Elab.async false
set_option linter.all false
set_option maxRecDepth 100000
set_option maxHeartbeats 1000000
namespace Ab
open PySem L2
local macro_rules | `(tactic| walk_at "g") => `(tactic| first
  | with_reducible refine sc_seq ?_ | with_reducible refine sc_if ?_ | with_reducible refine sc_ret ?_ | with_reducible refine sc_asg ?_ | with_reducible refine sc_par ?_ | with_reducible refine sc_next ?_
  | ((with_reducible refine ec_var (d := ?dd) ?hv ?_); (case hv => exact rfl)) | with_reducible refine ec_int ?_ | with_reducible refine ec_bl ?_ | with_reducible refine ec_str ?_ | with_reducible refine ec_ty ?_ | with_reducible refine ec_non ?_
  | with_reducible refine ec_op ?_ | with_reducible refine ec_call ?_ | with_reducible refine ec_un ?_ | with_reducible refine ec_cb ?_ | with_reducible refine ec_if ?_ | with_reducible refine ec_andV ?_ | with_reducible refine ec_orV ?_ | with_reducible refine ec_notV ?_
  | with_reducible refine ac_cons ?_ | with_reducible refine ac_nil ?_ | (with_reducible refine ec_tup (ac_cons ?_)) | with_reducible refine ec_tup ?_
  | with_reducible refine tc_test ?_ | with_reducible refine tc_B ?_ | with_reducible refine tc_and ?_ | with_reducible refine tc_or ?_ | with_reducible refine tc_not ?_ | with_reducible refine tc_yes ?_
  | with_reducible refine rc_i0 ?_ | with_reducible refine rc_b0 ?_ | with_reducible refine rc_eqI ?_ | with_reducible refine rc_neI ?_ | with_reducible refine rc_eqS ?_ | with_reducible refine uc_neg ?_
  | with_reducible refine bc_int ?_ | with_reducible refine bc_abs ?_ | with_reducible refine bc_lenL ?_ | with_reducible refine bc_lenT ?_ | with_reducible refine bc_tupL ?_ | with_reducible refine bc_tupT ?_
  | with_reducible refine ec_chain ?_ | with_reducible refine ec_dget ?_ | with_reducible refine ec_dget2 ?_ | with_reducible refine ec_din ?_ | with_reducible refine ec_nget ?_ | with_reducible refine ec_nget2 ?_ | with_reducible refine ec_nnotin ?_ | with_reducible refine ec_app ?_ | with_reducible refine sc_nput ?_ | with_reducible refine sc_drop ?_ | with_reducible refine ec_setd ?_ | with_reducible refine ec_make ?_ | with_reducible refine ec_disp ?_ | with_reducible refine pc_cons ?_ | with_reducible refine pc_nil ?_ | with_reducible refine gc_sub ?_ | with_reducible refine sc_asgG ?_
  | with_reducible refine ⟨_, rfl, ?_⟩ | refine iteT ?_ | refine iteF ?_ | dsimp only )

/-! ### lists of bids -/
abbrev cB (K : PySem.W.Frag) : Addr := He.ga K "Bids"
abbrev cG (K : PySem.W.Frag) : Addr := He.ga K "Gap"
abbrev fsB (k : Nat) (R : List Row) : List (Str × D) := [("kinds", .int k), ("rows", .tup (R.map rowD))]
def bidsD (K : PySem.W.Frag) (k : Nat) (R : List Row) : D := .ins (cB K) (fsB k R)
def RowOk (k : Nat) (r : Row) : Prop := r.2.length = k ∧ KeyOk r.2
def rawOf (r : Row) : Raw := (r.1, r.2.map fun q => (ratD q, q))
theorem rawOf_fst (r : Row) : (rawOf r).2.map (·.1) = r.2.map ratD := by
  unfold rawOf
  rw [List.map_map]
  rfl
theorem rawOf_ok {k : Nat} {r : Row} (h : RowOk k r) : NumsOk (rawOf r).2 ∧ (rawOf r).2.length = k := by
  obtain ⟨h1, h2, h3⟩ := h
  refine ⟨⟨by unfold rawOf; rw [List.length_map]; exact h2, fun z hz => ?_⟩, by unfold rawOf; rw [List.length_map]; exact h1⟩
  obtain ⟨q, hq, rfl⟩ := List.mem_map.mp hz
  obtain ⟨a, b, c, d⟩ := h3 q hq
  exact ⟨.tup _ _ c, a, b, d⟩
def RowsIn (k : Nat) (y : D) (rs : List (D × Raw)) : Prop := SeqOf y (rs.map (·.1)) ∧ rs.length ≤ 1000 ∧ ∀ z ∈ rs, IsRaw z.1 z.2 ∧ NumsOk z.2.2 ∧ z.2.2.length = k
def W_Bids___init__ (K : PySem.W.Frag) (ds : List D) (O : Ow) (Φ : Cd) : Prop := ∃ (x : Addr) (k : Nat) (y : D) (rs : List (D × Raw)) (O0 : Ow), ds = [.adr x, .int k, y] ∧ (1 ≤ k ∧ k ≤ 3) ∧ RowsIn k y rs ∧ O = (x, oIns (cB K) []) :: O0 ∧
  ∀ R : List Row, R.Perm (plainR (rs.map (·.2))) → Φ .non ((x, oIns (cB K) (fsB k R)) :: O0)
theorem sc_Bids___init__ : FnScope ["self", "kinds", "rows", "row"] ["self", "kinds", "rows"] (defScope s_Bids___init__) := ⟨rfl, rfl, rfl, by decide +kernel, rfl, by decide +kernel, by decide +kernel⟩
theorem kn_Bids___init__ {P : Program} {w : World} {K : PySem.W.Frag} {mg : Str → Option Value} {base : Heap} (T : Txt K mg) : KnC P w K mg base "Bids" (He.ga K "Bids") 6 ["self", "kinds", "rows"] (spW (W_Bids___init__ K)) := by
  have S := sc_Bids___init__
  have k_need_kinds_bids := kn_need_kinds_bids (P := P) (w := w) (base := base) T
  have k_is_bid := kn_is_bid (P := P) (w := w) (base := base) T
  have k_plain_rows := kn_plain_rows (P := P) (w := w) (base := base) T
  refine knc_mk T.d_Bids___init__ T.g_Bids T.mk_Bids S (fun _ _ _ _ _ _ us hl => match us, hl with | [_, _, _], _ => rfl) (fun ds O Φ h => ?_) (fun cdv A outer s H E hr => ?_)
  · obtain ⟨x, n, y, rs, O0, rfl, ⟨h1, h3⟩, ⟨hy, hn, hr⟩, rfl, k⟩ := h
    rfl
  have hu := hu_of hr
  have hu64 := hr.units
  have hu9 := hu9_of hr
  refine ⟨_, (pss_cons (ps_expr (pe_kn k_need_kinds_bids hr (by decide) (pa_cons (pv 1) pa_nil)))
        (pss_cons (ps_for PassesOwn.never rfl (pi_or (pi_listK (K := K) rfl (pv 2)) (pi_tupK (K := K) rfl (pv 2))) (pg_name (i := 3) S.nd rfl (Or.inl rfl)) (pss_one (ps_if (pt_not (pt_val (pe_kn k_is_bid hr (by decide) (pa_cons (pv 3) (pa_cons (pv 1) pa_nil))))) (pss_one ps_never) pss_nil)))
        (pss_cons (ps_fld (pv 0) (pv 1) rfl)
        (pss_one (ps_fld (pv 0) (pe_kn k_plain_rows hr (by decide) (pa_cons (pv 2) pa_nil)) rfl))))), fun ds O Φ h => ?_⟩
  obtain ⟨x, n, y, rs, O0, rfl, ⟨h1, h3⟩, ⟨hy, hn, hr⟩, rfl, k⟩ := h
  repeat walk_at "g"
  refine ⟨(n : Int), rfl, by omega, by omega, ?_⟩
  repeat walk_at "g"
  refine sc_for (ic_seq hy (ec_var rfl ⟨rfl, fun i τ O' => O' = (x, oIns (cB K) []) :: O0 ∧ ∃ x3, τ = [some (.adr x), some (.int n), some y, x3], ⟨rfl, _, rfl⟩, fun _ _ _ _ => trivial, ?_, ?_⟩))
  · rintro i d τ O1 hd ⟨rfl, x3, rfl⟩
    obtain ⟨z, hz, rfl⟩ := map_get hd
    obtain ⟨a, b, c⟩ := hr z (List.mem_of_getElem? hz)
    refine ⟨_, _, gc_name, ?_⟩
    repeat walk_at "g"
    refine ⟨z.1, z.2, by rw [c], a, b, ?_⟩
    repeat walk_at "g"
    exact ⟨rfl, _, rfl⟩
  · rintro τ O1 ⟨rfl, x3, rfl⟩
    repeat walk_at "g"
    refine sc_fldS T.cls_Bids T.na_Bids_kinds ?_
    repeat walk_at "g"
    refine ⟨0, x, _, rfl, rfl, (by show _ < 1000; first | exact (by decide : 0 < 1000) | exact (by decide : 1 < 1000)), ?_⟩
    repeat walk_at "g"
    refine sc_fldS T.cls_Bids T.na_Bids_rows ?_
    repeat walk_at "g"
    refine ⟨y, rs, rfl, hy, hn, fun z hz => ⟨(hr z hz).1, (hr z hz).2.1⟩, fun R hR => ?_⟩
    repeat walk_at "g"
    refine ⟨0, x, _, rfl, rfl, (by show _ < 1000; first | exact (by decide : 0 < 1000) | exact (by decide : 1 < 1000)), ?_⟩
    exact k R hR
def W_Bids___neg__ (K : PySem.W.Frag) (ds : List D) (O : Ow) (Φ : Cd) : Prop := ∃ (k : Nat) (R : List Row), ds = [bidsD K k R] ∧ (1 ≤ k ∧ k ≤ 3) ∧ R.length ≤ 1000 ∧ (∀ r ∈ R, RowOk k r) ∧ ∀ R' : List Row, R'.Perm (plainR (R.map fun r => rawOf (-r.1, r.2))) → Φ (bidsD K k R') O
theorem sc_Bids___neg__ : FnScope ["self", "weight", "numbers"] ["self"] (defScope s_Bids___neg__) := ⟨rfl, rfl, rfl, by decide +kernel, rfl, by decide +kernel, by decide +kernel⟩
theorem kn_Bids___neg__ {P : Program} {w : World} {K : PySem.W.Frag} {mg : Str → Option Value} {base : Heap} (T : Txt K mg) : KnM P w K mg base (He.ga K "Bids") "__neg__" 8 ["self"] (spW (W_Bids___neg__ K)) := by
  have S := sc_Bids___neg__
  have k_Bids := kn_Bids___init__ (P := P) (w := w) (base := base) T
  refine knm_mk T.d_Bids___neg__ T.me_Bids__neg__ S (fun _ _ _ _ _ _ us hl => match us, hl with | [_], _ => rfl) (fun ds O Φ h => ?_) (fun cdv A outer s H E hr => ?_)
  · obtain ⟨n, R, rfl, h13, hn, hr, k⟩ := h
    rfl
  have hu := hu_of hr
  have hu64 := hr.units
  have hu9 := hu9_of hr
  refine ⟨_, (pss_one (ps_ret (pe_mk k_Bids hr (by decide) (pa_cons (pe_fldK (K := K) rfl (pv 0) rfl) (pa_cons (pe_lc (own := [("weight", 1), ("numbers", 2)]) rfl S.nd (pi_tupK (K := K) rfl (pe_fldK (K := K) rfl (pv 0) rfl)) (blkOk_by (own := [("weight", 1), ("numbers", 2)]) (by kernel_rfl)) (fun _ _ _ _ _ => (pg_tupK (K := K) (n := 2) rfl rfl (pgs_cons (pg_name (i := 1) S.nd rfl (by first | exact Or.inl rfl | exact Or.inr rfl)) (pgs_cons (pg_name (i := 2) S.nd rfl (by first | exact Or.inl rfl | exact Or.inr rfl)) pgs_nil)))) (fun _ _ _ _ _ => pts_nil) (fun _ _ _ _ _ => (pe_tup (pa_cons (pe_un un_neg (pv 1)) (pa_cons (pv 2) pa_nil))))) pa_nil))))), fun ds O Φ h => ?_⟩
  obtain ⟨n, R, rfl, h13, hn, hr, k⟩ := h
  repeat walk_at "g"
  refine ec_fld T.cls_Bids T.na_Bids_kinds ?_
  repeat walk_at "g"
  refine ⟨_, _, rfl, rfl, ?_⟩
  repeat walk_at "g"
  refine ec_lcp R rowD (fun _ => true) (fun r => .tup [.int (-r.1), keyD r.2]) (ic_tup ?_) (sz_ok (by omega)) (fun r hm => ?_) (.inl ?_)
  · refine ec_fld T.cls_Bids T.na_Bids_rows ?_
    repeat walk_at "g"
    exact ⟨_, _, rfl, rfl, _, rfl, rfl, rfl, trivial⟩
  · refine ⟨_, _, ?_, gc_tup (gcs_cons (gcs_cons gcs_nil)) rfl, tc_yes ⟨rfl, rfl, fun _ => ?_⟩⟩
    · decide
    repeat walk_at "g"
    exact ⟨by show 2 ≤ sizeLine; decide, rfl, rfl⟩
  repeat walk_at "g"
  refine fun x => ⟨x, n, _, R.map fun r => (.tup [.int (-r.1), keyD r.2], rawOf (-r.1, r.2)), O, rfl, h13, ⟨.inr ?_, by rw [List.length_map]; exact hn, fun z hz => ?_⟩, rfl, fun R' hR' => ?_⟩
  · rw [filter_yes, List.map_map]
    rfl
  · obtain ⟨r, hm, rfl⟩ := List.mem_map.mp hz
    have ok := rawOf_ok (r := (-r.1, r.2)) (hr r hm)
    exact ⟨⟨keyD r.2, by rw [rawOf_fst]; exact .inl rfl, .inl rfl⟩, ok.1, ok.2⟩
  · rw [List.map_map] at hR'
    exact ⟨rfl, _, _, rfl, k R' hR'⟩
def W_Bids___add__ (K : PySem.W.Frag) (ds : List D) (O : Ow) (Φ : Cd) : Prop := ∃ (k : Nat) (R S : List Row), ds = [bidsD K k R, bidsD K k S] ∧ (1 ≤ k ∧ k ≤ 3) ∧ R.length + S.length ≤ 1000 ∧ (∀ r ∈ R, RowOk k r) ∧ (∀ r ∈ S, RowOk k r) ∧ ∀ R' : List Row, R'.Perm (plainR ((R ++ S).map rawOf)) → Φ (bidsD K k R') O
theorem sc_Bids___add__ : FnScope ["self", "other"] ["self", "other"] (defScope s_Bids___add__) := ⟨rfl, rfl, rfl, by decide +kernel, rfl, by decide +kernel, by decide +kernel⟩
theorem kn_Bids___add__ {P : Program} {w : World} {K : PySem.W.Frag} {mg : Str → Option Value} {base : Heap} (T : Txt K mg) : KnM P w K mg base (He.ga K "Bids") "__add__" 8 ["self", "other"] (spW (W_Bids___add__ K)) := by
  have S := sc_Bids___add__
  have k_Bids := kn_Bids___init__ (P := P) (w := w) (base := base) T
  refine knm_mk T.d_Bids___add__ T.me_Bids__add__ S (fun _ _ _ _ _ _ us hl => match us, hl with | [_, _], _ => rfl) (fun ds O Φ h => ?_) (fun cdv A outer s H E hr => ?_)
  · obtain ⟨n, R, S2, rfl, h13, hn, hr, hs, k⟩ := h
    rfl
  have hu := hu_of hr
  have hu64 := hr.units
  have hu9 := hu9_of hr
  refine ⟨_, (pss_cons (ps_if (pt_cmpR op_ne (pe_fldK (K := K) rfl (pv 0) rfl) (pe_fldK (K := K) rfl (pv 1) rfl) (nomark _)) (pss_one ps_never) pss_nil)
        (pss_one (ps_ret (pe_mk k_Bids hr (by decide) (pa_cons (pe_fldK (K := K) rfl (pv 0) rfl) (pa_cons (pe_op (op_catK (K := K) rfl) (pe_fldK (K := K) rfl (pv 0) rfl) (pe_fldK (K := K) rfl (pv 1) rfl)) pa_nil)))))), fun ds O Φ h => ?_⟩
  obtain ⟨n, R, S2, rfl, h13, hn, hr, hs, k⟩ := h
  repeat walk_at "g"
  refine ec_fld T.cls_Bids T.na_Bids_kinds ?_
  repeat walk_at "g"
  refine ⟨_, _, rfl, rfl, ?_⟩
  repeat walk_at "g"
  refine ec_fld T.cls_Bids T.na_Bids_kinds ?_
  repeat walk_at "g"
  refine ⟨_, _, rfl, rfl, ?_⟩
  repeat walk_at "g"
  rw [decide_eq_true rfl]
  repeat walk_at "g"
  refine ec_fld T.cls_Bids T.na_Bids_kinds ?_
  repeat walk_at "g"
  refine ⟨_, _, rfl, rfl, ?_⟩
  repeat walk_at "g"
  refine ec_fld T.cls_Bids T.na_Bids_rows ?_
  repeat walk_at "g"
  refine ⟨_, _, rfl, rfl, ?_⟩
  repeat walk_at "g"
  refine ec_fld T.cls_Bids T.na_Bids_rows ?_
  repeat walk_at "g"
  refine ⟨_, _, rfl, rfl, ?_⟩
  refine rc_catT (sz_ok (by rw [List.length_map, List.length_map]; omega)) ?_
  repeat walk_at "g"
  rw [← List.map_append]
  refine fun x => ⟨x, n, _, (R ++ S2).map fun r => (rowD r, rawOf r), O, rfl, h13, ⟨.inl ?_, by rw [List.length_map, List.length_append]; exact hn, fun z hz => ?_⟩, rfl, fun R' hR' => ?_⟩
  · rw [List.map_map]
    rfl
  · obtain ⟨r, hm, rfl⟩ := List.mem_map.mp hz
    have ok := rawOf_ok (r := r) (k := n) (by
      rcases List.mem_append.mp hm with h | h
      · exact hr r h
      · exact hs r h)
    exact ⟨⟨keyD r.2, by rw [rawOf_fst]; exact .inl rfl, .inl rfl⟩, ok.1, ok.2⟩
  · rw [List.map_map] at hR'
    exact ⟨rfl, _, _, rfl, k R' hR'⟩
def gapD (K : PySem.W.Frag) (g : Int × Int) (p : List (Int × Int)) : D := .ins (cG K) [("gap", ratD g), ("prices", .tup (p.map ratD))]
def W_Gap___init__ (K : PySem.W.Frag) (ds : List D) (O : Ow) (Φ : Cd) : Prop := ∃ (x : Addr) (g : Int × Int) (p : List (Int × Int)) (O0 : Ow), ds = [.adr x, ratD g, .tup (p.map ratD)] ∧ O = (x, oIns (cG K) []) :: O0 ∧ Φ .non ((x, oIns (cG K) [("gap", ratD g), ("prices", .tup (p.map ratD))]) :: O0)
theorem sc_Gap___init__ : FnScope ["self", "gap", "prices"] ["self", "gap", "prices"] (defScope s_Gap___init__) := ⟨rfl, rfl, rfl, by decide +kernel, rfl, by decide +kernel, by decide +kernel⟩
theorem kn_Gap___init__ {P : Program} {w : World} {K : PySem.W.Frag} {mg : Str → Option Value} {base : Heap} (T : Txt K mg) : KnC P w K mg base "Gap" (He.ga K "Gap") 1 ["self", "gap", "prices"] (spW (W_Gap___init__ K)) := by
  have S := sc_Gap___init__
  refine knc_mk T.d_Gap___init__ T.g_Gap T.mk_Gap S (fun _ _ _ _ _ _ us hl => match us, hl with | [_, _, _], _ => rfl) (fun ds O Φ h => ?_) (fun cdv A outer s H E hr => ?_)
  · obtain ⟨x, g, p, O0, rfl, rfl, k⟩ := h
    rfl
  have hu := hu_of hr
  have hu64 := hr.units
  have hu9 := hu9_of hr
  refine ⟨_, (pss_cons (ps_fld (pv 0) (pv 1) rfl)
        (pss_one (ps_fld (pv 0) (pe_callTy (call_tupK (K := K) rfl) (by rfl) T.f_tuple (by decide +kernel) (pa_cons (pv 2) pa_nil)) rfl))), fun ds O Φ h => ?_⟩
  obtain ⟨x, g, p, O0, rfl, rfl, k⟩ := h
  refine sc_seq ?_
  refine sc_fldS T.cls_Gap T.na_Gap_gap ?_
  repeat walk_at "g"
  refine ⟨0, x, _, rfl, rfl, (by show _ < 1000; first | exact (by decide : 0 < 1000) | exact (by decide : 1 < 1000)), ?_⟩
  repeat walk_at "g"
  refine sc_fldS T.cls_Gap T.na_Gap_prices ?_
  repeat walk_at "g"
  refine ⟨0, x, _, rfl, rfl, (by show _ < 1000; first | exact (by decide : 0 < 1000) | exact (by decide : 1 < 1000)), ?_⟩
  exact k
def W_need_kinds_likeness (K : PySem.W.Frag) (ds : List D) (O : Ow) (Φ : Cd) : Prop := ∃ (k : Nat) (R S : List Row), ds = [bidsD K k R, bidsD K k S] ∧ Φ .non O
theorem sc_need_kinds_likeness : FnScope ["one", "other"] ["one", "other"] (defScope s_need_kinds_likeness) := ⟨rfl, rfl, rfl, by decide +kernel, rfl, by decide +kernel, by decide +kernel⟩
theorem kn_need_kinds_likeness {P : Program} {w : World} {K : PySem.W.Frag} {mg : Str → Option Value} {base : Heap} (T : Txt K mg) : Kn P w K mg base "need_kinds_likeness" 1 ["one", "other"] (spW (W_need_kinds_likeness K)) := by
  have S := sc_need_kinds_likeness
  refine kn_mk T.d_need_kinds_likeness T.g_need_kinds_likeness S (fun _ _ _ _ _ _ us hl => match us, hl with | [_, _], _ => rfl) (fun ds O Φ h => ?_) (fun cdv A outer s H E hr => ?_)
  · obtain ⟨n, R, S2, rfl, k⟩ := h
    rfl
  have hu := hu_of hr
  have hu64 := hr.units
  have hu9 := hu9_of hr
  refine ⟨_, (pss_one (ps_if (pt_cmpR op_ne (pe_fldK (K := K) rfl (pv 0) rfl) (pe_fldK (K := K) rfl (pv 1) rfl) (nomark _)) (pss_one ps_never) pss_nil)), fun ds O Φ h => ?_⟩
  obtain ⟨n, R, S2, rfl, k⟩ := h
  repeat walk_at "g"
  refine ec_fld T.cls_Bids T.na_Bids_kinds ?_
  repeat walk_at "g"
  refine ⟨_, _, rfl, rfl, ?_⟩
  repeat walk_at "g"
  refine ec_fld T.cls_Bids T.na_Bids_kinds ?_
  repeat walk_at "g"
  refine ⟨_, _, rfl, rfl, ?_⟩
  repeat walk_at "g"
  rw [decide_eq_true rfl]
  repeat walk_at "g"
  exact k
end Ab

/-! ## AbM -/
set_option Elab.async false
set_option linter.all false
set_option maxRecDepth 100000
set_option maxHeartbeats 1000000
/-! what the stops of some rows are: plain lists -/
namespace Ab
open PySem L2
theorem nodup_len {α : Type} [DecidableEq α] : ∀ {xs ys : List α}, xs.Nodup → (∀ x ∈ xs, x ∈ ys) → xs.length ≤ ys.length
  | [], _, _, _ => Nat.zero_le _
  | x :: xs, ys, nd, h => by
    obtain ⟨n1, n2⟩ := List.nodup_cons.mp nd
    have hx := h x List.mem_cons_self
    have ih := nodup_len (xs := xs) (ys := ys.erase x) n2 fun y hy => by
      have ne : y ≠ x := fun e => n1 (e ▸ hy)
      exact (List.mem_erase_of_ne ne).mpr (h y (List.mem_cons_of_mem _ hy))
    rw [List.length_erase_of_mem hx] at ih
    have : 0 < ys.length := List.length_pos_of_mem hx
    rw [List.length_cons]
    omega
def tk (x : Int) : L2.Key × D := (.inl x, .bl true)
def insI (ns : List Int) (x : Int) : List Int := if x ∈ ns then ns else ns ++ [x]
theorem mem_insI {ns : List Int} {x y : Int} : y ∈ insI ns x ↔ y = x ∨ y ∈ ns := by
  unfold insI
  split
  · rename_i h
    refine ⟨.inr, fun z => ?_⟩
    rcases z with rfl | z
    · exact h
    · exact z
  · rw [List.mem_append, List.mem_singleton]
    exact Or.comm
theorem nodup_insI {ns : List Int} {x : Int} (h : ns.Nodup) : (insI ns x).Nodup := by
  unfold insI
  split
  · exact h
  · rename_i hn
    refine List.nodup_append.mpr ⟨h, by simp, fun a ha b hb => ?_⟩
    rw [List.mem_singleton.mp hb]
    exact fun e => hn (e ▸ ha)
theorem valG_tk (ns : List Int) (x : Int) : valG (ns.map tk) (.inl x) = if x ∈ ns then some (.bl true) else none := by
  induction ns with
  | nil => rfl
  | cons n r ih =>
    rw [List.map_cons]
    by_cases e : n = x
    · rw [valG_hit (p := tk n) (congrArg Sum.inl e), if_pos (by rw [e]; exact List.mem_cons_self)]
      rfl
    · rw [valG_miss (p := tk n) fun z => e (Sum.inl.inj z), ih]
      by_cases h : x ∈ r
      · rw [if_pos h, if_pos (List.mem_cons_of_mem _ h)]
      · rw [if_neg h, if_neg fun z => (List.mem_cons.mp z).elim (fun z => e z.symm) h]
theorem putG_tk (ns : List Int) (x : Int) : putG (ns.map tk) (.inl x) (.bl true) = (insI ns x).map tk := by
  unfold putG insI
  rw [valG_tk]
  by_cases h : x ∈ ns
  · rw [if_pos h, if_pos h]
    show List.map (fun kv => if kv.1 = Sum.inl x then (kv.1, D.bl true) else kv) (List.map tk ns) = List.map tk ns
    rw [List.map_map]
    refine List.map_congr_left fun n _ => ?_
    show (if (tk n).1 = .inl x then ((tk n).1, D.bl true) else tk n) = tk n
    split <;> rfl
  · rw [if_neg h, if_neg h, if_neg (by decide), List.map_append]
    rfl
theorem get_mid {α : Type} (xs : List α) (x : α) (ys : List α) : (xs ++ x :: ys)[xs.length]? = some x := by
  rw [List.getElem?_append_right (Nat.le_refl _), Nat.sub_self]
  rfl
theorem set_mid {α : Type} (xs : List α) (x y : α) (ys : List α) : (xs ++ x :: ys).set xs.length y = xs ++ y :: ys := by
  rw [List.set_append_right _ _ (Nat.le_refl _), Nat.sub_self]
  rfl
theorem split_at {α : Type} {xs : List α} {i : Nat} {x : α} (h : xs[i]? = some x) : ∃ as bs, xs = as ++ x :: bs ∧ as.length = i := by
  obtain ⟨hl, e⟩ := List.getElem?_eq_some_iff.mp h
  refine ⟨xs.take i, xs.drop (i + 1), ?_, by rw [List.length_take]; omega⟩
  rw [← e, List.getElem_cons_drop, List.take_append_drop]
abbrev EnL := List (Addr × List Int)
abbrev GpL := List ((Nat × Nat) × Addr × List Int)
def pairK (p : Nat × Nat) : List L2.Key := [.inl (p.1 : Int), .inl (p.2 : Int)]
theorem pairK_inj {p q : Nat × Nat} (h : pairK p = pairK q) : p = q := by
  unfold pairK at h
  injection h with h1 h2
  injection h2 with h2 _
  have a : (p.1 : Int) = q.1 := Sum.inl.inj h1
  have b : (p.2 : Int) = q.2 := Sum.inl.inj h2
  exact Prod.ext (by omega) (by omega)
structure StI (pe : Nat → Int → Prop) (pg : Nat → Nat → Int → Prop) (E : EnL) (G : GpL) : Prop where
  e : ∀ c a ns, E[c]? = some (a, ns) → ns.Nodup ∧ ∀ x, x ∈ ns ↔ x = 0 ∨ pe c x
  gn : (G.map (·.1)).Nodup
  g : ∀ p a ns, (p, a, ns) ∈ G → ns.Nodup ∧ ∀ x, x ∈ ns ↔ pg p.1 p.2 x
  gg : ∀ i j x, pg i j x → ∃ a ns, ((i, j), a, ns) ∈ G
theorem StI.congr {pe pe' : Nat → Int → Prop} {pg pg' : Nat → Nat → Int → Prop} {E : EnL} {G : GpL} (h : StI pe pg E G) (h1 : ∀ c x, c < E.length → (pe c x ↔ pe' c x)) (h2 : ∀ i j x, pg i j x ↔ pg' i j x) : StI pe' pg' E G :=
  ⟨fun c a ns hc => let ⟨n, m⟩ := h.e c a ns hc; ⟨n, fun x => (m x).trans (or_congr Iff.rfl (h1 c x (List.getElem?_eq_some_iff.mp hc).1))⟩, h.gn, fun p a ns hp => let ⟨n, m⟩ := h.g p a ns hp; ⟨n, fun x => (m x).trans (h2 _ _ x)⟩, fun i j x hx => h.gg i j x ((h2 i j x).mpr hx)⟩
theorem StI.addE {pe : Nat → Int → Prop} {pg : Nat → Nat → Int → Prop} {E1 E2 : EnL} {a : Addr} {ns : List Int} {G : GpL} (h : StI pe pg (E1 ++ (a, ns) :: E2) G) (x : Int) : StI (fun c y => pe c y ∨ (c = E1.length ∧ y = x)) pg (E1 ++ (a, insI ns x) :: E2) G := by
  refine ⟨fun c b ms hc => ?_, h.gn, h.g, h.gg⟩
  by_cases e : c = E1.length
  · subst e
    rw [get_mid] at hc
    obtain ⟨rfl, rfl⟩ := Prod.mk.inj (Option.some.inj hc)
    obtain ⟨n, m⟩ := h.e E1.length a ns (get_mid _ _ _)
    refine ⟨nodup_insI n, fun y => ?_⟩
    rw [mem_insI, m y]
    constructor
    · rintro (z | z | z)
      · exact .inr (.inr ⟨rfl, z⟩)
      · exact .inl z
      · exact .inr (.inl z)
    · rintro (z | z | ⟨_, z⟩)
      · exact .inr (.inl z)
      · exact .inr (.inr z)
      · exact .inl z
  · have hc2 : (E1 ++ (a, ns) :: E2)[c]? = some (b, ms) := by
      rw [← hc]
      by_cases l : c < E1.length
      · rw [List.getElem?_append_left l, List.getElem?_append_left l]
      · rw [List.getElem?_append_right (by omega), List.getElem?_append_right (by omega)]
        obtain ⟨d, hd⟩ : ∃ d, c - E1.length = d + 1 := ⟨c - E1.length - 1, by omega⟩
        rw [hd]
        rfl
    obtain ⟨n, m⟩ := h.e c b ms hc2
    refine ⟨n, fun y => (m y).trans (or_congr Iff.rfl ⟨.inl, fun z => ?_⟩)⟩
    rcases z with z | ⟨z, _⟩
    · exact z
    · exact absurd z e
theorem StI.addG {pe : Nat → Int → Prop} {pg : Nat → Nat → Int → Prop} {E : EnL} {G1 G2 : GpL} {p : Nat × Nat} {a : Addr} {ns : List Int} (h : StI pe pg E (G1 ++ (p, a, ns) :: G2)) (x : Int) : StI pe (fun i j y => pg i j y ∨ ((i, j) = p ∧ y = x)) E (G1 ++ (p, a, insI ns x) :: G2) := by
  have gn : ((G1 ++ (p, a, insI ns x) :: G2).map (·.1)).Nodup := by
    have := h.gn
    rw [List.map_append, List.map_cons] at this ⊢
    exact this
  have uniq : ∀ q b ms, (q, b, ms) ∈ G1 ∨ (q, b, ms) ∈ G2 → q ≠ p := fun q b ms hq e => by
    have := h.gn
    rw [List.map_append, List.map_cons] at this
    obtain ⟨n1, n2, n3⟩ := List.nodup_append.mp this
    rcases hq with hq | hq
    · exact n3 q (List.mem_map_of_mem hq) p List.mem_cons_self e
    · have := List.mem_map_of_mem (f := fun t : (Nat × Nat) × Addr × List Int => t.1) hq
      rw [show (q, b, ms).1 = p from e] at this
      exact (List.nodup_cons.mp n2).1 this
  refine ⟨h.e, gn, fun q b ms hq => ?_, fun i j y hy => ?_⟩
  · rcases List.mem_append.mp hq with hq | hq
    · obtain ⟨n, m⟩ := h.g q b ms (List.mem_append.mpr (.inl hq))
      exact ⟨n, fun y => (m y).trans ⟨.inl, fun z => z.elim id fun z => absurd z.1 (uniq q b ms (.inl hq))⟩⟩
    · rcases List.mem_cons.mp hq with hq | hq
      · cases hq
        obtain ⟨n, m⟩ := h.g p a ns (List.mem_append.mpr (.inr List.mem_cons_self))
        refine ⟨nodup_insI n, fun y => ?_⟩
        rw [mem_insI, m y]
        constructor
        · rintro (z | z)
          · exact .inr ⟨rfl, z⟩
          · exact .inl z
        · rintro (z | ⟨_, z⟩)
          · exact .inr z
          · exact .inl z
      · obtain ⟨n, m⟩ := h.g q b ms (List.mem_append.mpr (.inr (List.mem_cons_of_mem _ hq)))
        exact ⟨n, fun y => (m y).trans ⟨.inl, fun z => z.elim id fun z => absurd z.1 (uniq q b ms (.inr hq))⟩⟩
  · rcases hy with hy | ⟨e, rfl⟩
    · obtain ⟨b, ms, hb⟩ := h.gg i j y hy
      rcases List.mem_append.mp hb with hb | hb
      · exact ⟨b, ms, List.mem_append.mpr (.inl hb)⟩
      · rcases List.mem_cons.mp hb with hb | hb
        · cases hb
          exact ⟨_, _, List.mem_append.mpr (.inr List.mem_cons_self)⟩
        · exact ⟨b, ms, List.mem_append.mpr (.inr (List.mem_cons_of_mem _ hb))⟩
    · exact ⟨a, _, by rw [e]; exact List.mem_append.mpr (.inr List.mem_cons_self)⟩
theorem StI.newG {pe : Nat → Int → Prop} {pg : Nat → Nat → Int → Prop} {E : EnL} {G : GpL} {p : Nat × Nat} {a : Addr} (h : StI pe pg E G) (hn : p ∉ G.map (·.1)) (x : Int) : StI pe (fun i j y => pg i j y ∨ ((i, j) = p ∧ y = x)) E (G ++ [(p, a, [x])]) := by
  refine ⟨h.e, ?_, fun q b ms hq => ?_, fun i j y hy => ?_⟩
  · rw [List.map_append]
    refine List.nodup_append.mpr ⟨h.gn, by simp, fun u hu v hv => ?_⟩
    rw [show v = p from by simpa using hv]
    exact fun e => hn (e ▸ hu)
  · rcases List.mem_append.mp hq with hq | hq
    · obtain ⟨n, m⟩ := h.g q b ms hq
      exact ⟨n, fun y => (m y).trans ⟨.inl, fun z => z.elim id fun z => absurd (z.1 ▸ List.mem_map_of_mem (f := (·.1)) hq) hn⟩⟩
    · have e := List.mem_singleton.mp hq
      cases e
      refine ⟨by simp, fun y => ?_⟩
      rw [List.mem_singleton]
      refine ⟨fun z => .inr ⟨rfl, z⟩, fun z => ?_⟩
      rcases z with z | z
      · obtain ⟨b, ms, hb⟩ := h.gg _ _ y z
        exact absurd (List.mem_map_of_mem (f := (·.1)) hb) hn
      · exact z.2
  · rcases hy with hy | ⟨e, rfl⟩
    · obtain ⟨b, ms, hb⟩ := h.gg i j y hy
      exact ⟨b, ms, List.mem_append.mpr (.inl hb)⟩
    · exact ⟨a, _, by rw [e]; exact List.mem_append.mpr (.inr (List.mem_singleton.mpr rfl))⟩
/-! what a gap is -/
def gapAt (r : WRow) (i j : Nat) (x : Int) : Prop := i ≠ j ∧ ∃ u v, r.2[i]? = some u ∧ r.2[j]? = some v ∧ 0 < u ∧ 0 < v ∧ x = u - v
def peF (rows : List WRow) (c : Nat) (x : Int) : Prop := 0 < x ∧ ∃ r ∈ rows, r.2[c]? = some x
def pgF (rows : List WRow) (i j : Nat) (x : Int) : Prop := ∃ r ∈ rows, gapAt r i j x
abbrev GpQ := List ((Nat × Nat) × List Int)
def gapE (e : (Nat × Nat) × List Int) : List L2.Key × D := (pairK e.1, .lst (e.2.map D.int))
structure StopsOk (rows : List WRow) (k : Nat) (E : List (List Int)) (G : GpQ) : Prop where
  len : E.length = k
  e : ∀ c ns, E[c]? = some ns → ns.length ≤ rows.length + 1 ∧ ∀ x, x ∈ ns ↔ x = 0 ∨ peF rows c x
  gn : (G.map (·.1)).Nodup
  g : ∀ p ns, (p, ns) ∈ G → ns.length ≤ rows.length ∧ ∀ x, x ∈ ns ↔ pgF rows p.1 p.2 x
  gg : ∀ i j x, pgF rows i j x → ∃ ns, ((i, j), ns) ∈ G
theorem filterMap_len {α β : Type} {f : α → Option β} : ∀ xs : List α, (xs.filterMap f).length ≤ xs.length
  | [] => Nat.le_refl _
  | x :: xs => by
    have := filterMap_len (f := f) xs
    rw [List.filterMap_cons]
    cases f x with
    | none => exact Nat.le_succ_of_le this
    | some y => exact Nat.succ_le_succ this
theorem StI.stops {rows : List WRow} {E : EnL} {G : GpL} (h : StI (peF rows) (pgF rows) E G) : StopsOk rows E.length (E.map (·.2)) (G.map fun t => (t.1, t.2.2)) := by
  refine ⟨List.length_map _, fun c ns hc => ?_, ?_, fun p ns hp => ?_, fun i j x hx => ?_⟩
  · obtain ⟨⟨a, ms⟩, hm, e⟩ := map_get hc
    have e : ns = ms := e
    subst e
    obtain ⟨n, m⟩ := h.e c a ns hm
    refine ⟨?_, m⟩
    have := nodup_len (ys := 0 :: rows.filterMap fun r => r.2[c]?) n fun x hx => by
      rcases (m x).mp hx with e | ⟨_, r, hr, e⟩
      · rw [e]
        exact List.mem_cons_self
      · exact List.mem_cons_of_mem _ (List.mem_filterMap.mpr ⟨r, hr, e⟩)
    rw [List.length_cons] at this
    exact Nat.le_trans this (Nat.succ_le_succ (filterMap_len rows))
  · rw [List.map_map]
    exact h.gn
  · obtain ⟨⟨q, a, ms⟩, hq, e⟩ := List.mem_map.mp hp
    obtain ⟨e1, e2⟩ := Prod.mk.inj e
    rw [← e1, ← e2]
    obtain ⟨n, m⟩ := h.g q a ms hq
    refine ⟨?_, m⟩
    have := nodup_len (ys := rows.filterMap fun r => match r.2[q.1]?, r.2[q.2]? with | some u, some v => some (u - v) | _, _ => none) n fun x hx => by
      obtain ⟨r, hr, _, u, v, e1, e2, _, _, e3⟩ := (m x).mp hx
      refine List.mem_filterMap.mpr ⟨r, hr, ?_⟩
      rw [e1, e2, e3]
    exact Nat.le_trans this (filterMap_len rows)
  · obtain ⟨a, ms, hm⟩ := h.gg i j x hx
    exact ⟨ms, List.mem_map.mpr ⟨_, hm, rfl⟩⟩
/-! what is ours meanwhile -/
def gO (G : GpL) : Ow := G.reverse.map fun t => (t.2.1, oK (t.2.2.map tk))
def gT (G : GpL) : List (List L2.Key × D) := G.map fun t => (pairK t.1, .adr t.2.1)
def eO (E : EnL) : Ow := E.map fun t => (t.1, oK (t.2.map tk))
def stO (G : GpL) (g : Addr) (E : EnL) (O : Ow) : Ow := gO G ++ (g, oT (gT G)) :: (eO E ++ O)
theorem gO_length (G : GpL) : (gO G).length = G.length := by
  unfold gO
  rw [List.length_map, List.length_reverse]
theorem stO_g (G : GpL) (g : Addr) (E : EnL) (O : Ow) : (stO G g E O)[G.length]? = some (g, oT (gT G)) := by
  have := get_mid (gO G) (g, oT (gT G)) (eO E ++ O)
  rwa [gO_length] at this
theorem stO_e (G : GpL) (g : Addr) (E1 E2 : EnL) (a : Addr) (ns : List Int) (O : Ow) : (stO G g (E1 ++ (a, ns) :: E2) O)[G.length + 1 + E1.length]? = some (a, oK (ns.map tk)) ∧ ∀ ms, (stO G g (E1 ++ (a, ns) :: E2) O).set (G.length + 1 + E1.length) (a, oK (ms.map tk)) = stO G g (E1 ++ (a, ms) :: E2) O := by
  have e : ∀ ms, stO G g (E1 ++ (a, ms) :: E2) O = (gO G ++ (g, oT (gT G)) :: eO E1) ++ (a, oK (ms.map tk)) :: (eO E2 ++ O) := fun ms => by
    unfold stO eO
    simp [List.map_append]
  have l : (gO G ++ (g, oT (gT G)) :: eO E1).length = G.length + 1 + E1.length := by
    unfold eO
    rw [List.length_append, List.length_cons, gO_length, List.length_map]
    omega
  refine ⟨?_, fun ms => ?_⟩
  · rw [e, ← l]
    exact get_mid _ _ _
  · rw [e, e, ← l]
    exact set_mid _ _ _ _
theorem stO_in (G1 G2 : GpL) (p : Nat × Nat) (a : Addr) (ns : List Int) (g : Addr) (E : EnL) (O : Ow) : (stO (G1 ++ (p, a, ns) :: G2) g E O)[G2.length]? = some (a, oK (ns.map tk)) ∧ ∀ ms, (stO (G1 ++ (p, a, ns) :: G2) g E O).set G2.length (a, oK (ms.map tk)) = stO (G1 ++ (p, a, ms) :: G2) g E O := by
  have e : ∀ ms, stO (G1 ++ (p, a, ms) :: G2) g E O = gO G2 ++ (a, oK (ms.map tk)) :: (gO G1 ++ (g, oT (gT (G1 ++ (p, a, ms) :: G2))) :: (eO E ++ O)) := fun ms => by
    unfold stO gO
    simp [List.map_append]
  have t : ∀ ms, gT (G1 ++ (p, a, ms) :: G2) = gT (G1 ++ (p, a, ns) :: G2) := fun ms => by
    unfold gT
    simp
  refine ⟨?_, fun ms => ?_⟩
  · rw [e]
    have := get_mid (gO G2) (a, oK (ns.map tk)) (gO G1 ++ (g, oT (gT (G1 ++ (p, a, ns) :: G2))) :: (eO E ++ O))
    rwa [gO_length] at this
  · rw [e, e, t ms]
    have := set_mid (gO G2) (a, oK (ns.map tk)) (a, oK (ms.map tk)) (gO G1 ++ (g, oT (gT (G1 ++ (p, a, ns) :: G2))) :: (eO E ++ O))
    rwa [gO_length] at this
theorem gT_val (G : GpL) (p : Nat × Nat) : (∃ a ns G1 G2, G = G1 ++ (p, a, ns) :: G2 ∧ valG (gT G) (pairK p) = some (.adr a)) ∨ (p ∉ G.map (·.1) ∧ valG (gT G) (pairK p) = none) := by
  induction G with
  | nil => exact .inr ⟨List.not_mem_nil, rfl⟩
  | cons t r ih =>
    by_cases e : t.1 = p
    · refine .inl ⟨t.2.1, t.2.2, [], r, ?_, valG_hit (p := (pairK t.1, D.adr t.2.1)) (congrArg pairK e)⟩
      rw [← e]
      rfl
    · have v : valG (gT (t :: r)) (pairK p) = valG (gT r) (pairK p) := valG_miss (p := (pairK t.1, D.adr t.2.1)) fun z => e (pairK_inj z)
      rw [v]
      rcases ih with ⟨a, ns, G1, G2, e1, e2⟩ | ⟨h1, h2⟩
      · exact .inl ⟨a, ns, t :: G1, G2, by rw [e1]; rfl, e2⟩
      · exact .inr ⟨fun z => (List.mem_cons.mp z).elim (fun z => e z.symm) h1, h2⟩
theorem rngD_get {lo : Int} {n i : Nat} {x : D} (h : (rngD lo n)[i]? = some x) : i < n ∧ x = .int (lo + (i : Int)) := by
  unfold rngD at h
  obtain ⟨j, hj, rfl⟩ := map_get h
  obtain ⟨hl, e⟩ := List.getElem?_eq_some_iff.mp hj
  rw [List.length_range] at hl
  rw [List.getElem_range] at e
  subst e
  exact ⟨hl, rfl⟩
theorem rngD_len (lo : Int) (n : Nat) : (rngD lo n).length = n := by
  unfold rngD
  rw [List.length_map, List.length_range]
end Ab

/-! ## AbD6 -/
set_option Elab.async false
set_option linter.all false
set_option maxRecDepth 100000
set_option maxHeartbeats 2000000
namespace Ab
open PySem L2
local macro_rules | `(tactic| walk_at "g") => `(tactic| first
  | with_reducible refine sc_seq ?_ | with_reducible refine sc_if ?_ | with_reducible refine sc_ret ?_ | with_reducible refine sc_asg ?_ | with_reducible refine sc_par ?_ | with_reducible refine sc_next ?_
  | ((with_reducible refine ec_var (d := ?dd) ?hv ?_); (case hv => exact rfl)) | with_reducible refine ec_int ?_ | with_reducible refine ec_bl ?_ | with_reducible refine ec_str ?_ | with_reducible refine ec_ty ?_ | with_reducible refine ec_non ?_
  | with_reducible refine ec_op ?_ | with_reducible refine ec_call ?_ | with_reducible refine ec_un ?_ | with_reducible refine ec_cb ?_ | with_reducible refine ec_if ?_ | with_reducible refine ec_andV ?_ | with_reducible refine ec_orV ?_ | with_reducible refine ec_notV ?_
  | with_reducible refine ac_cons ?_ | with_reducible refine ac_nil ?_ | (with_reducible refine ec_tup (ac_cons ?_)) | with_reducible refine ec_tup ?_
  | with_reducible refine tc_test ?_ | with_reducible refine tc_B ?_ | with_reducible refine tc_and ?_ | with_reducible refine tc_or ?_ | with_reducible refine tc_not ?_ | with_reducible refine tc_yes ?_
  | with_reducible refine rc_i0 ?_ | with_reducible refine rc_b0 ?_ | with_reducible refine rc_eqI ?_ | with_reducible refine rc_neI ?_ | with_reducible refine rc_eqS ?_ | with_reducible refine uc_neg ?_
  | with_reducible refine bc_int ?_ | with_reducible refine bc_abs ?_ | with_reducible refine bc_lenL ?_ | with_reducible refine bc_lenT ?_ | with_reducible refine bc_tupL ?_ | with_reducible refine bc_tupT ?_
  | with_reducible refine ec_chain ?_ | with_reducible refine ec_dget ?_ | with_reducible refine ec_dget2 ?_ | with_reducible refine ec_din ?_ | with_reducible refine ec_nget ?_ | with_reducible refine ec_nget2 ?_ | with_reducible refine ec_nnotin ?_ | with_reducible refine ec_app ?_ | with_reducible refine sc_nput ?_ | with_reducible refine sc_drop ?_ | with_reducible refine ec_setd ?_ | with_reducible refine ec_make ?_ | with_reducible refine ec_disp ?_ | with_reducible refine pc_cons ?_ | with_reducible refine pc_nil ?_ | with_reducible refine gc_sub ?_ | with_reducible refine sc_asgG ?_
  | with_reducible refine ⟨_, rfl, ?_⟩ | refine iteT ?_ | refine iteF ?_ | dsimp only )

def peC (rows : List WRow) (i : Nat) (r : WRow) (c : Nat) (d : Nat) (x : Int) : Prop := peF (rows.take i) d x ∨ (d < c ∧ 0 < x ∧ r.2[d]? = some x)
def pgC (rows : List WRow) (i : Nat) (r : WRow) (c : Nat) (a b : Nat) (x : Int) : Prop := pgF (rows.take i) a b x ∨ (a < c ∧ gapAt r a b x)
def pgO (rows : List WRow) (i : Nat) (r : WRow) (c o : Nat) (a b : Nat) (x : Int) : Prop := pgC rows i r c a b x ∨ (a = c ∧ b < o ∧ gapAt r a b x)
theorem peF_snoc {rows : List WRow} {r : WRow} {d : Nat} {x : Int} : peF (rows ++ [r]) d x ↔ peF rows d x ∨ (0 < x ∧ r.2[d]? = some x) := by
  unfold peF
  constructor
  · rintro ⟨h, q, hq, e⟩
    rcases List.mem_append.mp hq with hq | hq
    · exact .inl ⟨h, q, hq, e⟩
    · rw [List.mem_singleton.mp hq] at e
      exact .inr ⟨h, e⟩
  · rintro (⟨h, q, hq, e⟩ | ⟨h, e⟩)
    · exact ⟨h, q, List.mem_append.mpr (.inl hq), e⟩
    · exact ⟨h, r, List.mem_append.mpr (.inr (List.mem_singleton.mpr rfl)), e⟩
theorem pgF_snoc {rows : List WRow} {r : WRow} {a b : Nat} {x : Int} : pgF (rows ++ [r]) a b x ↔ pgF rows a b x ∨ gapAt r a b x := by
  unfold pgF
  constructor
  · rintro ⟨q, hq, e⟩
    rcases List.mem_append.mp hq with hq | hq
    · exact .inl ⟨q, hq, e⟩
    · rw [List.mem_singleton.mp hq] at e
      exact .inr e
  · rintro (⟨q, hq, e⟩ | e)
    · exact ⟨q, List.mem_append.mpr (.inl hq), e⟩
    · exact ⟨r, List.mem_append.mpr (.inr (List.mem_singleton.mpr rfl)), e⟩
theorem adr_same (E1 E2 : EnL) (a : Addr) (ns ms : List Int) : (E1 ++ (a, ns) :: E2).map (fun t => D.adr t.1) = (E1 ++ (a, ms) :: E2).map fun t => D.adr t.1 := by
  rw [List.map_append, List.map_append]
  rfl
theorem lenE {rows : List WRow} {d : Nat} {ns : List Int} (n : ns.Nodup) (h : ∀ x ∈ ns, x = 0 ∨ ∃ r ∈ rows, r.2[d]? = some x) : ns.length ≤ rows.length + 1 := by
  have := nodup_len (ys := 0 :: rows.filterMap fun r => r.2[d]?) n fun x hx => by
    rcases h x hx with e | ⟨r, hr, e⟩
    · rw [e]
      exact List.mem_cons_self
    · exact List.mem_cons_of_mem _ (List.mem_filterMap.mpr ⟨r, hr, e⟩)
  rw [List.length_cons] at this
  exact Nat.le_trans this (Nat.succ_le_succ (filterMap_len rows))
theorem lenG {rows : List WRow} {a b : Nat} {ns : List Int} (n : ns.Nodup) (h : ∀ x ∈ ns, ∃ r ∈ rows, gapAt r a b x) : ns.length ≤ rows.length := by
  have := nodup_len (ys := rows.filterMap fun r => match r.2[a]?, r.2[b]? with | some u, some v => some (u - v) | _, _ => none) n fun x hx => by
    obtain ⟨r, hr, _, u, v, e1, e2, _, _, e3⟩ := h x hx
    refine List.mem_filterMap.mpr ⟨r, hr, ?_⟩
    rw [e1, e2, e3]
  exact Nat.le_trans this (filterMap_len rows)
theorem peC_in {rows : List WRow} {i : Nat} {r : WRow} {c d : Nat} {x : Int} (hr : r ∈ rows) (h : peC rows i r c d x) : ∃ r ∈ rows, r.2[d]? = some x := by
  rcases h with ⟨_, q, hq, e⟩ | ⟨_, _, e⟩
  · exact ⟨q, List.mem_of_mem_take hq, e⟩
  · exact ⟨r, hr, e⟩
theorem pgO_in {rows : List WRow} {i : Nat} {r : WRow} {c o a b : Nat} {x : Int} (hr : r ∈ rows) (h : pgO rows i r c o a b x) : ∃ r ∈ rows, gapAt r a b x := by
  rcases h with (⟨q, hq, e⟩ | ⟨_, e⟩) | ⟨ha, _, e⟩
  · exact ⟨q, List.mem_of_mem_take hq, e⟩
  · exact ⟨r, hr, e⟩
  · exact ⟨r, hr, ha ▸ e⟩
theorem gT_length (G : GpL) : (gT G).length = G.length := List.length_map _
theorem stO_new (G : GpL) (g : Addr) (E : EnL) (O : Ow) (q : Nat × Nat) (p : Addr) (x : Int) (hv : valG (gT G) (pairK q) = none) : (((p, oK []) :: stO G g E O).set (G.length + 1) (g, oT (putG (gT G) (pairK q) (.adr p)))).set 0 (p, oK (putG [] (.inl x) (.bl true))) = stO (G ++ [(q, p, [x])]) g E O := by
  rw [List.set_cons_succ, List.set_cons_zero]
  have e : (stO G g E O).set G.length (g, oT (putG (gT G) (pairK q) (.adr p))) = gO G ++ (g, oT (putG (gT G) (pairK q) (.adr p))) :: (eO E ++ O) := by
    have := set_mid (gO G) (g, oT (gT G)) (g, oT (putG (gT G) (pairK q) (.adr p))) (eO E ++ O)
    rwa [gO_length] at this
  rw [e, putG_new _ hv]
  unfold stO gO gT
  rw [List.reverse_append, List.map_append, List.map_append]
  rfl
def W_stops_of (ds : List D) (O : Ow) (Φ : Cd) : Prop := ∃ (rows : List WRow) (k : Nat), ds = [.lst (rows.map wrowD), .int (k : Int)] ∧ k ≤ 3 ∧ rows.length ≤ 30 ∧ (∀ r ∈ rows, r.2.length = k) ∧
  ∀ (E : List (List Int)) (G : GpQ), StopsOk rows k E G → Φ (.tup [.lst (E.map fun ns => .lst (ns.map D.int)), .dT (G.map gapE)]) O
theorem sc_stops_of : FnScope ["rows", "kinds", "kind", "ends", "gaps", "weight", "numbers", "other", "end", "pair"] ["rows", "kinds"] (defScope s_stops_of) := ⟨rfl, rfl, rfl, by decide +kernel, rfl, by decide +kernel, by decide +kernel⟩
theorem kn_stops_of {P : Program} {w : World} {K : PySem.W.Frag} {mg : Str → Option Value} {base : Heap} (T : Txt K mg) : Kn P w K mg base "stops_of" 1 ["rows", "kinds"] (spW (W_stops_of)) := by
  have S := sc_stops_of
  refine kn_mk T.d_stops_of T.g_stops_of S (fun _ _ _ _ _ _ us hl => match us, hl with | [_, _], _ => rfl) (fun ds O Φ h => ?_) (fun cdv A outer s H E hr => ?_)
  · obtain ⟨rows, k, rfl, hk, hn, hr, fin⟩ := h
    rfl
  have hu := hu_of hr
  have hu64 := hr.units
  have hu9 := hu9_of hr
  refine ⟨_, (pss_cons (ps_asg (pe_tup (pa_cons (pe_lc (own := [("kind", 2)]) rfl S.nd (pi_range1 (by rfl) T.f_range (pa_cons (pv 1) pa_nil)) (blkOk_by (own := [("kind", 2)]) (by kernel_rfl)) (fun _ _ _ _ _ => (pg_name (i := 2) S.nd rfl (by first | exact Or.inl rfl | exact Or.inr rfl))) (fun _ _ _ _ _ => pts_nil) (fun _ _ _ _ _ => (pe_disp (pps_cons pe_int pe_bl pps_nil) (by rfl) (by rfl) (fun z => by cases z) (by decide)))) (pa_cons pe_dnewT pa_nil))) (pg_tupK (K := K) (n := 2) rfl rfl (pgs_cons (pg_name (i := 3) S.nd rfl (Or.inl rfl)) (pgs_cons (pg_name (i := 4) S.nd rfl (Or.inr rfl)) pgs_nil))))
        (pss_cons (ps_for PassesOwn.never rfl (pi_listK (K := K) rfl (pv 0)) (pg_tupK (K := K) (n := 2) rfl rfl (pgs_cons (pg_name (i := 5) S.nd rfl (Or.inl rfl)) (pgs_cons (pg_name (i := 6) S.nd rfl (Or.inl rfl)) pgs_nil))) (pss_one (ps_for PassesOwn.never rfl (pi_range1 (by rfl) T.f_range (pa_cons (pv 1) pa_nil)) (pg_name (i := 2) S.nd rfl (Or.inl rfl)) (pss_one (ps_if (pt_cmpR op_gt (pe_ix (ix_seqK (K := K) rfl) (pv 6) (pv 2) (fun _ _ => rfl)) pe_int (nomark _)) (pss_cons (ps_dput hu (pe_ix (ix_seqK (K := K) rfl) (pv 3) (pv 2) (fun _ _ => rfl)) (pe_ix (ix_seqK (K := K) rfl) (pv 6) (pv 2) (fun _ _ => rfl)) pe_bl rfl)
        (pss_one (ps_for PassesOwn.never rfl (pi_range1 (by rfl) T.f_range (pa_cons (pv 1) pa_nil)) (pg_name (i := 7) S.nd rfl (Or.inl rfl)) (pss_one (ps_if (PW.pt (pw_and (pt_cmpR op_ne (pv 7) (pv 2) (nomark _)) (pw_and1 (pt_cmpR op_gt (pe_ix (ix_seqK (K := K) rfl) (pv 6) (pv 7) (fun _ _ => rfl)) pe_int (nomark _))))) (pss_one (ps_dput hu (pe_bm PySem.F.plainAttrs_dict PySem.F.slot_dict_setdefault PySem.F.type_dict_setdefault (mt_setdT hu) (pv 4) (pa_cons (pe_tup (pa_cons (pv 2) (pa_cons (pv 7) pa_nil))) (pa_cons pe_dnewK pa_nil))) (pe_op op_sub (pe_ix (ix_seqK (K := K) rfl) (pv 6) (pv 2) (fun _ _ => rfl)) (pe_ix (ix_seqK (K := K) rfl) (pv 6) (pv 7) (fun _ _ => rfl))) pe_bl rfl)) pss_nil))))) pss_nil)))))
        (pss_one (ps_ret (pe_tup (pa_cons (pe_lc (own := [("end", 8)]) rfl S.nd (pi_listK (K := K) rfl (pv 3)) (blkOk_by (own := [("end", 8)]) (by kernel_rfl)) (fun _ _ _ _ _ => (pg_name (i := 8) S.nd rfl (by first | exact Or.inl rfl | exact Or.inr rfl))) (fun _ _ _ _ _ => pts_nil) (fun _ _ _ _ _ => (pe_callTy (call_list_dK rfl) (by rfl) T.f_list (by decide +kernel) (pa_cons (pv 8) pa_nil)))) (pa_cons (pe_lock (pe_dcT (own := [("pair", 9)]) hu rfl S.nd (pi_keys (pv 4)) (blkOk_by (own := [("pair", 9)]) (by kernel_rfl)) (fun _ _ _ _ _ => (pg_name (i := 9) S.nd rfl (by first | exact Or.inl rfl | exact Or.inr rfl))) (fun _ _ _ _ _ => pts_nil) (fun _ _ _ _ _ => (pv 9)) (fun _ _ _ _ _ => (pe_callTy (call_list_dK rfl) (by rfl) T.f_list (by decide +kernel) (pa_cons (pe_dget hu (pv 4) (pv 9) (fun _ _ => rfl)) pa_nil))))) pa_nil))))))), fun ds O Φ h => ?_⟩
  obtain ⟨rows, k, rfl, hk, hn, hr, fin⟩ := h
  repeat walk_at "g"
  refine ec_lc (ic_rng1 (ac_cons (ec_var rfl (ac_nil ⟨(k : Int), rfl, by omega, by omega, ?_⟩))))
  rw [Int.toNat_natCast, rngD_len]
  refine ⟨sz_ok (by omega), fun i acc O2 => ∃ E : EnL, E.length = i ∧ (∀ t ∈ E, t.2 = [0]) ∧ acc = E.reverse.map (fun t => .adr t.1) ∧ O2 = eO E ++ O, ⟨[], rfl, fun t ht => absurd ht List.not_mem_nil, rfl, rfl⟩, fun i acc O2 ⟨E, h1, _, h3, _⟩ => ⟨trivial, by rw [h3, List.length_map, List.length_reverse, h1]; exact Nat.le_refl _⟩, ?_, ?_⟩
  · rintro i x acc O2 hx ⟨E, h1, h2, rfl, rfl⟩
    refine ⟨_, _, ?_, gc_name, tc_yes ?_⟩
    · decide
    refine ec_disp (pc_cons (ec_int (ec_bl (pc_nil ⟨[tk 0], rfl, by decide, by decide, .inr fun p => ⟨(p, [0]) :: E, by rw [List.length_cons, h1], fun t ht => ?_, ?_, rfl⟩⟩))))
    · rcases List.mem_cons.mp ht with rfl | ht
      · rfl
      · exact h2 t ht
    · rw [List.reverse_cons, List.map_append]
      rfl
  · rintro acc O2 ⟨E, h1, h2, rfl, rfl⟩
    refine .inl ?_
    repeat walk_at "g"
    refine ec_dnewT fun g => ?_
    repeat walk_at "g"
    refine ⟨by show 2 ≤ sizeLine; decide, _, _, gc_tup (gcs_cons (gcs_cons gcs_nil)) rfl, ?_⟩
    refine sc_permO (O' := stO [] g E.reverse O) ?_ ?_
    · refine List.Perm.cons _ ?_
      unfold eO
      exact ((List.reverse_perm E).map _).append_right O
    have i0 : StI (peF (rows.take 0)) (pgF (rows.take 0)) E.reverse [] := by
      refine ⟨fun c a ns hc => ?_, List.nodup_nil, fun p a ns hp => absurd hp List.not_mem_nil, fun i j x hx => ?_⟩
      · have e := h2 _ (List.mem_reverse.mp (List.mem_of_getElem? hc))
        have e : ns = [0] := e
        subst e
        refine ⟨by simp, fun x => ?_⟩
        rw [List.mem_singleton]
        exact ⟨.inl, fun z => z.elim id fun ⟨_, r, hr, _⟩ => absurd hr (by simp)⟩
      · obtain ⟨r, hr, _⟩ := hx
        exact absurd hr (by simp)
    have hE : E.reverse.length = k := by rw [List.length_reverse, h1]
    generalize E.reverse = E at i0 hE ⊢
    repeat walk_at "g"
    refine sc_for (ic_list (ec_var rfl ⟨_, rfl, fun i τ O' => ∃ E G, O' = stO G g E O ∧ StI (peF (rows.take i)) (pgF (rows.take i)) E G ∧ E.length = k ∧ G.length ≤ 9 * i ∧ ∃ x2 x5 x6 x7, τ = [some (.lst (rows.map wrowD)), some (.int k), x2, some (.lst (E.map fun t => .adr t.1)), some (.adr g), x5, x6, x7, none, none],
      ⟨E, [], rfl, i0, hE, Nat.le_refl _, _, _, _, _, rfl⟩, fun _ _ _ _ => trivial, ?_, ?_⟩))
    · rintro i x τ O1 hx ⟨E, G, rfl, hI, hE, hG, x2, x5, x6, x7, rfl⟩
      obtain ⟨r, hrow, rfl⟩ := map_get hx
      have hrk := hr r (List.mem_of_getElem? hrow)
      have hir := (List.getElem?_eq_some_iff.mp hrow).1
      refine ⟨_, _, gc_tup (gcs_cons (gcs_cons gcs_nil)) rfl, ?_⟩
      refine sc_for (ic_rng1 (ac_cons (ec_var rfl (ac_nil ⟨(k : Int), rfl, by omega, by omega, fun c τ O' => ∃ E G, O' = stO G g E O ∧ StI (peC rows i r c) (pgC rows i r c) E G ∧ E.length = k ∧ G.length ≤ 9 * i + 3 * c ∧ ∃ x2 x7, τ = [some (.lst (rows.map wrowD)), some (.int k), x2, some (.lst (E.map fun t => .adr t.1)), some (.adr g), some (.int r.1), some (.lst (r.2.map D.int)), x7, none, none],
        ⟨E, G, rfl, hI.congr (fun c x _ => ⟨.inl, fun z => z.elim id fun z => absurd z.1 (Nat.not_lt_zero _)⟩) (fun a b x => ⟨.inl, fun z => z.elim id fun z => absurd z.1 (Nat.not_lt_zero _)⟩), hE, by omega, _, _, rfl⟩, fun _ _ _ _ => trivial, ?_, ?_⟩))))
      · rw [Int.toNat_natCast]
        rintro c x τ O1 hx ⟨E, G, rfl, hI, hE, hG, x2, x7, rfl⟩
        obtain ⟨hc, rfl⟩ := rngD_get hx
        rw [Int.zero_add]
        obtain ⟨u, hu⟩ : ∃ u, r.2[c]? = some u := ⟨_, List.getElem?_eq_getElem (by omega)⟩
        have au : atI (r.2.map D.int) (c : Int) = some (.int u) := atI_nat (by rw [List.getElem?_map, hu]; rfl)
        refine ⟨_, _, gc_name, ?_⟩
        repeat walk_at "g"
        refine rc_ixL au ?_
        repeat walk_at "g"
        by_cases hpos : 0 < u
        · rw [decide_eq_true hpos]
          obtain ⟨⟨a, ns⟩, hEc⟩ : ∃ t, E[c]? = some t := ⟨_, List.getElem?_eq_getElem (by omega)⟩
          obtain ⟨E1, E2, e, hl⟩ := split_at hEc
          subst e hl
          have hIe := hI.e _ _ _ hEc
          refine iteT (sc_seq (sc_dputK ?_))
          repeat walk_at "g"
          refine rc_ixL (d := .adr a) (atI_nat (by rw [List.getElem?_map, hEc]; rfl)) ?_
          repeat walk_at "g"
          refine rc_ixL au ?_
          refine ⟨G.length + 1 + E1.length, a, ns.map tk, .inl u, rfl, rfl, (stO_e G g E1 E2 a ns O).1, ?_, ?_⟩
          · rw [List.length_map]
            have := lenE (rows := rows) (d := E1.length) hIe.1 fun x hx => ((hIe.2 x).mp hx).imp id fun z => peC_in (List.mem_of_getElem? hrow) z
            exact Nat.lt_of_lt_of_le (by omega : _ < 2000) (sz_ok (by omega))
          rw [putG_tk, (stO_e G g E1 E2 a ns O).2, adr_same E1 E2 a ns (insI ns u)]
          have hI2 := (hI.addE u).congr (pe' := peC rows i r (E1.length + 1)) (pg' := pgO rows i r E1.length 0) (fun d x _ => by
            constructor
            · rintro ((z | ⟨z1, z2⟩) | ⟨rfl, rfl⟩)
              · exact .inl z
              · exact .inr ⟨by omega, z2⟩
              · exact .inr ⟨by omega, hpos, hu⟩
            · rintro (z | ⟨z1, z2, z3⟩)
              · exact .inl (.inl z)
              · by_cases e : d = E1.length
                · subst e
                  rw [hu] at z3
                  exact .inr ⟨rfl, (Option.some.inj z3).symm⟩
                · exact .inl (.inr ⟨by omega, z2, z3⟩)) (fun a b x => ⟨.inl, fun z => z.elim id fun z => absurd z.2.1 (Nat.not_lt_zero _)⟩)
          have hE2 : (E1 ++ (a, insI ns u) :: E2).length = k := by
            rw [List.length_append, List.length_cons] at hE ⊢
            exact hE
          have hck : E1.length < k := hc
          clear hI hIe hEc
          generalize E1.length = c at hI2 hu au hck hG hx ⊢
          generalize E1 ++ (a, insI ns u) :: E2 = E at hI2 hE2 ⊢
          refine sc_for (ic_rng1 (ac_cons (ec_var rfl (ac_nil ⟨(k : Int), rfl, by omega, by omega, fun o τ O' => ∃ E G, O' = stO G g E O ∧ StI (peC rows i r (c + 1)) (pgO rows i r c o) E G ∧ E.length = k ∧ G.length ≤ 9 * i + 3 * c + o ∧ ∃ x7, τ = [some (.lst (rows.map wrowD)), some (.int k), some (.int c), some (.lst (E.map fun t => .adr t.1)), some (.adr g), some (.int r.1), some (.lst (r.2.map D.int)), x7, none, none],
            ⟨E, G, rfl, hI2, hE2, by omega, _, rfl⟩, fun _ _ _ _ => trivial, ?_, ?_⟩))))
          · rw [Int.toNat_natCast]
            rintro o x τ O1 hx ⟨E, G, rfl, hI, hE, hG, x7, rfl⟩
            obtain ⟨ho, rfl⟩ := rngD_get hx
            rw [Int.zero_add]
            obtain ⟨v, hv⟩ : ∃ v, r.2[o]? = some v := ⟨_, List.getElem?_eq_getElem (by omega)⟩
            have av : atI (r.2.map D.int) (o : Int) = some (.int v) := atI_nat (by rw [List.getElem?_map, hv]; rfl)
            refine ⟨_, _, gc_name, ?_⟩
            repeat walk_at "g"
            by_cases hoc : o = c
            · rw [decide_eq_true (by omega : (o : Int) = c)]
              refine iteF (iteF ?_)
              refine sc_next ⟨E, G, rfl, hI.congr (fun _ _ _ => Iff.rfl) (fun a b x => or_congr Iff.rfl ⟨fun z => ⟨z.1, by omega, z.2.2⟩, fun z => ⟨z.1, ?_, z.2.2⟩⟩), hE, by omega, _, rfl⟩
              have := z.2.2.1
              omega
            · rw [decide_eq_false (by omega : ¬ (o : Int) = c)]
              repeat walk_at "g"
              refine rc_ixL av ?_
              repeat walk_at "g"
              by_cases hvp : 0 < v
              · rw [decide_eq_true hvp]
                have ga : ∀ x, gapAt r c o x ↔ x = u - v := fun x => by
                  constructor
                  · rintro ⟨_, u', v', z1, z2, _, _, z3⟩
                    rw [hu] at z1
                    rw [hv] at z2
                    rw [Option.some.inj z1, Option.some.inj z2]
                    exact z3
                  · rintro rfl
                    exact ⟨fun z => hoc z.symm, u, v, hu, hv, hpos, hvp, rfl⟩
                have nextg : ∀ a b x, (pgO rows i r c o a b x ∨ ((a, b) = (c, o) ∧ x = u - v)) ↔ pgO rows i r c (o + 1) a b x := fun a b x => by
                  constructor
                  · rintro ((z | ⟨z1, z2, z3⟩) | ⟨z1, z2⟩)
                    · exact .inl z
                    · exact .inr ⟨z1, by omega, z3⟩
                    · obtain ⟨rfl, rfl⟩ := Prod.mk.inj z1
                      exact .inr ⟨rfl, by omega, (ga x).mpr z2⟩
                  · rintro (z | ⟨z1, z2, z3⟩)
                    · exact .inl (.inl z)
                    · by_cases e : b = o
                      · subst e z1
                        exact .inr ⟨rfl, (ga x).mp z3⟩
                      · exact .inl (.inr ⟨z1, by omega, z3⟩)
                refine iteT (sc_dputK ?_)
                repeat walk_at "g"
                refine ⟨G.length, g, gT G, rfl, stO_g G g E O, ?_⟩
                repeat walk_at "g"
                refine ⟨by show 2 ≤ sizeLine; decide, ?_⟩
                have hsz : (gT G).length < sizeLine := by
                  rw [gT_length]
                  exact Nat.lt_of_lt_of_le (by omega : _ < 2000) (sz_ok (by omega))
                rcases gT_val G (c, o) with ⟨b, ms, G1, G2, e, hval⟩ | ⟨hnot, hval⟩
                · refine ec_dnewK (.inl ?_)
                  refine ⟨G.length, gT G, pairK (c, o), rfl, stO_g G g E O, hsz, fun d hd => ?_, fun z => absurd (z.symm.trans hval) (fun z => (nomatch z))⟩
                  obtain rfl := Option.some.inj (hval.symm.trans hd)
                  repeat walk_at "g"
                  refine rc_ixL au ?_
                  repeat walk_at "g"
                  refine rc_ixL av ?_
                  repeat walk_at "g"
                  subst e
                  have hIg := hI.g (c, o) b ms (List.mem_append.mpr (.inr List.mem_cons_self))
                  refine ⟨G2.length, b, ms.map tk, .inl (u - v), rfl, rfl, (stO_in G1 G2 (c, o) b ms g E O).1, ?_, ?_⟩
                  · rw [List.length_map]
                    have := lenG (rows := rows) (a := c) (b := o) hIg.1 fun x hx => pgO_in (List.mem_of_getElem? hrow) ((hIg.2 x).mp hx)
                    exact Nat.lt_of_lt_of_le (by omega : _ < 2000) (sz_ok (by omega))
                  rw [putG_tk, (stO_in G1 G2 (c, o) b ms g E O).2]
                  refine ⟨E, _, rfl, (hI.addG (u - v)).congr (fun _ _ _ => Iff.rfl) nextg, hE, ?_, _, rfl⟩
                  rw [List.length_append, List.length_cons] at hG ⊢
                  omega
                · refine ec_dnewK (.inr fun p => ?_)
                  refine ⟨G.length + 1, gT G, pairK (c, o), rfl, stO_g G g E O, hsz, fun d hd => absurd (hval.symm.trans hd) (fun z => (nomatch z)), fun _ => ?_⟩
                  repeat walk_at "g"
                  refine rc_ixL au ?_
                  repeat walk_at "g"
                  refine rc_ixL av ?_
                  repeat walk_at "g"
                  refine ⟨0, p, [], .inl (u - v), rfl, rfl, rfl, by decide, ?_⟩
                  rw [stO_new G g E O (c, o) p (u - v) hval]
                  refine ⟨E, _, rfl, (hI.newG hnot (u - v)).congr (fun _ _ _ => Iff.rfl) nextg, hE, ?_, _, rfl⟩
                  rw [List.length_append, List.length_singleton]
                  omega
              · rw [decide_eq_false hvp]
                refine iteF ?_
                refine sc_next ⟨E, G, rfl, hI.congr (fun _ _ _ => Iff.rfl) (fun a b x => or_congr Iff.rfl ⟨fun z => ⟨z.1, by omega, z.2.2⟩, fun z => ⟨z.1, ?_, z.2.2⟩⟩), hE, by omega, _, rfl⟩
                obtain ⟨_, z2, _, u', v', _, z3, _, z4, _⟩ := z
                by_cases e : b = o
                · subst e
                  rw [hv] at z3
                  obtain rfl := Option.some.inj z3
                  exact absurd z4 hvp
                · omega
          · rw [Int.toNat_natCast, rngD_len]
            rintro τ O1 ⟨E, G, rfl, hI, hE, hG, x7, rfl⟩
            refine ⟨E, G, rfl, hI.congr (fun _ _ _ => Iff.rfl) (fun a b x => ?_), hE, by omega, _, _, rfl⟩
            constructor
            · rintro ((z | ⟨z1, z2⟩) | ⟨z1, z2, z3⟩)
              · exact .inl z
              · exact .inr ⟨by omega, z2⟩
              · exact .inr ⟨by omega, z1 ▸ z3⟩
            · rintro (z | ⟨z1, z2⟩)
              · exact .inl (.inl z)
              · by_cases e : a = c
                · refine .inr ⟨e, ?_, e ▸ z2⟩
                  obtain ⟨_, _, _, _, z3, _⟩ := z2
                  have := (List.getElem?_eq_some_iff.mp z3).1
                  omega
                · exact .inl (.inr ⟨by omega, z2⟩)
        · rw [decide_eq_false hpos]
          refine iteF ?_
          refine sc_next ⟨E, G, rfl, hI.congr (fun d x _ => ?_) (fun a b x => ?_), hE, by omega, _, _, rfl⟩
          · refine or_congr Iff.rfl ⟨fun z => ⟨by omega, z.2⟩, fun z => ⟨?_, z.2⟩⟩
            by_cases e : d = c
            · subst e
              rw [hu] at z
              obtain ⟨_, z2, z3⟩ := z
              obtain rfl := Option.some.inj z3
              exact absurd z2 hpos
            · omega
          · refine or_congr Iff.rfl ⟨fun z => ⟨by omega, z.2⟩, fun z => ⟨?_, z.2⟩⟩
            by_cases e : a = c
            · subst e
              obtain ⟨_, _, u', v', z1, z2, z3, _⟩ := z
              rw [hu] at z1
              obtain rfl := Option.some.inj z1
              exact absurd z3 hpos
            · omega
      · rw [Int.toNat_natCast, rngD_len]
        rintro τ O1 ⟨E, G, rfl, hI, hE, hG, x2, x7, rfl⟩
        refine ⟨E, G, rfl, hI.congr (fun d x hd => ?_) (fun a b x => ?_), hE, by omega, _, _, _, _, rfl⟩
        · rw [take_next hrow, peF_snoc]
          refine or_congr Iff.rfl ⟨fun z => z.2, fun z => ⟨by omega, z⟩⟩
        · rw [take_next hrow, pgF_snoc]
          refine or_congr Iff.rfl ⟨fun z => z.2, fun z => ⟨?_, z⟩⟩
          obtain ⟨_, u, v, e, _⟩ := z
          have := (List.getElem?_eq_some_iff.mp e).1
          omega
    · rintro τ O1 ⟨E, G, rfl, hI, hE, hG, x2, x5, x6, x7, rfl⟩
      rw [List.length_map] at hG
      rw [List.length_map, List.take_length] at hI
      have hst := fin _ _ (hE ▸ hI.stops)
      clear i0
      refine sc_ret (ec_drop ?_)
      repeat walk_at "g"
      refine ec_lcp E (fun t => .adr t.1) (fun _ => true) (fun t => .lst (t.2.map D.int)) (ic_list (ec_var rfl ⟨_, rfl, rfl, rfl, trivial⟩)) (sz_ok (by omega)) (fun t ht => ?_) (.inl ?_)
      · refine ⟨_, _, ?_, gc_name, tc_yes ⟨rfl, rfl, fun _ => ?_⟩⟩
        · decide
        repeat walk_at "g"
        obtain ⟨c, hc⟩ := List.getElem?_of_mem ht
        obtain ⟨E1, E2, e, hl⟩ := split_at hc
        obtain ⟨a, ns⟩ := t
        subst e
        refine bc_listoK (stO_e G g E1 E2 a ns O).1 (.inl ⟨?_, rfl⟩)
        rw [List.map_map]
        rfl
      rw [filter_yes]
      repeat walk_at "g"
      refine ec_lock (stO_g G g E O) mut_T fun od u => ?_
      have hset : (stO G g E O).set G.length (g, oLk (oT (gT G)) od u) = gO G ++ (g, oLk (oT (gT G)) od u) :: (eO E ++ O) := by
        have := set_mid (gO G) (g, oT (gT G)) (g, oLk (oT (gT G)) od u) (eO E ++ O)
        rwa [gO_length] at this
      have hget : (gO G ++ (g, oLk (oT (gT G)) od u) :: (eO E ++ O))[G.length]? = some (g, oLk (oT (gT G)) od u) := by
        have := get_mid (gO G) (g, oLk (oT (gT G)) od u) (eO E ++ O)
        rwa [gO_length] at this
      have hback : (gO G ++ (g, oLk (oT (gT G)) od u) :: (eO E ++ O)).set G.length (g, oT (gT G)) = stO G g E O := by
        have := set_mid (gO G) (g, oLk (oT (gT G)) od u) (g, oT (gT G)) (eO E ++ O)
        rwa [gO_length] at this
      have gn : ((gT G).map (·.1)).Nodup := by
        have e : (gT G).map (·.1) = (G.map (·.1)).map pairK := by
          unfold gT
          rw [List.map_map, List.map_map]
          rfl
        rw [e]
        exact (List.pairwise_map.mpr (hI.gn.imp fun {a b} h z => h (pairK_inj z)))
      rw [hset]
      refine ec_dcT G (fun t => ksD (pairK t.1)) (fun t => pairK t.1) (fun t => .lst (t.2.2.map D.int)) (ic_keysL (ec_var rfl ⟨rfl, hget, ?_, rfl, ⟨_, hget⟩⟩)) ?_ ?_ (fun t ht => ?_) ?_
      · unfold gT
        rw [List.map_map]
        rfl
      · exact Nat.lt_of_lt_of_le (by omega : _ < 2000) (sz_ok (by omega))
      · have e : (G.map fun t => pairK t.1) = (gT G).map (·.1) := by
          unfold gT
          rw [List.map_map]
          rfl
        rw [e]
        exact gn
      · refine ⟨_, _, ?_, gc_name, tc_yes ⟨rfl, rfl, ec_var rfl ⟨rfl, rfl, ?_⟩⟩⟩
        · decide
        repeat walk_at "g"
        obtain ⟨c, hc⟩ := List.getElem?_of_mem ht
        obtain ⟨G1, G2, e, hl⟩ := split_at hc
        obtain ⟨p, a, ns⟩ := t
        have hv : valG (gT G) (pairK p) = some (.adr a) := valG_of gn (List.mem_map.mpr ⟨_, ht, rfl⟩)
        refine ⟨.adr a, hv ▸ gt_lkT hget rfl, ?_⟩
        repeat walk_at "g"
        have hin : (gO G ++ (g, oLk (oT (gT G)) od u) :: (eO E ++ O))[G2.length]? = some (a, oK (ns.map tk)) := by
          have e2 : gO G = gO G2 ++ (a, oK (ns.map tk)) :: gO G1 := by
            rw [e]
            unfold gO
            simp [List.map_append]
          rw [e2, List.append_assoc]
          have := get_mid (gO G2) (a, oK (ns.map tk)) (gO G1 ++ (g, oLk (oT (gT G)) od u) :: (eO E ++ O))
          rwa [gO_length] at this
        refine bc_listoK hin (.inl ⟨?_, rfl⟩)
        rw [List.map_map]
        rfl
      refine ⟨G.length, hget, ?_⟩
      rw [hback]
      repeat walk_at "g"
      refine ⟨by show 2 ≤ sizeLine; decide, O, ?_, ?_⟩
      · unfold stO
        exact List.Sublist.trans (List.sublist_append_right _ _) (List.Sublist.trans (List.sublist_cons_self _ _) (List.sublist_append_right _ _))
      · have e1 : (E.map (·.2)).map (fun ns => D.lst (ns.map D.int)) = E.map fun t => .lst (t.2.map D.int) := by
          rw [List.map_map]
          rfl
        have e2 : (G.map fun t => (t.1, t.2.2)).map gapE = G.map fun t => (pairK t.1, .lst (t.2.2.map D.int)) := by
          rw [List.map_map]
          rfl
        rw [e1, e2] at hst
        exact hst
end Ab

/-! ## AbD7 -/
set_option Elab.async false
set_option linter.all false
set_option maxRecDepth 100000
set_option maxHeartbeats 2000000
namespace Ab
open PySem L2
local macro_rules | `(tactic| walk_at "g") => `(tactic| first
  | with_reducible refine sc_seq ?_ | with_reducible refine sc_if ?_ | with_reducible refine sc_ret ?_ | with_reducible refine sc_asg ?_ | with_reducible refine sc_par ?_ | with_reducible refine sc_next ?_
  | ((with_reducible refine ec_var (d := ?dd) ?hv ?_); (case hv => exact rfl)) | with_reducible refine ec_int ?_ | with_reducible refine ec_bl ?_ | with_reducible refine ec_str ?_ | with_reducible refine ec_ty ?_ | with_reducible refine ec_non ?_
  | with_reducible refine ec_op ?_ | with_reducible refine ec_call ?_ | with_reducible refine ec_un ?_ | with_reducible refine ec_cb ?_ | with_reducible refine ec_if ?_ | with_reducible refine ec_andV ?_ | with_reducible refine ec_orV ?_ | with_reducible refine ec_notV ?_
  | with_reducible refine ac_cons ?_ | with_reducible refine ac_nil ?_ | (with_reducible refine ec_tup (ac_cons ?_)) | with_reducible refine ec_tup ?_
  | with_reducible refine tc_test ?_ | with_reducible refine tc_B ?_ | with_reducible refine tc_and ?_ | with_reducible refine tc_or ?_ | with_reducible refine tc_not ?_ | with_reducible refine tc_yes ?_
  | with_reducible refine rc_i0 ?_ | with_reducible refine rc_b0 ?_ | with_reducible refine rc_eqI ?_ | with_reducible refine rc_neI ?_ | with_reducible refine rc_eqS ?_ | with_reducible refine uc_neg ?_
  | with_reducible refine bc_int ?_ | with_reducible refine bc_abs ?_ | with_reducible refine bc_lenL ?_ | with_reducible refine bc_lenT ?_ | with_reducible refine bc_tupL ?_ | with_reducible refine bc_tupT ?_
  | with_reducible refine ec_chain ?_ | with_reducible refine ec_dget ?_ | with_reducible refine ec_dget2 ?_ | with_reducible refine ec_din ?_ | with_reducible refine ec_nget ?_ | with_reducible refine ec_nget2 ?_ | with_reducible refine ec_nnotin ?_ | with_reducible refine ec_app ?_ | with_reducible refine sc_nput ?_ | with_reducible refine sc_drop ?_ | with_reducible refine ec_setd ?_ | with_reducible refine ec_make ?_ | with_reducible refine ec_disp ?_ | with_reducible refine pc_cons ?_ | with_reducible refine pc_nil ?_ | with_reducible refine gc_sub ?_ | with_reducible refine sc_asgG ?_
  | with_reducible refine ⟨_, rfl, ?_⟩ | refine iteT ?_ | refine iteF ?_ | dsimp only )

/-! ### all orders of some numbers -/
def ordN : Nat → List Int → List (List Int)
  | 0, _ => [[]]
  | n + 1, ns => if ns.isEmpty = true then [[]] else ns.flatMap fun one => (ordN n (ns.filter fun o => !decide (o = one))).map (one :: ·)
theorem ordN_len : ∀ (n : Nat) (ns : List Int), ns.length ≤ 3 → (ordN n ns).length ≤ 3 ^ n
  | 0, _, _ => Nat.le_refl _
  | n + 1, ns, h => by
    unfold ordN
    split
    · exact Nat.one_le_pow _ _ (by decide)
    · refine Nat.le_trans (flatMap_len (m := 3 ^ n) fun x _ => ?_) ?_
      · rw [List.length_map]
        exact ordN_len n _ (Nat.le_trans (List.length_filter_le _ _) h)
      · rw [Nat.pow_succ, Nat.mul_comm]
        exact Nat.mul_le_mul_left _ h
theorem ordN_each : ∀ (n : Nat) (ns : List Int), ∀ o ∈ ordN n ns, o.length ≤ n
  | 0, ns, o, h => by
    have h : o ∈ [([] : List Int)] := h
    rw [List.mem_singleton.mp h]
    exact Nat.le_refl _
  | n + 1, ns, o, h => by
    unfold ordN at h
    split at h
    · rw [List.mem_singleton.mp h]
      exact Nat.zero_le _
    · obtain ⟨one, _, h⟩ := List.mem_flatMap.mp h
      obtain ⟨rest, h, rfl⟩ := List.mem_map.mp h
      exact Nat.succ_le_succ (ordN_each n (ns.filter fun o => !decide (o = one)) rest (by simpa using h))
abbrev intsD (o : List Int) : D := .lst (o.map D.int)
def W_orders_of : Nat → List D → Ow → Cd → Prop
  | 0, _, _, _ => False
  | n + 1, ds, O, Φ => ∃ ns : List Int, ds = [intsD ns] ∧ ns.length ≤ n ∧ ns.length ≤ 3 ∧ n ≤ 3 ∧ Φ (.lst ((ordN n ns).map intsD)) O
theorem sc_orders_of : FnScope ["some", "one", "rest", "other"] ["some"] (defScope s_orders_of) := ⟨rfl, rfl, rfl, by decide +kernel, rfl, by decide +kernel, by decide +kernel⟩
theorem kn_orders_of {P : Program} {w : World} {K : PySem.W.Frag} {mg : Str → Option Value} {base : Heap} (T : Txt K mg) : ∀ n, Kn P w K mg base "orders_of" n ["some"] (spW (W_orders_of n))
  | 0 => by
    obtain ⟨fd, F⟩ := T.d_orders_of
    exact ⟨_, fd, T.g_orders_of, F.kp, F.bindsN (fun _ _ _ _ _ _ us hl => match us, hl with | [_], _ => rfl), ⟨fun vs H Q E ⟨_, _, _, _, _, _, h, _⟩ => h.elim, fun A outer s H args us vs Q E _ _ _ _ ⟨_, _, _, _, _, _, h, _⟩ => h.elim⟩⟩
  | n + 1 => by
    have S := sc_orders_of
    have k_orders_of := kn_orders_of (P := P) (w := w) (base := base) T n
    refine kn_mk T.d_orders_of T.g_orders_of S (fun _ _ _ _ _ _ us hl => match us, hl with | [_], _ => rfl) (fun ds O Φ h => ?_) (fun cdv A outer s H E hr => ?_)
    · obtain ⟨ns, rfl, _⟩ := h
      rfl
    have hu := hu_of hr
    refine ⟨_, (pss_cons (ps_if (pt_cmpR op_eq (pe_callB (call_lenK (K := K) rfl) (by rfl) T.f_len PySem.boot_len (pa_cons (pv 0) pa_nil)) pe_int (nomark _)) (pss_one (ps_ret (pe_lst (pa_cons (pe_lst pa_nil) pa_nil)))) pss_nil)
        (pss_one (ps_ret (pe_lc2 (own := [("one", 1), ("rest", 2)]) (vs1 := [2]) rfl S.nd (pi_listK (K := K) rfl (pv 0)) (blkOk_by (own := [("one", 1), ("rest", 2)]) (by kernel_rfl)) (by decide) (fun _ _ _ _ _ => (pg_name (i := 1) S.nd rfl (by first | exact Or.inl rfl | exact Or.inr rfl))) (fun _ _ _ _ _ => pts_nil) (fun _ _ _ _ _ => (pi_listK (K := K) rfl (pe_kn k_orders_of hr (Nat.le_refl _) (pa_cons (pe_lc (own := [("other", 3)]) rfl S.nd (pi_listK (K := K) rfl (pv 0)) (blkOk_by (own := [("other", 3)]) (by kernel_rfl)) (fun _ _ _ _ _ => (pg_name (i := 3) S.nd rfl (by first | exact Or.inl rfl | exact Or.inr rfl))) (fun _ _ _ _ _ => (pts_one (pt_cmpR op_ne (pv 3) (pv 1) (nomark _)))) (fun _ _ _ _ _ => (pv 3))) pa_nil)))) (fun _ _ _ _ _ => (pg_name (i := 2) S.nd rfl (by first | exact Or.inl rfl | exact Or.inr rfl))) (fun _ _ _ _ _ => pts_nil) (fun _ _ _ _ _ => (pe_op op_cat (pe_lst (pa_cons (pv 1) pa_nil)) (pv 2))))))), fun ds O Φ h => ?_⟩
    obtain ⟨ns, rfl, hn, h3, hn3, k⟩ := h
    repeat walk_at "g"
    cases ns with
    | nil =>
      refine iteT ?_
      refine sc_ret (ec_lst (ac_cons (ec_lst (ac_nil ⟨by show 0 ≤ sizeLine; decide, ac_nil ⟨by show 1 ≤ sizeLine; decide, ?_⟩⟩))))
      have e : ordN n [] = [[]] := by cases n <;> rfl
      rw [e] at k
      exact k
    | cons x xs =>
      have e0 : decide (((((x :: xs).map D.int).length : Nat) : Int) = 0) = false := decide_eq_false (by rw [List.length_map, List.length_cons]; omega)
      rw [e0]
      cases n with
      | zero => exact absurd hn (Nat.not_succ_le_zero _)
      | succ n =>
        have eo : ordN (n + 1) (x :: xs) = (x :: xs).flatMap fun one => (ordN n ((x :: xs).filter fun o => !decide (o = one))).map (one :: ·) := rfl
        rw [eo] at k
        have hall : ∀ one ∈ x :: xs, ((x :: xs).filter fun o => !decide (o = one)).length ≤ n := fun one h1 => by
          have := List.length_filter_lt_length_iff_exists (p := fun o => !decide (o = one)) (l := x :: xs) |>.mpr ⟨one, h1, by simp⟩
          omega
        generalize x :: xs = ns at hn h3 k hall ⊢
        repeat walk_at "g"
        have p3 : 3 ^ n ≤ 3 ^ 3 := Nat.pow_le_pow_right (by decide) (by omega)
        refine ec_lc2p ns D.int (fun one => ordN n (ns.filter fun o => !decide (o = one))) intsD (fun _ _ => true) (fun one rest => intsD (one :: rest)) (ic_list (ec_var rfl ⟨_, rfl, rfl, rfl, trivial⟩)) (sz_ok ?_) (fun one h1 => ?_) (.inl ?_)
        · refine Nat.le_trans (flatMap_len (m := 27) fun y hy => ?_) (by omega)
          rw [List.length_map, filter_yes]
          exact Nat.le_trans (ordN_len n _ (Nat.le_trans (List.length_filter_le _ _) h3)) p3
        · refine ⟨_, _, ?_, gc_name, tc_yes ⟨rfl, rfl, ic_list (ec_call (ac_cons ?_))⟩⟩
          · decide
          refine ec_lcp ns D.int (fun o => !decide (o = one)) D.int (ic_list (ec_var rfl ⟨_, rfl, rfl, rfl, trivial⟩)) (sz_ok (by omega)) (fun o h2 => ?_) (.inl ?_)
          · refine ⟨_, _, ?_, gc_name, ?_⟩
            · decide
            repeat walk_at "g"
            exact ⟨rfl, rfl, fun _ => ec_var rfl ⟨rfl, rfl⟩⟩
          refine ac_nil ⟨_, rfl, hall one h1, Nat.le_trans (List.length_filter_le _ _) h3, by omega, _, rfl, rfl, rfl, trivial, fun rest h2 => ⟨_, _, ?_, gc_name, tc_yes ⟨rfl, rfl, fun _ => ?_⟩⟩⟩
          · decide
          repeat walk_at "g"
          refine ec_lst (ac_cons (ec_var rfl (ac_nil ⟨by show 1 ≤ sizeLine; decide, ?_⟩)))
          repeat walk_at "g"
          refine rc_cat (sz_ok ?_) (.inl ⟨rfl, rfl⟩)
          rw [List.length_map]
          have := ordN_each n _ rest h2
          show 1 + rest.length ≤ _
          omega
        · have e : (ns.flatMap fun one => ((ordN n (ns.filter fun o => !decide (o = one))).filter fun _ => true).map fun rest => intsD (one :: rest)) = (ns.flatMap fun one => (ordN n (ns.filter fun o => !decide (o = one))).map (one :: ·)).map intsD := by
            rw [List.map_flatMap]
            simp only [filter_yes, List.map_map]
            rfl
          rw [e]
          exact k
/-! ### corners -/
abbrev rowPD (r : Key2) : D := .lst (r.map ratD)
def endsI (E : List (List Int)) (a : Int) : List Int := E.getD a.toNat []
def gapsI (G : GpQ) (a b : Int) : List Int := ((G.find? fun e => decide ((e.1.1 : Int) = a ∧ (e.1.2 : Int) = b)).map (·.2)).getD []
theorem valG_gapE (G : GpQ) (a b : Int) : (valG (G.map gapE) [.inl a, .inl b]).getD (.lst []) = intsD (gapsI G a b) := by
  induction G with
  | nil => rfl
  | cons e r ih =>
    by_cases h : (e.1.1 : Int) = a ∧ (e.1.2 : Int) = b
    · have h1 : valG ((e :: r).map gapE) [.inl a, .inl b] = some (intsD e.2) := valG_hit (p := gapE e) (by show pairK e.1 = _; unfold pairK; rw [h.1, h.2])
      have h2 : gapsI (e :: r) a b = e.2 := by
        unfold gapsI
        rw [List.find?_cons, decide_eq_true h]
        rfl
      rw [h1, h2]
      rfl
    · have h1 : valG ((e :: r).map gapE) [.inl a, .inl b] = valG (r.map gapE) [.inl a, .inl b] := valG_miss (p := gapE e) fun z => by
        have z : pairK e.1 = [.inl a, .inl b] := z
        unfold pairK at z
        injection z with z1 z2
        injection z2 with z2 _
        exact h ⟨Sum.inl.inj z1, Sum.inl.inj z2⟩
      have h2 : gapsI (e :: r) a b = gapsI r a b := by
        unfold gapsI
        rw [List.find?_cons, decide_eq_false h]
      rw [h1, h2]
      exact ih
def stopsP (E : List (List Int)) (G : GpQ) (c : Int) (row : Key2) : List Int := endsI E c ++ row.flatMap fun q => (gapsI G c q.1).map fun g => q.2 + g
def widerP (E : List (List Int)) (G : GpQ) (c : Int) (known : List Key2) : List Key2 := known.flatMap fun row => ((stopsP E G c row).filter fun s => decide (0 ≤ s)).map fun s => row ++ [(c, s)]
def knownP (E : List (List Int)) (G : GpQ) (order : List Int) : List Key2 := order.foldl (fun known c => widerP E G c known) [[]]
def sortP (row : Key2) : List Int := (row.mergeSort (PySem.W.dataLe false pdq)).map (·.2)
def CornerP (E : List (List Int)) (G : GpQ) (orders : List (List Int)) (p : List Int) : Prop := ∃ order ∈ orders, ∃ row ∈ knownP E G order, p = sortP row
def kp (p : List Int) : List L2.Key × D := (p.map Sum.inl, .bl true)
theorem inl_inj : ∀ {p q : List Int}, (p.map Sum.inl : List L2.Key) = q.map Sum.inl → p = q
  | [], [], _ => rfl
  | [], _ :: _, h => by cases h
  | _ :: _, [], h => by cases h
  | x :: xs, y :: ys, h => by
    rw [List.map_cons, List.map_cons] at h
    injection h with h1 h2
    rw [Sum.inl.inj h1, inl_inj h2]
def insP (ps : List (List Int)) (p : List Int) : List (List Int) := if p ∈ ps then ps else ps ++ [p]
theorem mem_insP {ps : List (List Int)} {p q : List Int} : q ∈ insP ps p ↔ q = p ∨ q ∈ ps := by
  unfold insP
  split
  · rename_i h
    exact ⟨.inr, fun z => z.elim (fun e => e ▸ h) id⟩
  · rw [List.mem_append, List.mem_singleton]
    exact Or.comm
theorem insP_len (ps : List (List Int)) (p : List Int) : (insP ps p).length ≤ ps.length + 1 := by
  unfold insP
  split
  · exact Nat.le_succ _
  · rw [List.length_append]
    exact Nat.le_refl _
theorem valG_kp (ps : List (List Int)) (p : List Int) : valG (ps.map kp) (p.map Sum.inl) = if p ∈ ps then some (.bl true) else none := by
  induction ps with
  | nil => rfl
  | cons q r ih =>
    by_cases e : q = p
    · subst e
      rw [if_pos List.mem_cons_self]
      exact valG_hit (p := kp q) rfl
    · have h1 : valG ((q :: r).map kp) (p.map Sum.inl) = valG (r.map kp) (p.map Sum.inl) := valG_miss (p := kp q) fun z => e (inl_inj z)
      rw [h1, ih]
      by_cases h : p ∈ r
      · rw [if_pos h, if_pos (List.mem_cons_of_mem _ h)]
      · rw [if_neg h, if_neg fun z => (List.mem_cons.mp z).elim (fun z => e z.symm) h]
theorem putG_kp (ps : List (List Int)) (p : List Int) : putG (ps.map kp) (p.map Sum.inl) (.bl true) = (insP ps p).map kp := by
  unfold putG insP
  rw [valG_kp]
  by_cases h : p ∈ ps
  · rw [if_pos h, if_pos h]
    show List.map (fun kv => if kv.1 = (p.map Sum.inl : List L2.Key) then (kv.1, D.bl true) else kv) (ps.map kp) = ps.map kp
    rw [List.map_map]
    refine List.map_congr_left fun q _ => ?_
    show (if (kp q).1 = p.map Sum.inl then ((kp q).1, D.bl true) else kp q) = kp q
    split <;> rfl
  · rw [if_neg h, if_neg h, if_neg (by decide), List.map_append]
    rfl
theorem stopsP_len {E : List (List Int)} {G : GpQ} {c : Int} {row : Key2} (hE : ∀ ns ∈ E, ns.length ≤ 31) (hG : ∀ e ∈ G, e.2.length ≤ 30) (hr : row.length ≤ 2) : (stopsP E G c row).length ≤ 91 := by
  unfold stopsP
  have h1 : (endsI E c).length ≤ 31 := by
    unfold endsI
    rw [List.getD_eq_getElem?_getD]
    cases e : E[c.toNat]? with
    | none => exact Nat.zero_le _
    | some ns => exact hE ns (List.mem_of_getElem? e)
  have h2 := flatMap_len (m := 30) (xs := row) (f := fun q => (gapsI G c q.1).map fun g => q.2 + g) fun q _ => by
    rw [List.length_map]
    unfold gapsI
    cases e : G.find? (fun e => decide ((e.1.1 : Int) = c ∧ (e.1.2 : Int) = q.1)) with
    | none => exact Nat.zero_le _
    | some t => exact hG t (List.mem_of_find?_eq_some e)
  rw [List.length_append]
  omega
theorem widerP_row {E : List (List Int)} {G : GpQ} {c : Int} {known : List Key2} {m : Nat} (h : ∀ row ∈ known, row.length = m) : ∀ row ∈ widerP E G c known, row.length = m + 1 := fun row hr => by
  obtain ⟨r, hr1, hr2⟩ := List.mem_flatMap.mp hr
  obtain ⟨s, _, rfl⟩ := List.mem_map.mp hr2
  rw [List.length_append, h r hr1]
  rfl
theorem widerP_len {E : List (List Int)} {G : GpQ} {c : Int} {known : List Key2} (hE : ∀ ns ∈ E, ns.length ≤ 31) (hG : ∀ e ∈ G, e.2.length ≤ 30) (h : ∀ row ∈ known, row.length ≤ 2) : (widerP E G c known).length ≤ known.length * 91 :=
  flatMap_len fun row hr => by
    rw [List.length_map]
    exact Nat.le_trans (List.length_filter_le _ _) (stopsP_len hE hG (h row hr))
theorem ordN_mem : ∀ (n : Nat) (ns : List Int), ∀ o ∈ ordN n ns, ∀ x ∈ o, x ∈ ns
  | 0, ns, o, h, x, hx => by
    have h : o ∈ [([] : List Int)] := h
    rw [List.mem_singleton.mp h] at hx
    exact absurd hx List.not_mem_nil
  | n + 1, ns, o, h, x, hx => by
    unfold ordN at h
    split at h
    · rw [List.mem_singleton.mp h] at hx
      exact absurd hx List.not_mem_nil
    · obtain ⟨one, h1, h⟩ := List.mem_flatMap.mp h
      obtain ⟨rest, h2, rfl⟩ := List.mem_map.mp h
      rcases List.mem_cons.mp hx with rfl | hx
      · exact h1
      · exact (List.mem_filter.mp (ordN_mem n _ rest h2 x hx)).1
theorem knownP_snoc (E : List (List Int)) (G : GpQ) (o : List Int) (c : Int) : knownP E G (o ++ [c]) = widerP E G c (knownP E G o) := by
  unfold knownP
  rw [List.foldl_append]
  rfl
theorem knownP_ok {E : List (List Int)} {G : GpQ} (hE : ∀ ns ∈ E, ns.length ≤ 31) (hG : ∀ e ∈ G, e.2.length ≤ 30) : ∀ (m : Nat) (o : List Int), o.length = m → m ≤ 3 → (∀ row ∈ knownP E G o, row.length = m) ∧ (knownP E G o).length ≤ 91 ^ m
  | 0, o, h, _ => by
    rw [List.length_eq_zero_iff.mp h]
    exact ⟨fun row hr => by rw [List.mem_singleton.mp hr]; rfl, Nat.le_refl _⟩
  | m + 1, o, h, h3 => by
    obtain ⟨p, c, rfl⟩ : ∃ p c, o = p ++ [c] := ⟨o.dropLast, o.getLast (fun e => by rw [e] at h; cases h), (List.dropLast_concat_getLast _).symm⟩
    rw [List.length_append, List.length_singleton] at h
    obtain ⟨h1, h2⟩ := knownP_ok hE hG m p (by omega) (by omega)
    rw [knownP_snoc]
    refine ⟨widerP_row h1, Nat.le_trans (widerP_len hE hG fun row hr => by rw [h1 row hr]; omega) ?_⟩
    rw [Nat.pow_succ]
    exact Nat.mul_le_mul_right _ h2
def orders3 (k : Nat) : List (List Int) := ordN 3 ((List.range k).map fun (i : Nat) => (i : Int))
theorem rngD_ints (k : Nat) : rngD 0 k = ((List.range k).map fun (i : Nat) => (i : Int)).map D.int := by
  unfold rngD
  rw [List.map_map]
  refine List.map_congr_left fun i _ => ?_
  show D.int (0 + (i : Int)) = D.int (i : Int)
  rw [Int.zero_add]
theorem orders3_len (k : Nat) (h : k ≤ 3) : (orders3 k).length ≤ 6 := by
  rcases (by omega : k = 0 ∨ k = 1 ∨ k = 2 ∨ k = 3) with rfl | rfl | rfl | rfl <;> decide +kernel
theorem ec_rg1 {ta : TE} {τ : Tau} {O : Ow} {Φ : Cd} (h : Ec ta τ O fun x O1 => ∃ n : Nat, x = .int (n : Int) ∧ n ≤ 1000 ∧ Φ (.lst (rngD 0 n)) O1) : Ec (tLstRg (tRg1 ta)) τ O Φ := fun σ B C s o Q f =>
  h σ B C s o _ fun v d B1 C1 O1 ⟨n, e, hn, p⟩ l hd => by
    subst e
    cases hd
    refine ⟨(n : Int), rfl, RgOk.of_le (by omega) (by omega) (by omega) (by omega), fun q hq => ?_⟩
    refine (f.back l).newL l.ok hq ?_ (.inl p)
    have e : rgV 0 (n : Int) = ((List.range n).map fun (i : Nat) => (0 : Int) + (i : Int)).map V.int := by
      unfold rgV
      rw [List.map_map, Int.sub_zero, Int.toNat_natCast]
      rfl
    have e2 : rngD 0 n = ((List.range n).map fun (i : Nat) => (0 : Int) + (i : Int)).map D.int := by
      unfold rngD
      rw [List.map_map]
      rfl
    rw [e, e2]
    exact dtL_ints _ _
def W_corners_of (ds : List D) (O : Ow) (Φ : Cd) : Prop := ∃ (rows : List WRow) (k : Nat), ds = [.lst (rows.map wrowD), .int (k : Int)] ∧ k ≤ 3 ∧ rows.length ≤ 30 ∧ (∀ r ∈ rows, r.2.length = k) ∧
  ∀ (E : List (List Int)) (G : GpQ) (ps : List (List Int)), StopsOk rows k E G → (∀ p, p ∈ ps ↔ CornerP E G (orders3 k) p) → Φ (.lst (ps.map prD)) O
theorem sc_corners_of : FnScope ["rows", "kinds", "ends", "gaps", "found", "order", "known", "kind", "longer", "row", "stops", "other", "price", "gap", "stop"] ["rows", "kinds"] (defScope s_corners_of) := ⟨rfl, rfl, rfl, by decide +kernel, rfl, by decide +kernel, by decide +kernel⟩
theorem kn_corners_of {P : Program} {w : World} {K : PySem.W.Frag} {mg : Str → Option Value} {base : Heap} (T : Txt K mg) : Kn P w K mg base "corners_of" 5 ["rows", "kinds"] (spW (W_corners_of)) := by
  have S := sc_corners_of
  have k_stops_of := kn_stops_of (P := P) (w := w) (base := base) T
  have k_orders_of := kn_orders_of (P := P) (w := w) (base := base) T 4
  refine kn_mk T.d_corners_of T.g_corners_of S (fun _ _ _ _ _ _ us hl => match us, hl with | [_, _], _ => rfl) (fun ds O Φ h => ?_) (fun cdv A outer s H E hr => ?_)
  · obtain ⟨rows, k, rfl, hk, hn, hr, fin⟩ := h
    rfl
  have hu := hu_of hr
  have hu64 := hr.units
  have hu9 := hu9_of hr
  refine ⟨_, (pss_cons (ps_asg (pe_kn k_stops_of hr (by decide) (pa_cons (pv 0) (pa_cons (pv 1) pa_nil))) (pg_tupK (K := K) (n := 2) rfl rfl (pgs_cons (pg_name (i := 2) S.nd rfl (Or.inl rfl)) (pgs_cons (pg_name (i := 3) S.nd rfl (Or.inr rfl)) pgs_nil))))
        (pss_cons (ps_set (i := 4) S.nd rfl (Or.inl rfl) pe_dnewT)
        (pss_cons (ps_for PassesOwn.never rfl (pi_listK (K := K) rfl (pe_kn k_orders_of hr (by decide) (pa_cons (pe_listRg rfl (by rfl) T.f_list (prg_1 (by rfl) T.f_range (pv 1))) pa_nil))) (pg_name (i := 5) S.nd rfl (Or.inl rfl)) (pss_cons (ps_set (i := 6) S.nd rfl (Or.inl rfl) (pe_lst (pa_cons (pe_lst pa_nil) pa_nil)))
        (pss_cons (ps_for PassesOwn.never rfl (pi_listK (K := K) rfl (pv 5)) (pg_name (i := 7) S.nd rfl (Or.inr rfl)) (pss_cons (ps_set (i := 8) S.nd rfl (Or.inl rfl) (pe_lst pa_nil))
        (pss_cons (ps_for PassesOwn.never rfl (pi_listK (K := K) rfl (pv 6)) (pg_name (i := 9) S.nd rfl (Or.inr rfl)) (pss_cons (ps_set (i := 10) S.nd rfl (Or.inl rfl) (pe_op op_cat (pe_ix (ix_seqK (K := K) rfl) (pv 2) (pv 7) (fun _ _ => rfl)) (pe_lc2 (own := [("other", 11), ("price", 12), ("gap", 13)]) (vs1 := [13]) rfl S.nd (pi_listK (K := K) rfl (pv 9)) (blkOk_by (own := [("other", 11), ("price", 12), ("gap", 13)]) (by kernel_rfl)) (by decide) (fun _ _ _ _ _ => (pg_tupK (K := K) (n := 2) rfl rfl (pgs_cons (pg_name (i := 11) S.nd rfl (by first | exact Or.inl rfl | exact Or.inr rfl)) (pgs_cons (pg_name (i := 12) S.nd rfl (by first | exact Or.inl rfl | exact Or.inr rfl)) pgs_nil)))) (fun _ _ _ _ _ => pts_nil) (fun _ _ _ _ _ => (pi_listK (K := K) rfl (pe_dget2 hu (pv 3) (pe_tup (pa_cons (pv 7) (pa_cons (pv 11) pa_nil))) (pe_lst pa_nil) ⟨by rfl, by rfl, by rfl, by rfl⟩))) (fun _ _ _ _ _ => (pg_name (i := 13) S.nd rfl (by first | exact Or.inl rfl | exact Or.inr rfl))) (fun _ _ _ _ _ => pts_nil) (fun _ _ _ _ _ => (pe_op op_add (pv 12) (pv 13))))))
        (pss_one (ps_set (i := 8) S.nd rfl (Or.inl rfl) (pe_op op_cat (pv 8) (pe_lc (own := [("stop", 14)]) rfl S.nd (pi_listK (K := K) rfl (pv 10)) (blkOk_by (own := [("stop", 14)]) (by kernel_rfl)) (fun _ _ _ _ _ => (pg_name (i := 14) S.nd rfl (by first | exact Or.inl rfl | exact Or.inr rfl))) (fun _ _ _ _ _ => (pts_one (pt_cmpR op_ge (pv 14) pe_int (nomark _)))) (fun _ _ _ _ _ => (pe_op op_cat (pv 9) (pe_lst (pa_cons (pe_tup (pa_cons (pv 7) (pa_cons (pv 14) pa_nil))) pa_nil))))))))))
        (pss_one (ps_set (i := 6) S.nd rfl (Or.inl rfl) (pv 8))))))
        (pss_one (ps_for PassesOwn.never rfl (pi_listK (K := K) rfl (pv 6)) (pg_name (i := 9) S.nd rfl (Or.inr rfl)) (pss_one (ps_dput hu (pv 4) (pe_callTy (call_tupK (K := K) rfl) (by rfl) T.f_tuple (by decide +kernel) (pa_cons (pe_lc (own := [("kind", 7), ("price", 12)]) rfl S.nd (pi_listK (K := K) rfl (pe_callB (cr_sortedD (K := K) rfl hu64) (by rfl) T.f_sorted (by decide +kernel) (pa_cons (pv 9) pa_nil))) (blkOk_by (own := [("kind", 7), ("price", 12)]) (by kernel_rfl)) (fun _ _ _ _ _ => (pg_tupK (K := K) (n := 2) rfl rfl (pgs_cons (pg_name (i := 7) S.nd rfl (by first | exact Or.inl rfl | exact Or.inr rfl)) (pgs_cons (pg_name (i := 12) S.nd rfl (by first | exact Or.inl rfl | exact Or.inr rfl)) pgs_nil)))) (fun _ _ _ _ _ => pts_nil) (fun _ _ _ _ _ => (pv 12))) pa_nil)) pe_bl rfl)))))))
        (pss_one (ps_ret (pe_callTy (call_listT rfl) (by rfl) T.f_list (by decide +kernel) (pa_cons (pv 4) pa_nil))))))), fun ds O Φ h => ?_⟩
  obtain ⟨rows, k, rfl, hk, hn, hr, fin⟩ := h
  repeat walk_at "g"
  refine ⟨rows, k, rfl, hk, hn, hr, fun E G hst => ?_⟩
  have hE : ∀ ns ∈ E, ns.length ≤ 31 := fun ns h => by
    obtain ⟨c, hc⟩ := List.getElem?_of_mem h
    have := (hst.e c ns hc).1
    omega
  have hG : ∀ e ∈ G, e.2.length ≤ 30 := fun e h => by
    have := (hst.g e.1 e.2 h).1
    omega
  refine ⟨_, _, gc_tup (gcs_cons (gcs_cons gcs_nil)) rfl, ?_⟩
  repeat walk_at "g"
  refine ec_dnewT fun f => ?_
  repeat walk_at "g"
  have ord_in : ∀ o ∈ orders3 k, o.length ≤ 3 ∧ ∀ c ∈ o, ∃ j : Nat, c = (j : Int) ∧ j < k := fun o ho => ⟨ordN_each 3 _ o ho, fun c hc => by
    obtain ⟨j, hj, rfl⟩ := List.mem_map.mp (ordN_mem 3 _ o ho c hc)
    exact ⟨j, rfl, List.mem_range.mp hj⟩⟩
  have ord_len := orders3_len k hk
  refine sc_for (ic_list (ec_call (ac_cons (ec_rg1 (ec_var rfl ⟨k, rfl, by omega, ac_nil ⟨(List.range k).map fun (i : Nat) => (i : Int), by rw [rngD_ints], by rw [List.length_map, List.length_range]; exact hk, by rw [List.length_map, List.length_range]; exact hk, Nat.le_refl _, _, rfl,
    fun i τ O' => ∃ ps : List (List Int), O' = (f, oT (ps.map kp)) :: O ∧ (∀ p, p ∈ ps ↔ CornerP E G ((orders3 k).take i) p) ∧ ps.length ≤ i * 753571 ∧ ∃ x5 x6 x7 x8 x9 x10, τ = [some (.lst (rows.map wrowD)), some (.int k), some (.lst (E.map intsD)), some (.dT (G.map gapE)), some (.adr f), x5, x6, x7, x8, x9, x10, none, none, none, none],
    ⟨[], rfl, fun p => ⟨fun h => absurd h List.not_mem_nil, fun ⟨o, ho, _⟩ => absurd ho (by simp)⟩, Nat.le_refl _, _, _, _, _, _, _, rfl⟩, fun _ _ _ _ => trivial, ?_, ?_⟩⟩)))))
  · rintro i x τ O1 hx ⟨ps, rfl, hps, hlen, x5, x6, x7, x8, x9, x10, rfl⟩
    obtain ⟨order, hord, rfl⟩ := map_get hx
    have hord : (orders3 k)[i]? = some order := hord
    obtain ⟨ho3, hoc⟩ := ord_in order (List.mem_of_getElem? hord)
    have hi6 := (List.getElem?_eq_some_iff.mp hord).1
    refine ⟨_, _, gc_name, ?_⟩
    repeat walk_at "g"
    refine ec_lst (ac_cons (ec_lst (ac_nil ⟨by show 0 ≤ sizeLine; decide, ac_nil ⟨by show 1 ≤ sizeLine; decide, ?_⟩⟩)))
    repeat walk_at "g"
    refine sc_forM order D.int (ic_list (ec_var rfl ⟨_, rfl, rfl, rfl, rfl⟩)) (fun j τ O' => O' = (f, oT (ps.map kp)) :: O ∧ ∃ x7 x8 x9 x10, τ = [some (.lst (rows.map wrowD)), some (.int k), some (.lst (E.map intsD)), some (.dT (G.map gapE)), some (.adr f), some (intsD order), some (.lst ((knownP E G (order.take j)).map rowPD)), x7, x8, x9, x10, none, none, none, none]) ⟨rfl, _, _, _, _, rfl⟩ ?_ ?_
    · rintro j c τ O1 hj ⟨rfl, x7, x8, x9, x10, rfl⟩
      obtain ⟨n, rfl, hnk⟩ := hoc c (List.mem_of_getElem? hj)
      have hjl := (List.getElem?_eq_some_iff.mp hj).1
      have htl : (order.take j).length = j := by rw [List.length_take]; omega
      obtain ⟨hk1, hk2⟩ := knownP_ok hE hG j (order.take j) htl (by omega)
      have hk3 : 91 ^ j ≤ 91 ^ 2 := Nat.pow_le_pow_right (by decide) (by omega)
      have eN : knownP E G (order.take (j + 1)) = widerP E G (n : Int) (knownP E G (order.take j)) := by rw [take_next hj, knownP_snoc]
      rw [eN]
      generalize knownP E G (order.take j) = known at hk1 hk2 ⊢
      refine ⟨_, _, gc_name, ?_⟩
      repeat walk_at "g"
      refine ec_lst (ac_nil ⟨by show 0 ≤ sizeLine; decide, ?_⟩)
      repeat walk_at "g"
      refine sc_forM known rowPD (ic_list (ec_var rfl ⟨_, rfl, rfl, rfl, rfl⟩)) (fun m τ O' => O' = (f, oT (ps.map kp)) :: O ∧ ∃ x9 x10, τ = [some (.lst (rows.map wrowD)), some (.int k), some (.lst (E.map intsD)), some (.dT (G.map gapE)), some (.adr f), some (intsD order), some (.lst (known.map rowPD)), some (.int n), some (.lst ((widerP E G (n : Int) (known.take m)).map rowPD)), x9, x10, none, none, none, none]) ⟨rfl, _, _, rfl⟩ ?_ ?_
      · rintro m row τ O1 hm ⟨rfl, x9, x10, rfl⟩
        have hrl := hk1 row (List.mem_of_getElem? hm)
        have hsl := stopsP_len (c := (n : Int)) (row := row) hE hG (by omega)
        have hml := (List.getElem?_eq_some_iff.mp hm).1
        have hwl := widerP_len (c := (n : Int)) (known := known.take m) hE hG fun r hr => by
          rw [hk1 r (List.mem_of_mem_take hr)]
          omega
        rw [List.length_take] at hwl
        have hmin : min m known.length * 91 ≤ 8281 * 91 := Nat.mul_le_mul_right _ (by omega)
        refine ⟨_, _, gc_name, ?_⟩
        repeat walk_at "g"
        obtain ⟨ns, hns⟩ : ∃ ns, E[n]? = some ns := ⟨_, List.getElem?_eq_getElem (by rw [hst.len]; exact hnk)⟩
        have hnsE : endsI E (n : Int) = ns := by
          unfold endsI
          rw [Int.toNat_natCast, List.getD_eq_getElem?_getD, hns]
          rfl
        refine rc_ixL (d := intsD ns) (atI_nat (by rw [List.getElem?_map, hns]; rfl)) ?_
        have hlens := hE ns (List.mem_of_getElem? hns)
        have hstop : stopsP E G (n : Int) row = ns ++ row.flatMap fun q => (gapsI G (n : Int) q.1).map fun g => q.2 + g := by
          unfold stopsP
          rw [hnsE]
        have hfl : (row.flatMap fun q => (gapsI G (n : Int) q.1).map fun g => q.2 + g).length ≤ 91 := by
          rw [hstop, List.length_append] at hsl
          omega
        have ef : (row.flatMap fun q => ((gapsI G (n : Int) q.1).filter fun _ => true).map fun g => D.int (q.2 + g)) = (row.flatMap fun q => (gapsI G (n : Int) q.1).map fun g => q.2 + g).map D.int := by
          rw [List.map_flatMap]
          simp only [filter_yes, List.map_map]
          rfl
        refine ec_lc2p row ratD (fun q => gapsI G (n : Int) q.1) D.int (fun _ _ => true) (fun q g => .int (q.2 + g)) (ic_list (ec_var rfl ⟨_, rfl, rfl, rfl, trivial⟩)) (sz_ok ?_) (fun q hq => ?_) (.inl ?_)
        · rw [ef, List.length_map]
          omega
        · refine ⟨_, _, ?_, gc_tup (gcs_cons (gcs_cons gcs_nil)) rfl, tc_yes ⟨rfl, rfl, ic_list (ec_dget2 (ec_var rfl ⟨isD_T, ec_tup (ac_cons (ec_var rfl (ac_cons (ec_var rfl (ac_nil ⟨by show 2 ≤ sizeLine; decide, ec_lst (ac_nil ⟨by show 0 ≤ sizeLine; decide, _, gt_T (ks := [.inl (n : Int), .inl q.1]) rfl, ?_⟩)⟩)))))⟩))⟩⟩
          · decide
          rw [valG_gapE]
          refine ⟨_, rfl, rfl, rfl, trivial, fun g hg => ⟨_, _, ?_, gc_name, tc_yes ⟨rfl, rfl, fun _ => ?_⟩⟩⟩
          · decide
          repeat walk_at "g"
          exact ⟨rfl, rfl⟩
        rw [ef]
        refine rc_cat (sz_ok (by rw [List.length_map, List.length_map]; omega)) (.inl ?_)
        rw [← List.map_append, ← hstop]
        generalize hsx : stopsP E G (n : Int) row = stops at hsl hstop ⊢
        repeat walk_at "g"
        refine ec_lcp stops D.int (fun s => decide (0 ≤ s)) (fun s => rowPD (row ++ [((n : Int), s)])) (ic_list (ec_var rfl ⟨_, rfl, rfl, rfl, trivial⟩)) (sz_ok (by omega)) (fun s hs => ?_) (.inl ?_)
        · refine ⟨_, _, ?_, gc_name, ?_⟩
          · decide
          repeat walk_at "g"
          refine ⟨rfl, rfl, fun _ => ?_⟩
          repeat walk_at "g"
          refine ec_lst (ac_cons (ec_tup (ac_cons (ec_var rfl (ac_cons (ec_var rfl (ac_nil ⟨by show 2 ≤ sizeLine; decide, ac_nil ⟨by show 1 ≤ sizeLine; decide, ?_⟩⟩)))))))
          refine rc_cat (sz_ok (by rw [List.length_map]; show row.length + 1 ≤ _; omega)) (.inl ⟨?_, rfl⟩)
          unfold rowPD
          rw [List.map_append]
          rfl
        have hfs : (stops.filter fun s => decide (0 ≤ s)).length ≤ stops.length := List.length_filter_le _ _
        refine rc_cat (sz_ok (by rw [List.length_map, List.length_map]; omega)) (.inl ?_)
        have ew : widerP E G (n : Int) (known.take (m + 1)) = widerP E G (n : Int) (known.take m) ++ (stops.filter fun s => decide (0 ≤ s)).map fun s => row ++ [((n : Int), s)] := by
          rw [take_next hm]
          unfold widerP
          rw [List.flatMap_append, List.flatMap_singleton, hsx]
        rw [ew, List.map_append, List.map_map]
        exact ⟨rfl, _, _, rfl⟩
      · rintro τ O1 ⟨rfl, x9, x10, rfl⟩
        rw [List.take_length]
        repeat walk_at "g"
        exact ⟨rfl, _, _, _, _, rfl⟩
    · rintro τ O1 ⟨rfl, x7, x8, x9, x10, rfl⟩
      rw [List.take_length]
      obtain ⟨hk1, hk2⟩ := knownP_ok hE hG order.length order rfl ho3
      have hk3 : 91 ^ order.length ≤ 91 ^ 3 := Nat.pow_le_pow_right (by decide) ho3
      have etake : ∀ p, CornerP E G ((orders3 k).take (i + 1)) p ↔ CornerP E G ((orders3 k).take i) p ∨ ∃ row ∈ knownP E G order, p = sortP row := fun p => by
        unfold CornerP
        rw [take_next hord]
        constructor
        · rintro ⟨o, ho, h⟩
          rcases List.mem_append.mp ho with ho | ho
          · exact .inl ⟨o, ho, h⟩
          · rw [List.mem_singleton.mp ho] at h
            exact .inr h
        · rintro (⟨o, ho, h⟩ | h)
          · exact ⟨o, List.mem_append.mpr (.inl ho), h⟩
          · exact ⟨order, List.mem_append.mpr (.inr (List.mem_singleton.mpr rfl)), h⟩
      generalize knownP E G order = known at hk1 hk2 etake ⊢
      repeat walk_at "g"
      refine sc_for (ic_list (ec_var rfl ⟨_, rfl, fun m τ O' => ∃ ps : List (List Int), O' = (f, oT (ps.map kp)) :: O ∧ (∀ p, p ∈ ps ↔ CornerP E G ((orders3 k).take i) p ∨ ∃ row ∈ known.take m, p = sortP row) ∧ ps.length ≤ i * 753571 + m ∧ ∃ x7 x8 x9 x10, τ = [some (.lst (rows.map wrowD)), some (.int k), some (.lst (E.map intsD)), some (.dT (G.map gapE)), some (.adr f), some (intsD order), some (.lst (known.map rowPD)), x7, x8, x9, x10, none, none, none, none],
        ⟨ps, rfl, fun p => (hps p).trans ⟨.inl, fun z => z.elim id fun ⟨_, h, _⟩ => absurd h (by simp)⟩, Nat.le_add_right_of_le hlen, _, _, _, _, rfl⟩, fun _ _ _ _ => trivial, ?_, ?_⟩))
      · rintro m x τ O1 hx ⟨ps, rfl, hps, hlen, x7, x8, x9, x10, rfl⟩
        obtain ⟨row, hm, rfl⟩ := map_get hx
        have hml := (List.getElem?_eq_some_iff.mp hm).1
        have hrl := hk1 row (List.mem_of_getElem? hm)
        refine ⟨_, _, gc_name, sc_dputT ?_⟩
        repeat walk_at "g"
        have perm := List.mergeSort_perm row (PySem.W.dataLe false pdq)
        refine ec_lcp (row.mergeSort (PySem.W.dataLe false pdq)) ratD (fun _ => true) (fun q => .int q.2) (ic_list (ec_cb (ac_cons (ec_var rfl (ac_nil (bc_sort (xs := row) ratD pdq (fun q _ => .tup (.cons (.int _) (.cons (.int _) .nil))) (fun _ _ _ _ => rfl) (PySem.W.Sortable.tuples fun q => ⟨_, _, rfl⟩) (fun _ _ => by show 1 ≤ 8; decide) ⟨_, rfl, rfl, rfl, trivial⟩)))))) (sz_ok (by rw [perm.length_eq]; omega)) (fun q hq => ?_) (.inl ?_)
        · refine ⟨_, _, ?_, gc_tup (gcs_cons (gcs_cons gcs_nil)) rfl, tc_yes ⟨rfl, rfl, fun _ => ec_var rfl ⟨rfl, rfl⟩⟩⟩
          decide
        have es : ((row.mergeSort (PySem.W.dataLe false pdq)).filter fun _ => true).map (fun q => D.int q.2) = (sortP row).map D.int := by
          rw [filter_yes]
          unfold sortP
          rw [List.map_map]
          rfl
        rw [es]
        repeat walk_at "g"
        refine ⟨0, f, ps.map kp, (sortP row).map Sum.inl, rfl, ?_, rfl, ?_, ?_⟩
        · unfold ksD
          rw [List.map_map]
          rfl
        · rw [List.length_map]
          have : i * 753571 ≤ 5 * 753571 := Nat.mul_le_mul_right _ (by omega)
          exact Nat.lt_of_lt_of_le (by omega : _ < 6000000) (sz_ok (by omega))
        rw [putG_kp]
        refine ⟨insP ps (sortP row), rfl, fun p => ?_, by have := insP_len ps (sortP row); omega, _, _, _, _, rfl⟩
        rw [mem_insP, hps p, take_next hm]
        constructor
        · rintro (e | e | ⟨r, hr, e⟩)
          · exact .inr ⟨row, List.mem_append.mpr (.inr (List.mem_singleton.mpr rfl)), e⟩
          · exact .inl e
          · exact .inr ⟨r, List.mem_append.mpr (.inl hr), e⟩
        · rintro (e | ⟨r, hr, e⟩)
          · exact .inr (.inl e)
          · rcases List.mem_append.mp hr with hr | hr
            · exact .inr (.inr ⟨r, hr, e⟩)
            · rw [List.mem_singleton.mp hr] at e
              exact .inl e
      · rintro τ O1 ⟨ps, rfl, hps, hlen, x7, x8, x9, x10, rfl⟩
        rw [List.length_map, List.take_length] at hps
        rw [List.length_map] at hlen
        exact ⟨ps, rfl, fun p => (hps p).trans (etake p).symm, by omega, _, _, _, _, _, _, rfl⟩
  · rintro τ O1 ⟨ps, rfl, hps, hlen, x5, x6, x7, x8, x9, x10, rfl⟩
    have hps : ∀ p, p ∈ ps ↔ CornerP E G ((orders3 k).take ((orders3 k).map intsD).length) p := hps
    rw [List.length_map, List.take_length] at hps
    refine sc_fz (j := 0) (i := 4) rfl fz_T rfl ?_
    repeat walk_at "g"
    refine bc_listdT (.inl ?_)
    rw [List.map_map]
    have e : ps.map ((fun kv => ksD kv.1) ∘ kp) = ps.map prD := List.map_congr_left fun p _ => by
      show D.tup ((p.map Sum.inl).map kD) = D.tup (p.map D.int)
      rw [List.map_map]
      rfl
    rw [e]
    exact fin E G ps hst hps
end Ab

/-! ## AbD8 -/
set_option Elab.async false
set_option linter.all false
set_option maxRecDepth 100000
set_option maxHeartbeats 2000000
namespace Ab
open PySem L2
local macro_rules | `(tactic| walk_at "g") => `(tactic| first
  | with_reducible refine sc_seq ?_ | with_reducible refine sc_if ?_ | with_reducible refine sc_ret ?_ | with_reducible refine sc_asg ?_ | with_reducible refine sc_par ?_ | with_reducible refine sc_next ?_
  | ((with_reducible refine ec_var (d := ?dd) ?hv ?_); (case hv => exact rfl)) | with_reducible refine ec_int ?_ | with_reducible refine ec_bl ?_ | with_reducible refine ec_str ?_ | with_reducible refine ec_ty ?_ | with_reducible refine ec_non ?_
  | with_reducible refine ec_op ?_ | with_reducible refine ec_call ?_ | with_reducible refine ec_un ?_ | with_reducible refine ec_cb ?_ | with_reducible refine ec_if ?_ | with_reducible refine ec_andV ?_ | with_reducible refine ec_orV ?_ | with_reducible refine ec_notV ?_
  | with_reducible refine ac_cons ?_ | with_reducible refine ac_nil ?_ | (with_reducible refine ec_tup (ac_cons ?_)) | with_reducible refine ec_tup ?_
  | with_reducible refine tc_test ?_ | with_reducible refine tc_B ?_ | with_reducible refine tc_and ?_ | with_reducible refine tc_or ?_ | with_reducible refine tc_not ?_ | with_reducible refine tc_yes ?_
  | with_reducible refine rc_i0 ?_ | with_reducible refine rc_b0 ?_ | with_reducible refine rc_eqI ?_ | with_reducible refine rc_neI ?_ | with_reducible refine rc_eqS ?_ | with_reducible refine uc_neg ?_
  | with_reducible refine bc_int ?_ | with_reducible refine bc_abs ?_ | with_reducible refine bc_lenL ?_ | with_reducible refine bc_lenT ?_ | with_reducible refine bc_tupL ?_ | with_reducible refine bc_tupT ?_
  | with_reducible refine ec_chain ?_ | with_reducible refine ec_dget ?_ | with_reducible refine ec_dget2 ?_ | with_reducible refine ec_din ?_ | with_reducible refine ec_nget ?_ | with_reducible refine ec_nget2 ?_ | with_reducible refine ec_nnotin ?_ | with_reducible refine ec_app ?_ | with_reducible refine sc_nput ?_ | with_reducible refine sc_drop ?_ | with_reducible refine ec_setd ?_ | with_reducible refine ec_make ?_ | with_reducible refine ec_disp ?_ | with_reducible refine pc_cons ?_ | with_reducible refine pc_nil ?_ | with_reducible refine gc_sub ?_ | with_reducible refine sc_asgG ?_
  | with_reducible refine ⟨_, rfl, ?_⟩ | refine iteT ?_ | refine iteF ?_ | dsimp only )

theorem plainR_ok {k : Nat} {rs : List Raw} (h : ∀ r ∈ rs, NumsOk r.2 ∧ r.2.length = k) : (∀ r ∈ plainR rs, RowOk k r) ∧ (plainR rs).length ≤ rs.length := by
  unfold plainR
  refine ⟨fun r hr => ?_, ?_⟩
  · obtain ⟨kv, hkv, rfl⟩ := List.mem_map.mp hr
    have hk := (List.mem_filter.mp hkv).1
    refine ⟨?_, foundOf_keys (p := KeyOk) (fun r hr => keyOf_ok (h r hr).1) kv hk⟩
    exact foundOf_keys (p := fun x => x.length = k) (fun r hr => by unfold keyOf; rw [List.length_map]; exact (h r hr).2) kv hk
  · rw [List.length_map]
    exact Nat.le_trans (List.length_filter_le _ _) (foundOf_length rs)
theorem knownP_in {E : List (List Int)} {G : GpQ} : ∀ (m : Nat) (o : List Int), o.length = m → ∀ row ∈ knownP E G o, row.map (·.1) = o ∧ ∀ q ∈ row, 0 ≤ q.2
  | 0, o, h, row, hr => by
    rw [List.length_eq_zero_iff.mp h] at hr ⊢
    rw [List.mem_singleton.mp hr]
    exact ⟨rfl, fun q hq => absurd hq List.not_mem_nil⟩
  | m + 1, o, h, row, hr => by
    obtain ⟨p, c, rfl⟩ : ∃ p c, o = p ++ [c] := ⟨o.dropLast, o.getLast (fun e => by rw [e] at h; cases h), (List.dropLast_concat_getLast _).symm⟩
    rw [List.length_append, List.length_singleton] at h
    rw [knownP_snoc] at hr
    obtain ⟨r, hr1, hr2⟩ := List.mem_flatMap.mp hr
    obtain ⟨s, hs, rfl⟩ := List.mem_map.mp hr2
    obtain ⟨h1, h2⟩ := knownP_in m p (by omega) r hr1
    refine ⟨by rw [List.map_append, h1]; rfl, fun q hq => ?_⟩
    rcases List.mem_append.mp hq with hq | hq
    · exact h2 q hq
    · rw [List.mem_singleton.mp hq]
      exact of_decide_eq_true (List.mem_filter.mp hs).2
theorem cornerP_ok {E : List (List Int)} {G : GpQ} {k : Nat} {p : List Int} (h : CornerP E G (orders3 k) p) : p.length ≤ 3 ∧ ∀ x ∈ p, 0 ≤ x := by
  obtain ⟨o, ho, row, hr, rfl⟩ := h
  obtain ⟨h1, h2⟩ := knownP_in o.length o rfl row hr
  have perm := List.mergeSort_perm row (PySem.W.dataLe false pdq)
  unfold sortP
  refine ⟨?_, fun x hx => ?_⟩
  · rw [List.length_map, perm.length_eq, ← List.length_map (f := (·.1)) (as := row), h1]
    exact ordN_each 3 _ o ho
  · obtain ⟨q, hq, rfl⟩ := List.mem_map.mp hx
    exact h2 q (perm.mem_iff.mp hq)
theorem knownP_some {rows : List WRow} {k : Nat} {E : List (List Int)} {G : GpQ} (h : StopsOk rows k E G) : ∀ (o : List Int), (∀ c ∈ o, ∃ j : Nat, c = (j : Int) ∧ j < k) → ∃ row, row ∈ knownP E G o := by
  have key : ∀ (o : List Int) (known : List Key2), (∀ c ∈ o, ∃ j : Nat, c = (j : Int) ∧ j < k) → (∃ row, row ∈ known) → ∃ row, row ∈ o.foldl (fun known c => widerP E G c known) known := by
    intro o
    induction o with
    | nil => exact fun known _ h => h
    | cons c o ih =>
      intro known ho ⟨row, hrow⟩
      refine ih _ (fun d hd => ho d (List.mem_cons_of_mem _ hd)) ?_
      obtain ⟨j, rfl, hj⟩ := ho c List.mem_cons_self
      obtain ⟨ns, hns⟩ : ∃ ns, E[j]? = some ns := ⟨_, List.getElem?_eq_getElem (by rw [h.len]; exact hj)⟩
      have h0 : (0 : Int) ∈ ns := ((h.e j ns hns).2 0).mpr (.inl rfl)
      refine ⟨row ++ [((j : Int), 0)], List.mem_flatMap.mpr ⟨row, hrow, List.mem_map.mpr ⟨0, List.mem_filter.mpr ⟨?_, rfl⟩, rfl⟩⟩⟩
      unfold stopsP endsI
      rw [Int.toNat_natCast, List.getD_eq_getElem?_getD, hns]
      exact List.mem_append.mpr (.inl h0)
  exact fun o ho => key o [[]] ho ⟨[], List.mem_singleton.mpr rfl⟩
theorem orders3_some {k : Nat} (h : k ≤ 3) : ∃ o, o ∈ orders3 k := by
  rcases (by omega : k = 0 ∨ k = 1 ∨ k = 2 ∨ k = 3) with rfl | rfl | rfl | rfl <;> exact ⟨_, List.mem_cons_self⟩
theorem cornerP_some {rows : List WRow} {k : Nat} {E : List (List Int)} {G : GpQ} (hk : k ≤ 3) (h : StopsOk rows k E G) : ∃ p, CornerP E G (orders3 k) p := by
  obtain ⟨o, ho⟩ := orders3_some hk
  obtain ⟨row, hrow⟩ := knownP_some h o fun c hc => by
    obtain ⟨j, hj, rfl⟩ := List.mem_map.mp (ordN_mem 3 _ o ho c hc)
    exact ⟨j, rfl, List.mem_range.mp hj⟩
  exact ⟨_, o, ho, row, hrow, rfl⟩
/-! ### the greatest gap -/
def negR (B : List Row) : List Row := plainR (B.map fun r => rawOf (-r.1, r.2))
def GapOf (k : Nat) (A B : List Row) (R : List Row) : Prop := ∃ R' : List Row, R'.Perm (negR B) ∧ R.Perm (plainR ((A ++ R').map rawOf))
def wholes (R : List Row) : List WRow := R.map (wholeR (scaleQ R))
def Small (R : List Row) : Prop := scaleQ R < 1073741824 ∧ ∀ r ∈ wholes R, ∀ x ∈ r.2, x ≤ 1000000000
/-- the best prices for the whole rows of R -/
def BestP (k : Nat) (R : List Row) (p : List Int) : Prop := ∃ E G, StopsOk (wholes R) k E G ∧ CornerP E G (orders3 k) p ∧ ∀ q, CornerP E G (orders3 k) q → gainW (wholes R) q ≤ gainW (wholes R) p
def lowP (S : Int) (p : List Int) : List (Int × Int) := p.map fun x => low x S
def GapPre (k : Nat) (A B : List Row) : Prop := (1 ≤ k ∧ k ≤ 3) ∧ (∀ r ∈ A, RowOk k r) ∧ (∀ r ∈ B, RowOk k r) ∧ A.length + B.length ≤ 30 ∧ ∀ R, GapOf k A B R → Small R
def bestD (W : List WRow) : Option (List Int) → D
  | none => .non
  | some p => .tup [.int (gainW W p), prD p]
def BestAt (W : List WRow) (ps : List (List Int)) (i : Nat) : Option (List Int) → Prop
  | none => i = 0
  | some p => p ∈ ps ∧ ∀ q ∈ ps.take i, gainW W q ≤ gainW W p
def W_greatest_gap (K : PySem.W.Frag) (ds : List D) (O : Ow) (Φ : Cd) : Prop := ∃ (k : Nat) (A B : List Row), ds = [bidsD K k A, bidsD K k B] ∧ GapPre k A B ∧ ∀ R p, GapOf k A B R → BestP k R p → Φ (gapD K (low (gainW (wholes R) p) (scaleQ R)) (lowP (scaleQ R) p)) O
theorem sc_greatest_gap : FnScope ["one", "other", "gap", "scale", "rows", "best", "prices", "height"] ["one", "other"] (defScope s_greatest_gap) := ⟨rfl, rfl, rfl, by decide +kernel, rfl, by decide +kernel, by decide +kernel⟩
theorem kn_greatest_gap {P : Program} {w : World} {K : PySem.W.Frag} {mg : Str → Option Value} {base : Heap} (T : Txt K mg) : Kn P w K mg base "greatest_gap" 9 ["one", "other"] (spW (W_greatest_gap K)) := by
  have S := sc_greatest_gap
  have k_need_kinds_likeness := kn_need_kinds_likeness (P := P) (w := w) (base := base) T
  have k_scale_of := kn_scale_of (P := P) (w := w) (base := base) T
  have k_whole_rows := kn_whole_rows (P := P) (w := w) (base := base) T
  have k_corners_of := kn_corners_of (P := P) (w := w) (base := base) T
  have k_whole_gain := kn_whole_gain (P := P) (w := w) (base := base) T
  have k_Gap := kn_Gap___init__ (P := P) (w := w) (base := base) T
  have k_told := kn_told (P := P) (w := w) (base := base) T
  have k_price_tuple := kn_price_tuple (P := P) (w := w) (base := base) T
  refine kn_mk T.d_greatest_gap T.g_greatest_gap S (fun _ _ _ _ _ _ us hl => match us, hl with | [_, _], _ => rfl) (fun ds O Φ h => ?_) (fun cdv A outer s H E hr => ?_)
  · obtain ⟨k, A, B, rfl, ⟨hk, hA, hB, hl, hsm⟩, fin⟩ := h
    rfl
  have hu := hu_of hr
  have hu64 := hr.units
  have hu9 := hu9_of hr
  refine ⟨_, (pss_cons (ps_expr (pe_kn k_need_kinds_likeness hr (by decide) (pa_cons (pv 0) (pa_cons (pv 1) pa_nil))))
        (pss_cons (ps_set (i := 2) S.nd rfl (Or.inl rfl) (pe_op (op_own (m := "__add__") (kn_Bids___add__ (P := P) (w := w) (base := base) T) rfl T.sf_Bids hr (by decide)) (pv 0) (pe_un (un_own (kn_Bids___neg__ (P := P) (w := w) (base := base) T) hr (by decide)) (pv 1))))
        (pss_cons (ps_set (i := 3) S.nd rfl (Or.inl rfl) (pe_kn k_scale_of hr (by decide) (pa_cons (pe_fldK (K := K) rfl (pv 2) rfl) pa_nil)))
        (pss_cons (ps_set (i := 4) S.nd rfl (Or.inl rfl) (pe_kn k_whole_rows hr (by decide) (pa_cons (pe_fldK (K := K) rfl (pv 2) rfl) (pa_cons (pv 3) pa_nil))))
        (pss_cons (ps_set (i := 5) S.nd rfl (Or.inl rfl) pe_non)
        (pss_cons (ps_for PassesOwn.never rfl (pi_listK (K := K) rfl (pe_kn k_corners_of hr (by decide) (pa_cons (pv 4) (pa_cons (pe_fldK (K := K) rfl (pv 0) rfl) pa_nil)))) (pg_name (i := 6) S.nd rfl (Or.inl rfl)) (pss_cons (ps_set (i := 7) S.nd rfl (Or.inl rfl) (pe_kn k_whole_gain hr (by decide) (pa_cons (pv 4) (pa_cons (pv 6) (pa_cons pe_int pa_nil)))))
        (pss_one (ps_if (PW.pt (pw_or (pt_cmp (pc_isN (pv 5))) (pw_or1 (pt_cmpR op_gt (pv 7) (pe_ix (ix_seqK (K := K) rfl) (pv 5) pe_int (fun _ _ => rfl)) (nomark _))))) (pss_one (ps_set (i := 5) S.nd rfl (Or.inl rfl) (pe_tup (pa_cons (pv 7) (pa_cons (pv 6) pa_nil))))) pss_nil))))
        (pss_one (ps_ret (pe_mk k_Gap hr (by decide) (pa_cons (pe_kn k_told hr (by decide) (pa_cons (pe_tup (pa_cons (pe_ix (ix_seqK (K := K) rfl) (pv 5) pe_int (fun _ _ => rfl)) (pa_cons (pv 3) pa_nil))) (pa_cons pe_str pa_nil))) (pa_cons (pe_kn k_price_tuple hr (by decide) (pa_cons (pe_ix (ix_seqK (K := K) rfl) (pv 5) pe_int (fun _ _ => rfl)) (pa_cons (pv 3) pa_nil))) pa_nil))))))))))), fun ds O Φ h => ?_⟩
  obtain ⟨k, A, B, rfl, ⟨hk, hA, hB, hl, hsm⟩, fin⟩ := h
  repeat walk_at "g"
  refine ⟨k, A, B, rfl, ?_⟩
  repeat walk_at "g"
  refine uc_own1 ⟨k, B, rfl, hk, by omega, hB, fun R' hR' => ?_⟩
  have okN : ∀ r ∈ B.map (fun r => rawOf (-r.1, r.2)), NumsOk r.2 ∧ r.2.length = k := fun r hr => by
    obtain ⟨q, hq, rfl⟩ := List.mem_map.mp hr
    exact rawOf_ok (r := (-q.1, q.2)) (hB q hq)
  obtain ⟨n1, n2⟩ := plainR_ok okN
  rw [List.length_map] at n2
  have hR1 : ∀ r ∈ R', RowOk k r := fun r hr => n1 r (hR'.mem_iff.mp hr)
  have hR2 : R'.length ≤ B.length := by rw [hR'.length_eq]; exact n2
  refine rc_own2 ⟨k, A, R', rfl, hk, by omega, hA, hR1, fun R hR => ?_⟩
  have hgap : GapOf k A B R := ⟨R', hR', hR⟩
  obtain ⟨hS, hw⟩ := hsm R hgap
  have okA : ∀ r ∈ (A ++ R').map rawOf, NumsOk r.2 ∧ r.2.length = k := fun r hr => by
    obtain ⟨q, hq, rfl⟩ := List.mem_map.mp hr
    rcases List.mem_append.mp hq with hq | hq
    · exact rawOf_ok (hA q hq)
    · exact rawOf_ok (hR1 q hq)
  obtain ⟨m1, m2⟩ := plainR_ok okA
  rw [List.length_map, List.length_append] at m2
  have hRo : ∀ r ∈ R, RowOk k r := fun r hr => m1 r (hR.mem_iff.mp hr)
  have hRl : R.length ≤ 30 := by rw [hR.length_eq]; omega
  have hden : ∀ r ∈ R, ∀ q ∈ r.2, 0 < q.2 ∧ q.2 < 1073741824 := fun r hr q hq => let z := (hRo r hr).2.2 q hq; ⟨z.2.2.1, z.2.2.2⟩
  have hSp : 0 < scaleQ R := scaleQ_pos (fun r hr q hq => (hden r hr q hq).1) 1 (by decide)
  have hfin := fin R
  clear fin
  repeat walk_at "g"
  refine ec_fld T.cls_Bids T.na_Bids_rows ?_
  repeat walk_at "g"
  refine ⟨_, _, rfl, rfl, ?_⟩
  repeat walk_at "g"
  refine ⟨R, rfl, hden, ?_⟩
  repeat walk_at "g"
  refine ec_fld T.cls_Bids T.na_Bids_rows ?_
  repeat walk_at "g"
  refine ⟨_, _, rfl, rfl, ?_⟩
  repeat walk_at "g"
  refine ⟨R, scaleQ R, rfl, hSp, hS, by omega, fun r hr => ⟨by have := (hRo r hr).1; omega, hden r hr⟩, ?_⟩
  repeat walk_at "g"
  have hwl : ∀ r ∈ wholes R, r.2.length = k := fun r hr => by
    obtain ⟨q, hq, rfl⟩ := List.mem_map.mp hr
    show (q.2.map (wholeQ (scaleQ R))).length = k
    rw [List.length_map]
    exact (hRo q hq).1
  refine sc_for (ic_list (ec_call (ac_cons (ec_var rfl (ac_cons (ec_fld T.cls_Bids T.na_Bids_kinds (ec_var rfl ⟨_, _, rfl, rfl, ac_nil ⟨wholes R, k, rfl, hk.2, by unfold wholes; rw [List.length_map]; exact hRl, hwl, fun E G ps hst hps => ?_⟩⟩)))))))
  refine ⟨_, rfl, fun i τ O' => O' = O ∧ ∃ (b : Option (List Int)) (x6 x7 : Option D), BestAt (wholes R) ps i b ∧ τ = [some (bidsD K k A), some (bidsD K k B), some (bidsD K k R), some (.int (scaleQ R)), some (.lst ((wholes R).map wrowD)), some (bestD (wholes R) b), x6, x7], ⟨rfl, none, _, _, rfl, rfl⟩, fun _ _ _ _ => trivial, ?_, ?_⟩
  · rintro i x τ O1 hx ⟨rfl, b, x6, x7, hb, rfl⟩
    obtain ⟨p, hp, rfl⟩ := map_get hx
    have hc := cornerP_ok ((hps p).mp (List.mem_of_getElem? hp))
    refine ⟨_, _, gc_name, ?_⟩
    repeat walk_at "g"
    refine ⟨wholes R, p, rfl, hc.1, hc.2, hw, ?_⟩
    repeat walk_at "g"
    refine ec_isN ?_
    cases b with
    | none =>
      have hb : i = 0 := hb
      subst hb
      repeat walk_at "g"
      refine ⟨true, fun B v h => by cases h; rfl, ?_⟩
      refine ⟨true, rfl, iteT (iteT ?_)⟩
      repeat walk_at "g"
      refine ⟨by show 2 ≤ sizeLine; decide, rfl, some p, _, _, ⟨List.mem_of_getElem? hp, fun q hq => ?_⟩, rfl⟩
      rw [take_next hp] at hq
      have hq : q ∈ [p] := by simpa using hq
      rw [List.mem_singleton.mp hq]
      exact Int.le_refl _
    | some q =>
      obtain ⟨hq1, hq2⟩ := hb
      repeat walk_at "g"
      refine ⟨false, fun B v h => by cases h; rfl, ?_⟩
      repeat walk_at "g"
      refine rc_ixT (d := .int (gainW (wholes R) q)) rfl ?_
      repeat walk_at "g"
      have hnext : ∀ m : Int, (∀ r ∈ ps.take i, gainW (wholes R) r ≤ m) → gainW (wholes R) p ≤ m → ∀ r ∈ ps.take (i + 1), gainW (wholes R) r ≤ m := fun m h1 h2 r hr => by
        rw [take_next hp] at hr
        rcases List.mem_append.mp hr with hr | hr
        · exact h1 r hr
        · rw [List.mem_singleton.mp hr]
          exact h2
      by_cases hlt : gainW (wholes R) q < gainW (wholes R) p
      · rw [decide_eq_true hlt]
        repeat walk_at "g"
        exact ⟨by show 2 ≤ sizeLine; decide, rfl, some p, _, _, ⟨List.mem_of_getElem? hp, hnext _ (fun r hr => Int.le_of_lt (Int.lt_of_le_of_lt (hq2 r hr) hlt)) (Int.le_refl _)⟩, rfl⟩
      · rw [decide_eq_false hlt]
        refine iteF ?_
        exact sc_next ⟨rfl, some q, _, _, ⟨hq1, hnext _ hq2 (by omega)⟩, rfl⟩
  · rintro τ O1 ⟨rfl, b, x6, x7, hb, rfl⟩
    rw [List.length_map] at hb
    obtain ⟨p0, hp0⟩ := cornerP_some hk.2 hst
    have hp0 := (hps p0).mpr hp0
    cases b with
    | none =>
      have hb : ps.length = 0 := hb
      rw [List.length_eq_zero_iff.mp hb] at hp0
      exact absurd hp0 List.not_mem_nil
    | some p =>
      obtain ⟨hp1, hp2⟩ := hb
      rw [List.take_length] at hp2
      have hc := cornerP_ok ((hps p).mp hp1)
      have hres := hfin p hgap ⟨E, G, hst, (hps p).mp hp1, fun q hq => hp2 q ((hps q).mpr hq)⟩
      repeat walk_at "g"
      refine rc_ixT (d := .int (gainW (wholes R) p)) rfl ?_
      repeat walk_at "g"
      refine ⟨by show 2 ≤ sizeLine; decide, ?_⟩
      repeat walk_at "g"
      refine ⟨_, _, _, _, rfl, .tup _ _ hSp, hS, ?_⟩
      repeat walk_at "g"
      refine rc_ixT (d := prD p) rfl ?_
      repeat walk_at "g"
      refine ⟨p, scaleQ R, rfl, hc.1, hSp, hS, ?_⟩
      repeat walk_at "g"
      refine fun x => ⟨x, low (gainW (wholes R) p) (scaleQ R), lowP (scaleQ R) p, O1, ?_, rfl, rfl, _, _, rfl, hres⟩
      unfold lowP
      rw [List.map_map]
      rfl
theorem low01 : low 0 1 = (0, 1) := by decide +kernel
theorem low_fst_pos {a b : Int} (hb : 0 < b) : 0 < (low a b).1 ↔ 0 < a := by
  have g := gcdI_pos a b hb
  have d : gcdI a b ∣ a := Int.gcd_dvd_left a b
  unfold low
  constructor
  · intro h
    have e := Int.ediv_mul_cancel d
    rw [← e]
    exact Int.mul_pos h g
  · exact fun h => Int.ediv_pos_of_pos_of_dvd h (Int.le_of_lt g) d
def W_never_below (K : PySem.W.Frag) (ds : List D) (O : Ow) (Φ : Cd) : Prop := ∃ (k : Nat) (A B : List Row), ds = [bidsD K k B, bidsD K k A] ∧ GapPre k A B ∧ ∀ R p, GapOf k A B R → BestP k R p → Φ (if 0 < gainW (wholes R) p then .tup ((lowP (scaleQ R) p).map ratD) else .non) O
theorem sc_never_below : FnScope ["one", "other", "found"] ["one", "other"] (defScope s_never_below) := ⟨rfl, rfl, rfl, by decide +kernel, rfl, by decide +kernel, by decide +kernel⟩
theorem kn_never_below {P : Program} {w : World} {K : PySem.W.Frag} {mg : Str → Option Value} {base : Heap} (T : Txt K mg) : Kn P w K mg base "never_below" 10 ["one", "other"] (spW (W_never_below K)) := by
  have S := sc_never_below
  have k_greatest_gap := kn_greatest_gap (P := P) (w := w) (base := base) T
  have k_less := kn_less (P := P) (w := w) (base := base) T
  refine kn_mk T.d_never_below T.g_never_below S (fun _ _ _ _ _ _ us hl => match us, hl with | [_, _], _ => rfl) (fun ds O Φ h => ?_) (fun cdv A outer s H E hr => ?_)
  · obtain ⟨k, A, B, rfl, pre, fin⟩ := h
    rfl
  have hu := hu_of hr
  have hu64 := hr.units
  have hu9 := hu9_of hr
  refine ⟨_, (pss_cons (ps_set (i := 2) S.nd rfl (Or.inl rfl) (pe_kn k_greatest_gap hr (by decide) (pa_cons (pv 1) (pa_cons (pv 0) pa_nil))))
        (pss_one (ps_ret (pe_ifExp (pt_val (pe_kn k_less hr (by decide) (pa_cons (pe_tup (pa_cons pe_int (pa_cons pe_int pa_nil))) (pa_cons (pe_fldK (K := K) rfl (pv 2) rfl) pa_nil)))) (pe_fldK (K := K) rfl (pv 2) rfl) pe_non)))), fun ds O Φ h => ?_⟩
  obtain ⟨k, A, B, rfl, pre, fin⟩ := h
  repeat walk_at "g"
  refine ⟨k, A, B, rfl, pre, fun R p hR hp => ?_⟩
  have hfin := fin R p hR hp
  have hsm := pre.2.2.2.2 R hR
  have hSp : 0 < scaleQ R := by
    obtain ⟨R', hR1, hR2⟩ := hR
    have okN : ∀ r ∈ B.map (fun r => rawOf (-r.1, r.2)), NumsOk r.2 ∧ r.2.length = k := fun r hr => by
      obtain ⟨q, hq, rfl⟩ := List.mem_map.mp hr
      exact rawOf_ok (r := (-q.1, q.2)) (pre.2.2.1 q hq)
    have okA : ∀ r ∈ (A ++ R').map rawOf, NumsOk r.2 ∧ r.2.length = k := fun r hr => by
      obtain ⟨q, hq, rfl⟩ := List.mem_map.mp hr
      rcases List.mem_append.mp hq with hq | hq
      · exact rawOf_ok (pre.2.1 q hq)
      · exact rawOf_ok ((plainR_ok okN).1 q (hR1.mem_iff.mp hq))
    exact scaleQ_pos (fun r hr q hq => (((plainR_ok okA).1 r (hR2.mem_iff.mp hr)).2.2 q hq).2.2.1) 1 (by decide)
  have hS := hsm.1
  generalize gainW (wholes R) p = g at hfin ⊢
  have g1 := low_snd_pos g (scaleQ R) hSp
  have g2 := low_snd_le g (scaleQ R) hSp
  have sg : decide ((low 0 1).1 * (low (low g (scaleQ R)).1 (low g (scaleQ R)).2).2 < (low (low g (scaleQ R)).1 (low g (scaleQ R)).2).1 * (low 0 1).2) = decide (0 < g) := by
    rw [low01, Int.zero_mul, Int.mul_one]
    exact decide_eq_decide.mpr ((low_fst_pos g1).trans (low_fst_pos hSp))
  repeat walk_at "g"
  refine ⟨by show 2 ≤ sizeLine; decide, ?_⟩
  repeat walk_at "g"
  refine ec_fld T.cls_Gap T.na_Gap_gap ?_
  repeat walk_at "g"
  refine ⟨_, _, rfl, rfl, ?_⟩
  repeat walk_at "g"
  refine ⟨_, _, 0, 1, _, _, rfl, .tup _ _ (by decide), .tup _ _ g1, by decide, by omega, ?_⟩
  rw [sg]
  repeat walk_at "g"
  by_cases hg : 0 < g
  · rw [decide_eq_true hg]
    repeat walk_at "g"
    refine ec_fld T.cls_Gap T.na_Gap_prices ?_
    repeat walk_at "g"
    refine ⟨_, _, rfl, rfl, ?_⟩
    rw [if_pos hg] at hfin
    exact hfin
  · rw [decide_eq_false hg]
    repeat walk_at "g"
    rw [if_neg hg] at hfin
    exact hfin
end Ab

/-! ## AbP -/
set_option Elab.async false
set_option linter.all false
set_option maxRecDepth 100000
set_option maxHeartbeats 1000000
/-! more readings by data, for the law's own text -/
namespace Ab
open PySem L2 RZ
section
variable {K : PySem.W.Frag} {τ : Tau} {O : Ow} {te tl : TE} {E : De} {Φ : Cd} {ts : TS} {Ψ : List D → (Ow → Prop) → Ow → Prop}
/-! what is ours, told otherwise -/
theorem sc_open {ι : Type} {a : Addr} {t : Ot} {f : ι → Ot} {Cn : ι → Prop} (ht : ∀ B o, t.ok B o → ∃ x, Cn x ∧ (f x).ok B o) (h : ∀ x, Cn x → Sc ts E τ ((a, f x) :: O)) : Sc ts E τ ((a, t) :: O) := fun σ B C s o F g => by
  obtain ⟨u, hc, hu⟩ := o.at_ (j := 0) rfl
  obtain ⟨x, hx, hf⟩ := ht B u hu
  have l := o.retype (j := 0) (t' := f x) rfl fun v hv _ => by
    rw [hc] at hv
    obtain rfl := Option.some.inj hv
    exact hf
  exact h x hx σ B C s l.ok F (g.back l)
theorem ec_re (h : Ec te τ O fun d O1 => ∃ (i : Nat) (a : Addr) (t t' : Ot), O1[i]? = some (a, t) ∧ (∀ B o, t.ok B o → t'.ok B o) ∧ Φ d (O1.set i (a, t'))) : Ec te τ O Φ := fun σ B C s o Q g =>
  h σ B C s o _ fun v d B1 C1 O1 ⟨i, a, t, t', hi, hm, p⟩ l1 d1 => g _ _ _ _ _ p (l1.trans (l1.ok.retype hi fun u _ hu => hm _ _ hu)) d1
theorem sc_re {i : Nat} {a : Addr} {t t' : Ot} (hi : O[i]? = some (a, t)) (hm : ∀ B o, t.ok B o → t'.ok B o) (h : Sc ts E τ (O.set i (a, t'))) : Sc ts E τ O := fun σ B C s o F g => by
  have l := o.retype hi fun u _ hu => hm _ _ hu
  exact h σ B C s l.ok F (g.back l)
theorem ec_re0 {i : Nat} {a : Addr} {t t' : Ot} (hi : O[i]? = some (a, t)) (hm : ∀ B o, t.ok B o → t'.ok B o) (h : Ec te τ (O.set i (a, t')) Φ) : Ec te τ O Φ := fun σ B C s o F g => by
  have l := o.retype hi fun u _ hu => hm _ _ hu
  exact h σ B C s l.ok F (g.back l)
theorem ec_permO {O' : Ow} (hp : O'.Perm O) (h : Ec te τ O' Φ) : Ec te τ O Φ := fun σ B C s o Q g => h σ B C s (o.perm hp).ok Q (g.back (o.perm hp))
theorem ec_permR (h : Ec te τ O fun d O1 => ∃ O2, O2.Perm O1 ∧ Φ d O2) : Ec te τ O Φ := fun σ B C s o Q g =>
  h σ B C s o _ fun v d B1 C1 O1 ⟨O2, hp, p⟩ l1 d1 => g _ _ _ _ _ p (l1.trans (l1.ok.perm hp)) d1
theorem swapO (x y : Addr × Ot) (O : Ow) : (x :: y :: O).Perm (y :: x :: O) := List.Perm.swap _ _ _
/-! the script -/
theorem wk_sl {B : Hp} {a : Addr} {ns : List Int} (h : SqL K B a (ns.map V.int)) : Wk (Itl K a) B (ns.map D.int) Any :=
  ⟨fun O B1 C1 i d _ s k e => by
    obtain ⟨n, hn, rfl⟩ := map_get e
    have sq : SqL K C1 a (ns.map V.int) := sqL_mono (s.trans k.sub) h
    have hv : (ns.map V.int)[i]? = some (.int n) := by rw [List.getElem?_map, hn]; rfl
    refine ⟨⟨_, _, sq, hv⟩, fun y C2 ⟨e2, f⟩ => ?_⟩
    subst e2
    have := f _ sq
    rw [hv] at this
    obtain rfl := Option.some.inj this
    exact ⟨B1, k.le, .int n⟩, fun O B1 C1 _ s k => ⟨_, sqL_mono (s.trans k.sub) h, by rw [List.length_map, List.length_map]; exact Nat.le_refl _⟩⟩
theorem ic_sl (h : Ec tl τ O fun d O1 => ∃ ns, d = .sl K ns ∧ Ψ (ns.map D.int) Any O1) : Ic (iList K tl) τ O Ψ := fun σ B C s o R f =>
  h σ B C s o _ fun v d B1 C1 O1 ⟨ns, e, p⟩ l hd => by
    subst e
    cases hd with
    | sl hq => exact ⟨_, rfl, ⟨_, sqL_mono l.ok.sub hq⟩, f _ _ Any B1 C1 O1 p l (wk_sl hq)⟩
theorem bc_listSl {ns : List Int} (k : Φ (.lst (ns.map D.int)) O) : Bc (rListK K) [.sl K ns] O Φ := fun B C vs o d Q f => by
  cases d with
  | cons a b =>
    cases b
    cases a with
    | sl hq => exact ⟨_, _, rfl, .inl (sqL_mono o.sub hq), fun p hp => f.newL o hp (dtL_ints _ _) (.inl k)⟩
/-! zip of two tuples -/
theorem pi_zipAK {X : Cx} {e e2 : Expr} {ta : TA} {p pos tpos : Pos} {elts : List Expr} {kk : Nat} (hK : X.K = K) (hg : Gl X "zip") (hm : X.mg "zip" = none) (ha : PA X [e, e2] ta)
    (s2 : starEach [e, e2] X.env = (false, eval e X.env) :: starEach [e2] X.env := by rfl) (pl : (backTo pos (starEach [e2] X.env)).any (·.1) = false := by rfl) : PI X (.Tuple elts kk tpos) (.Call (.Name "zip" p) [e, e2] [] pos) (RZ.iZipA K ta) := by
  subst hK
  exact pi_zipA hg hm ha s2 pl
theorem wk_zt {B : Hp} {a b : Addr} {xs ys : List V} {ds es : List D} (ha : B a = some (.tup xs)) (hb : B b = some (.tup ys)) (hd : DtL B xs ds) (he : DtL B ys es) : Wk (ItzT K a b) B (zipD ds es) Any := by
  refine ⟨fun O B1 C1 i d _ s k e => ?_, fun O B1 C1 _ s k => ?_⟩
  · have qx : SqT K C1 a xs := .inl (.inl (k.sub _ _ (s _ _ ha)))
    have qy : SqT K C1 b ys := .inl (.inl (k.sub _ _ (s _ _ hb)))
    obtain ⟨pr, hz, rfl⟩ := map_get (f := fun p : D × D => D.tup [p.1, p.2]) e
    obtain ⟨h1, h2⟩ := List.getElem?_zip_eq_some.mp hz
    obtain ⟨x, hx, dx⟩ := (hd.mono s).get h1
    obtain ⟨y, hy, dy⟩ := (he.mono s).get h2
    refine ⟨⟨xs, ys, x, y, qx, qy, hx, hy⟩, fun v C2 ⟨T, x', y', e1, e2, e3, f1, f2⟩ => ?_⟩
    obtain rfl := Option.some.inj ((f1 xs qx).symm.trans hx)
    obtain rfl := Option.some.inj ((f2 ys qy).symm.trans hy)
    subst e1 e3
    have l := k.lay (o := .tup [x', y']) e2
    exact ⟨_, l, .tup upd_same (.cons (dx.mono l.base) (.one (dy.mono l.base)))⟩
  · have l1 := hd.length
    have l2 := he.length
    have lz : (zipD ds es).length = min ds.length es.length := by
      unfold zipD
      rw [List.length_map, List.length_zip]
    exact ⟨xs, ys, .inl (.inl (k.sub _ _ (s _ _ ha))), .inl (.inl (k.sub _ _ (s _ _ hb))), by omega⟩
theorem ic_zt {ta : TA} (h : Ac ta τ O fun ds O1 => ∃ xs ys, ds = [.tup xs, .tup ys] ∧ Ψ (zipD xs ys) Any O1) : Ic (RZ.iZipA K ta) τ O Ψ := fun σ B C s o R f =>
  h σ B C s o _ fun vs ds B1 C1 O1 ⟨xs, ys, e, p⟩ l hd => by
    subst e
    cases hd with
    | cons h1 h2 =>
      cases h2 with
      | cons h2 h3 =>
        cases h3
        cases h1 with
        | tup a1 a2 =>
          cases h2 with
          | tup b1 b2 => exact ⟨_, _, _, _, rfl, .inr ⟨.inl (.inl (l.ok.sub _ _ a1)), .inl (.inl (l.ok.sub _ _ b1)), f _ _ Any B1 C1 O1 p l (wk_zt a1 b1 a2 b2)⟩⟩
/-! lists of ours -/
theorem bc_maxO {j : Nat} {a : Addr} {ns : List Int} (h : O[j]? = some (a, oLst (ns.map D.int))) (hn : ns ≠ []) (k : Φ (.int (maxI ns)) O) : Bc (rMax K) [.adr a] O Φ := fun B C vs o d Q f => by
  cases d with
  | cons x y =>
    cases y
    cases x
    obtain ⟨z, hc, xs, rfl, hx⟩ := o.at_ h
    have e := hx.ints
    subst e
    refine ⟨a, ns, rfl, .inl (.inl hc), List.length_pos_iff.mpr hn, fun m h1 h2 => ?_⟩
    rw [maxI_uniq h1 h2]
    exact f _ _ B C O k o.le (.int _)
theorem bc_lenO {j : Nat} {a : Addr} {ds : List D} (h : O[j]? = some (a, oLst ds)) (k : Φ (.int (ds.length : Int)) O) : Bc (rLenK K) [.adr a] O Φ := fun B C vs o d Q f => by
  cases d with
  | cons x y =>
    cases y
    cases x
    obtain ⟨z, hc, xs, rfl, hx⟩ := o.at_ h
    refine ⟨a, xs, rfl, .inl (.inl (.inl hc)), ?_⟩
    rw [hx.length]
    exact f _ _ B C O k o.le (.int _)
theorem rc_ixO {j : Nat} {a : Addr} {ds : List D} {i : Int} {d : D} (h : O[j]? = some (a, oLst ds)) (e : atI ds i = some d) (k : Φ d O) : Rc (rIx K) (.adr a) (.int i) O Φ := fun B C v u o x y Q g => by
  cases x
  cases y
  obtain ⟨z, hc, xs, rfl, hx⟩ := o.at_ h
  obtain ⟨j', h1, h2, h3, h4, h5⟩ := atI_get e
  obtain ⟨w, hw, hd⟩ := hx.get h2
  refine .inl ⟨a, xs, i, w, rfl, rfl, .inl (.inl hc), ?_, g _ _ B C O k o.le hd⟩
  unfold atI at e ⊢
  rw [hx.length]
  obtain ⟨j2, hj2, e2⟩ := Option.bind_eq_some_iff.mp e
  rw [hj2]
  have : j2 = j' := by
    obtain ⟨q, _⟩ := ixN_seq hj2
    rw [q] at h1
    exact Option.some.inj h1
  subst this
  exact hw
/-- l[i], m[j] = x, y -/
theorem sc_sub2 {to1 ti1 to2 ti2 : TE} (h : Ec te τ O fun d O1 => ∃ x y, d = .tup [x, y] ∧ Ec to1 τ O1 fun a1 O2 => Ec ti1 τ O2 fun i1 O3 => ∃ (j : Nat) (a : Addr) (ds : List D) (i : Int) (n : Nat), a1 = .adr a ∧ i1 = .int i ∧ O3[j]? = some (a, oLst ds) ∧ ixN ds.length i = some n ∧
      Ec to2 τ (O3.set j (a, oLst (ds.set n x))) fun a2 O4 => Ec ti2 τ O4 fun i2 O5 => ∃ (j' : Nat) (a' : Addr) (ds' : List D) (i' : Int) (n' : Nat), a2 = .adr a' ∧ i2 = .int i' ∧ O5[j']? = some (a', oLst ds') ∧ ixN ds'.length i' = some n' ∧ E.nx τ (O5.set j' (a', oLst (ds'.set n' y)))) :
    Sc (tAsg te (gTup K 2 (gCons (gSub to1 ti1 rSetL) (gCons (gSub to2 ti2 rSetL) gNil)))) E τ O := fun σ B C s o F f =>
  h σ B C s o _ fun v d B1 C1 O1 ⟨x, y, e, h1⟩ l1 d1 => by
    subst e
    cases d1 with
    | tup ha hl =>
      cases hl with
      | cons p1 p2 =>
        cases p2 with
        | cons p2 p3 =>
          cases p3
          refine ⟨_, _, rfl, .inl (.inl (l1.ok.sub _ _ ha)), rfl, _, _, rfl, ?_⟩
          refine h1 σ B1 C1 (s.mono l1.base) l1.ok _ fun a1 a1d B2 C2 O2 h2 l2 q1 => h2 σ B2 C2 ((s.mono l1.base).mono l2.base) l2.ok _ fun i1 i1d B3 C3 O3 ⟨j, a, ds, i, n, e1, e2, hO, hn, h3⟩ l3 q2 => ?_
          subst e1 e2
          cases q1
          cases q2
          obtain ⟨z, hc, xs, rfl, hx⟩ := l3.ok.at_ hO
          refine ⟨a, xs, i, n, rfl, rfl, hc, by rw [hx.length]; exact hn, _, _, rfl, ?_⟩
          have b13 := l2.base.trans l3.base
          have lw := l3.ok.write (u := oLst (ds.set n x)) hO (o := .lst (xs.set n _)) ⟨_, rfl, hx.set (p1.mono b13) n⟩
          have lt := ((l1.trans l2).trans l3).trans lw
          refine h3 σ B3 _ (s.mono lt.base) lw.ok _ fun a2 a2d B4 C4 O4 h4 l4 q3 => h4 σ B4 C4 ((s.mono lt.base).mono l4.base) l4.ok _ fun i2 i2d B5 C5 O5 ⟨j', a', ds', i', n', e1, e2, hO5, hn5, h5⟩ l5 q4 => ?_
          subst e1 e2
          cases q3
          cases q4
          obtain ⟨z5, hc5, xs5, rfl, hx5⟩ := l5.ok.at_ hO5
          refine ⟨a', xs5, i', n', rfl, rfl, hc5, by rw [hx5.length]; exact hn5, rfl, ?_⟩
          have lw5 := l5.ok.write (u := oLst (ds'.set n' y)) hO5 (o := .lst (xs5.set n' _)) ⟨_, rfl, hx5.set (((((p2.mono b13).mono lw.base).mono l4.base).mono l5.base)) n'⟩
          have lt5 := ((lt.trans l4).trans l5).trans lw5
          exact f.nx σ τ _ _ _ h5 lt5 (s.mono lt5.base)
theorem sc_par3 {i j l : Nat} {ta : TA} (h : Ac ta τ O fun ds O' => ∃ x y z, ds = [x, y, z] ∧ E.nx (((τ.set i (some x)).set j (some y)).set l (some z)) O') : Sc (tPar3 i j l ta) E τ O := fun σ B C s o F f =>
  h σ B C s o _ fun vs ds B' C' O' ⟨x, y, z, e, p⟩ q d => by
    subst e
    cases d with
    | cons d1 d2 =>
      cases d2 with
      | cons d2 d3 =>
        cases d3 with
        | cons d3 d4 =>
          cases d4
          exact ⟨_, _, _, rfl, f.nx _ _ B' C' O' p q ((((s.mono q.base).set i d1).set j d2).set l d3)⟩
end
/-! ### the pen -/
def penK (ns : List Int) (at_ dg ct fd : Int) : List (L2.Key × D) := [(.inr "cells", .lst (ns.map D.int)), (.inr "at", .int at_), (.inr "digits", .int dg), (.inr "count", .int ct), (.inr "fold", .int fd)]
structure PenOk (n : Nat) (x : List Int × Int × Int × Int × Int) : Prop where
  ln : x.1.length ≤ 1000
  a0 : 0 ≤ x.2.1
  d0 : 0 ≤ x.2.2.1
  c0 : 0 ≤ x.2.2.2.1
  c1 : x.2.2.2.1 ≤ n
  f0 : 0 ≤ x.2.2.2.2
  f1 : x.2.2.2.2 < 2147483648
abbrev penX (x : List Int × Int × Int × Int × Int) : List (L2.Key × D) := penK x.1 x.2.1 x.2.2.1 x.2.2.2.1 x.2.2.2.2
def oPen (n : Nat) : Ot := ⟨fun B o => ∃ x, PenOk n x ∧ (oK (penX x)).ok B o, fun s ⟨x, c, h⟩ => ⟨x, c, (oK (penX x)).mono s h⟩, fun ⟨x, c, h⟩ => (oK (penX x)).nt h⟩
theorem oPen_le {n m : Nat} (h : n ≤ m) : ∀ B o, (oPen n).ok B o → (oPen m).ok B o := fun B o ⟨x, c, k⟩ => ⟨x, ⟨c.ln, c.a0, c.d0, c.c0, by have := c.c1; omega, c.f0, c.f1⟩, k⟩
theorem oPen_of {n : Nat} {x : List Int × Int × Int × Int × Int} (c : PenOk n x) : ∀ B o, (oK (penX x)).ok B o → (oPen n).ok B o := fun B o k => ⟨x, c, k⟩
end Ab

/-! ## AbX1 -/
set_option Elab.async false
set_option linter.all false
set_option maxRecDepth 100000
set_option maxHeartbeats 1000000
/-! exceptions: an own base's __init__ called by its name; a try of which the second clause, by a name, takes what comes -/
namespace Ab
open PySem L2
section
variable {X : Cx}
/-- B.__init__(self, ..), where B is an own class over ValueError that has no __init__ of its own -/
theorem pe_ownInit {x : Str} {BE : Addr} {mc : Value} {e : Expr} {es : List Expr} {ta : TA} {p1 p2 pos : Pos} {pl : Sem Bool} (hg : Gl X x) (hm : X.mg x = some (.ref BE))
    (g1 : PySem.W.specialIn X.K (.ref BE) "__getattribute__" = some (some (.builtin "type.__getattribute__"))) (g2 : PySem.W.readsIn X.K BE mc = true)
    (g3 : PySem.W.findCls X.K (.ref BE) mc "__init__" = some (.val (.builtin "ValueError.__init__"))) (ha : PA X (e :: es) ta)
    (hc : eval (.Call (.Attribute (.Name x p1) "__init__" p2) (e :: es) [] pos) X.env = (do
        let o ← eval (.Name x p1) X.env
        standAt p2.atName
        let (f, fst) ← holding [o] (getMethod o "__init__" pl)
        callWith pos f fst (backTo pos (starEach (e :: es) X.env)) (backToKw pos (keywordEach [] X.env))) := by rfl)
    (hd : (x == ("__debug__" : Str)) = false := by decide) (he : starEach (e :: es) X.env = (false, eval e X.env) :: starEach es X.env := by rfl) (hp : (backTo pos (starEach es X.env)).any (·.1) = false := by rfl) :
    PE X (.Call (.Attribute (.Name x p1) "__init__" p2) (e :: es) [] pos) (tVeI X.K ta) := by
  constructor
  intro pins s σ H Q I h
  apply PySem.W.methodCall_KW (he := hc)
  refine ld_glob I hg hm ?_ hd
  refine PySem.W.method_cls I.kIn g1 (PySem.W.cls_value I.kIn g2 g3 (by decide +kernel) ?_)
  refine PyProof.Rows.callWith_method1 (thn (ha.run pos pins _ σ H _ (I.tok _) h) ?_) he hp
  rintro us t ⟨vs, H1, J, r, a, C, ws, rfl, hl, T, ea, q⟩
  cases r with
  | cons r0 rs =>
    cases r0
    have lu := rs.length
    exact oinit_ok T J ea (by rw [sizeLine_eq]; omega) fun t' J' => ⟨.non, _, J', rfl, q⟩
/-- what is wished of an exception: the first clause's class does not take it, the second's does -/
def wTwo (K : PySem.W.Frag) (c1 c2 : Value) (i : Nat) (ts : Addr → Value → Option Addr → TS) (D : Ends) : WX := fun cls d σ H =>
  PySem.W.exmOne K cls c1 = some false ∧ PySem.W.exmOne K cls c2 = some true ∧ ∀ a, H a = none →
    ts a cls d { nx := fun τ G => D.nx (τ.set i none) G, rt := D.rt, bk := fun τ G => D.bk (τ.set i none) G, ct := fun τ G => D.ct (τ.set i none) G } (σ.set i (some (.ref a))) H
theorem ps_try_two {x1 n1 x2 n2 : Str} {c1 c2 : Value} {i : Nat} {body s1 s2 : List Stmt} {b0 : Stmt} {np1 q1 np2 q2 pos : Pos} {more : List ExceptHandler} {tb : WX → TS} {ts : Addr → Value → Option Addr → TS}
    (hs : X.stack = X.env :: X.outer) (hf : X.env.frame = some X.env.locals) (hN : X.N.Nodup) (hi : X.N[i]? = some n2) (hl : X.env.kindOf n2 = some .local) (h1 : Names X x1 c1) (h2 : Names X x2 c2)
    (hb : ∀ W pn xe, Takes (X.tr pn xe) W → PassesOwn (model X.prog X.w) X.A X.env xe → PSs (X.tr pn xe) body (tb W))
    (hu : ∀ a oe cls d pn, Zc cls d oe → (∃ vs, oe.data = .fields vs) → PSs (X.suite a ((a, oe) :: pn)) (b0 :: s2) (ts a cls d)) :
    PS X (.Try body (.ExceptHandler (some (.Name x1 np1)) (some n1) s1 q1 :: .ExceptHandler (some (.Name x2 np2)) (some n2) (b0 :: s2) q2 :: more) [] [] pos) (fun D σ H => tb (wTwo X.K c1 c2 i ts D) D σ H) := by
  constructor
  intro pins s σ H D I h
  have fr : X.A.frames = some (X.env :: X.outer) := I.ok.frames.trans (congrArg some hs)
  apply wpAny_Try_except
  refine wpAny_mono ((hb (wTwo X.K c1 c2 i ts D) (X.pn ++ pins) (fun e t1 => wpAny (model X.prog X.w) X.A (noteFrame e X.env) (fun _ t2 => wpAny (model X.prog X.w) X.A (setFlight e none) (fun _ t3 => wpAny (model X.prog X.w) X.A
      (handleBy e X.env (.ExceptHandler (some (.Name x1 np1)) (some n1) s1 q1 :: .ExceptHandler (some (.Name x2 np2)) (some n2) (b0 :: s2) q2 :: more)) (SP X pins D) X.xe t3) X.xe t2) X.xe t1)
    (fun u t hx => ?_) PassesOwn.looking).run [] s σ H D (I.toTry _) h) (fun f t q => ?_) fun _ _ q => q
  rotate_left
  · cases f with
    | next => exact let ⟨τ, G, J, z⟩ := q; wpAny_execs_nil ⟨τ, G, J.ofTry I.ok, z⟩
    | ret v => exact let ⟨x, τ, G, J, r, z⟩ := q; ⟨x, τ, G, J.ofTry I.ok, r, z⟩
    | brk => exact let ⟨τ, G, J, z⟩ := q; ⟨τ, G, J.ofTry I.ok, z⟩
    | cont => exact let ⟨τ, G, J, z⟩ := q; ⟨τ, G, J.ofTry I.ok, z⟩
  · obtain ⟨a, B, s0, pins', τ, G, cls, d, rfl, J', nb, up, sky, na, os, ag, no, yes, hts⟩ := hx
    have J := J'.ofTry I.ok
    refine Sky.land Zc.steady fr hf (show Sky B (X.env :: X.outer) a (Zc cls d) X.env.locals t.heap by rw [← hs]; exact sky) fun g fl up2 => ?_
    have J3 : Inv X pins τ G { t with heap := g } := J.landed nb fl.1 (up.trans up2) os ag
    obtain ⟨oe, vs, ho, hz, hv⟩ := fl.there
    have off : a ∉ frs (X.env :: X.outer) := fun hm => by
      obtain ⟨_, o, e, nf⟩ := fl.2.2.1.mem hm
      exact nf vs (Option.some.inj (ho.symm.trans e) ▸ hv)
    have nL : a ≠ X.env.locals := fun z => off (List.mem_filterMap.mpr ⟨X.env, List.mem_cons_self, hf.trans (congrArg some z.symm)⟩)
    have nF : a ∉ X.fs := fun hm => let ⟨e, he, z⟩ := List.mem_filterMap.mp hm; off (List.mem_filterMap.mpr ⟨e, List.mem_cons_of_mem _ he, z⟩)
    have S := J3.suite ho hv na nL nF
    have type : PySem.W.Looks (model X.prog X.w) g (typeOf (.ref a)) cls := fun _ _ _ _ k z => wpAny_typeOf_ref (k _ _ ho) (hz.1.symm ▸ z)
    have named : ∀ {x : Str} {c : Value} {p : Pos} {Q E : Value → Shared → Prop}, Names X x c → Q c { t with heap := g } → wpAny (model X.prog X.w) (X.A.mark (some (.ref a))) (eval (.Name x p) X.env) Q E { t with heap := g } := fun {x c p Q E} hn z => by
      obtain ⟨k1, k2, k3 | ⟨k3, k4, k5⟩⟩ := hn
      · exact ld_glob (X := X.suite a ((a, oe) :: (X.pn ++ pins))) S k1 k3 z k2
      · exact ld_blt (X := X.suite a ((a, oe) :: (X.pn ++ pins))) S k1 k3 k4 z k5 k2
    refine wpAny_handleBy_cons (codeAny_handlers_test (named h1 ((PySem.W.exm_one J3.kIn type no).here ?_))) (fun z => nomatch z)
    refine wpAny_handleBy_cons (codeAny_handlers_test (named h2 ((PySem.W.exm_one J3.kIn type yes).here ?_))) (fun z => nomatch z)
    apply codeAny_handlers_suite_as
    refine HandSPX.lands_againZ fl fun g4 fl4 up4 => ?_
    have J4 : Inv X pins τ G { t with heap := g4 } := J.landed nb fl4.1 ((up.trans up2).trans up4) os ag
    obtain ⟨oe4, vs4, ho4, hz4, hv4⟩ := fl4.there
    refine store_ok (X := X.suite a ((a, oe4) :: (X.pn ++ pins))) (v := .ref a) (J4.suite ho4 hv4 na nL nF) hN hi (.inl hl) rfl (fun t5 S5 => ?_) (.inr hl)
    refine wpAny_mono ((hu a oe4 cls d (X.pn ++ pins) hz4 ⟨_, hv4⟩).run [] t5 _ G _ S5 (hts a na)) (fun f t6 q => ?_) fun _ _ z => z.elim
    have out : ∀ {τ6 : L2.St} {G6 : Hp} {Q : Shared → Prop}, Inv (X.suite a ((a, oe4) :: (X.pn ++ pins))) [] τ6 G6 t6 → (∀ t7, Inv X pins (τ6.set i none) G6 t7 → Q t7) →
        wpAny (model X.prog X.w) X.A (do bindName X.env n2 .none; unbindBehindTheSuite X.env n2 q2) (fun _ t7 => Q t7) X.xe t6 := fun S6 k => gone_ok (S6.unsuite I.ok) hN hi hl k
    cases f with
    | next => exact let ⟨τ6, G6, S6, z⟩ := q; out S6 fun t7 J7 => ⟨_, _, J7, z⟩
    | ret v => exact let ⟨x, τ6, G6, S6, r, z⟩ := q; out S6 fun t7 J7 => ⟨_, _, _, J7, r, z⟩
    | brk => exact let ⟨τ6, G6, S6, z⟩ := q; out S6 fun t7 J7 => ⟨_, _, J7, z⟩
    | cont => exact let ⟨τ6, G6, S6, z⟩ := q; out S6 fun t7 J7 => ⟨_, _, J7, z⟩
/-- statements that are never reached -/
theorem pss_none {ss : List Stmt} : PSs X ss (fun _ _ _ => False) := ⟨fun _ _ _ _ _ _ h => h.elim⟩
end
end Ab

/-! ## AbX2 -/
set_option Elab.async false
set_option linter.all false
set_option maxRecDepth 100000
set_option maxHeartbeats 1000000
/-! two lists of different kinds: what is raised, and what _law_fault makes of it -/
namespace Ab
open PySem L2
abbrev cU (K : PySem.W.Frag) : Addr := He.ga K "Unlike"
abbrev fU (K : PySem.W.Frag) : Addr := He.fAd K ("Unlike", some "__init__")
/-- what the top has left of the errors -/
structure TxtE (K : PySem.W.Frag) (mg : Str → Option Value) : Prop where
  gU : mg "Unlike" = some (.ref (cU K))
  gR : mg "BadRow" = some (.ref (He.ga K "BadRow"))
  gB : mg "BidError" = some (.ref (He.ga K "BidError"))
  ox : OexC K (cU K)
  xf : XfC K (cU K)
  na : PySem.W.findIn K (.ref (cU K)) "what" = some none
  ii : PySem.W.findIn K (.ref (cU K)) "__init__" = some (some (.ref (fU K)))
  it : PySem.W.typeIn K (.ref (fU K)) = some (.type "function")
  e1 : PySem.W.exmOne K (.ref (cU K)) (.ref (He.ga K "BadRow")) = some false
  e2 : PySem.W.exmOne K (.ref (cU K)) (.ref (cU K)) = some true
  b1 : PySem.W.specialIn K (.ref (He.ga K "BidError")) "__getattribute__" = some (some (.builtin "type.__getattribute__"))
  b2 : PySem.W.readsIn K (He.ga K "BidError") (.type "type") = true
  b3 : PySem.W.findCls K (.ref (He.ga K "BidError")) (.type "type") "__init__" = some (.val (.builtin "ValueError.__init__"))
section
variable {P : Program} {w : World} {K : PySem.W.Frag} {mg : Str → Option Value} {base : Heap}
def spU (K : PySem.W.Frag) : Sp := fun vs H Q _ => ∃ (a : Addr) (y : V), vs = [.ref a, y] ∧ H a = some (exo a (cU K) none) ∧
  ∀ dx, H dx = none → dx ≠ a → Q .non (upd (upd H dx (exd dx [("what", y)])) a (exo a (cU K) (some dx)))
theorem sc_Unlike : FnScope ["self", "what"] ["self", "what"] (defScope s_Unlike___init__) := ⟨rfl, rfl, rfl, by decide +kernel, rfl, by decide +kernel, by decide +kernel⟩
theorem fx_Unlike (T : Txt K mg) (U : TxtE K mg) : ∃ fd, Binds K fd ["self", "what"] [] ∧ FnOk P w K mg base CX0 1 (fU K) fd ["self", "what"] (spU K) := by
  obtain ⟨fd, F⟩ := T.d_Unlike___init__
  refine ⟨fd, F.bindsN (fun _ _ _ _ _ _ us hl => match us, hl with | [_, _], _ => rfl), F.ok sc_Unlike (fun vs H Q E h => ?_) fun cdv A outer s H vs Q E hr h => ?_⟩
  · obtain ⟨a, y, rfl, _⟩ := h
    rfl
  obtain ⟨a, y, rfl, ha, fin⟩ := h
  refine ⟨_, pss_cons (ps_expr (pe_ownInit (by rfl) U.gB U.b1 U.b2 U.b3 (pa_cons (pv 0) (pa_cons pe_str pa_nil)))) (pss_one (ps_ost (pv 0) (pv 1))), ?_⟩
  refine ⟨.ref a, rfl, a, cU K, _, rfl, by decide, U.ox, ha, ?_⟩
  exact ⟨y, rfl, .ref a, rfl, a, cU K, rfl, U.ox, U.na, .inl ⟨ha, fin⟩⟩
/-- two Bids of different kinds: Unlike, whose field what is kinds -/
def spK (K : PySem.W.Frag) : Sp := fun vs H _ E => ∃ (a b dx dy : Addr) (fs gs : List (Str × V)) (i j : Int), vs = [.ref a, .ref b] ∧ H a = some (.ins (cB K) dx fs) ∧ H b = some (.ins (cB K) dy gs) ∧
  fs.lookup ("kinds" : Str) = some (.int i) ∧ gs.lookup ("kinds" : Str) = some (.int j) ∧ i ≠ j ∧ ∀ d H', H' d = some (.xd [("what", .str "kinds")]) → E (.ref (cU K)) (some d) H'
theorem spK_len : ∀ vs H Q E, spK K vs H Q E → vs.length = (["one", "other"] : List Str).length := fun vs H Q E h => by
  obtain ⟨a, b, dx, dy, fs, gs, i, j, rfl, _⟩ := h
  rfl
theorem fx_need (T : Txt K mg) (U : TxtE K mg) : ∃ fd, Binds K fd ["one", "other"] [] ∧ FnOk P w K mg base (L2.CX P w) 3 (He.fAd K ("need_kinds_likeness", none)) fd ["one", "other"] (spK K) ∧ PySem.W.keepIn K (.ref (He.fAd K ("need_kinds_likeness", none))) = true := by
  obtain ⟨fd, F⟩ := T.d_need_kinds_likeness
  obtain ⟨fu, hbu, FU⟩ := fx_Unlike (P := P) (w := w) (base := base) T U
  have S := sc_need_kinds_likeness
  refine ⟨fd, F.bindsN (fun _ _ _ _ _ _ us hl => match us, hl with | [_, _], _ => rfl), F.ok S spK_len fun cdv A outer s H vs Q E hr h => ?_, F.kp⟩
  obtain ⟨a, b, dx, dy, fs, gs, i, j, rfl, ha, hb, hi, hj, ne, fin⟩ := h
  refine ⟨_, pss_one (ps_if (pt_cmpR op_ne (pe_fldK (K := K) rfl (pv 0) rfl) (pe_fldK (K := K) rfl (pv 1) rfl) (nomark _))
    (pss_one (ps_raise rfl (takes_of rfl rfl rfl rfl) (pmk_oex U.ox U.ii U.it FU hr hbu .nil pass0 (by rfl) U.gU (pa_cons pe_str pa_nil)))) pss_nil), ?_⟩
  refine ⟨.ref a, rfl, a, cB K, dx, fs, .int i, rfl, ha, T.cls_Bids, T.na_Bids_kinds, hi, .ref b, rfl, b, cB K, dy, gs, .int j, rfl, hb, T.cls_Bids, T.na_Bids_kinds, hj, rfl, true, ?_, ?_⟩
  · rw [decide_eq_false fun z => ne (V.int.inj z)]
    rfl
  refine ⟨by decide, fun x hx => ⟨x, .str "kinds", rfl, upd_same, fun d hd hne => ⟨rfl, d, [("what", .str "kinds")], upd_same, ?_, ?_, fin d _ upd_same⟩⟩⟩
  · rw [upd_ne hne, upd_same]
  · rw [upd_ne hne] at hd
    exact hd
theorem fx_gap (T : Txt K mg) (U : TxtE K mg) : ∃ fd, Binds K fd ["one", "other"] [] ∧ FnOk P w K mg base (L2.CX P w) 4 (He.fAd K ("greatest_gap", none)) fd ["one", "other"] (spK K) ∧ PySem.W.keepIn K (.ref (He.fAd K ("greatest_gap", none))) = true := by
  obtain ⟨fd, F⟩ := T.d_greatest_gap
  obtain ⟨fn, hbn, FN, kp⟩ := fx_need (P := P) (w := w) (base := base) T U
  have S := sc_greatest_gap
  refine ⟨fd, F.bindsN (fun _ _ _ _ _ _ us hl => match us, hl with | [_, _], _ => rfl), F.ok S spK_len fun cdv A outer s H vs Q E hr h => ?_, F.kp⟩
  refine ⟨_, pss_cons (ps_expr (pe_call FN hr (by rfl) T.g_need_kinds_likeness kp hbn .nil (passes_call (takes_of rfl rfl rfl rfl) fun _ _ _ _ z => z) (pa_cons (pv 0) (pa_cons (pv 1) pa_nil)))) pss_none, ?_⟩
  obtain ⟨a, b, dx, dy, fs, gs, i, j, rfl, r⟩ := h
  exact ⟨.ref a, rfl, .ref b, rfl, a, b, dx, dy, fs, gs, i, j, rfl, r⟩
theorem fx_never (T : Txt K mg) (U : TxtE K mg) : ∃ fd, Binds K fd ["one", "other"] [] ∧ FnOk P w K mg base (L2.CX P w) 5 (He.fAd K ("never_below", none)) fd ["one", "other"] (spK K) ∧ PySem.W.keepIn K (.ref (He.fAd K ("never_below", none))) = true := by
  obtain ⟨fd, F⟩ := T.d_never_below
  obtain ⟨fn, hbn, FN, kp⟩ := fx_gap (P := P) (w := w) (base := base) T U
  have S := sc_never_below
  refine ⟨fd, F.bindsN (fun _ _ _ _ _ _ us hl => match us, hl with | [_, _], _ => rfl), F.ok S spK_len fun cdv A outer s H vs Q E hr h => ?_, F.kp⟩
  refine ⟨_, pss_cons (ps_set (i := 2) S.nd rfl (Or.inl rfl) (pe_call FN hr (by rfl) T.g_greatest_gap kp hbn .nil (passes_call (takes_of rfl rfl rfl rfl) fun _ _ _ _ z => z) (pa_cons (pv 1) (pa_cons (pv 0) pa_nil)))) pss_none, ?_⟩
  obtain ⟨a, b, dx, dy, fs, gs, i, j, rfl, ha, hb, hi, hj, ne, fin⟩ := h
  exact ⟨.ref b, rfl, .ref a, rfl, b, a, dy, dx, gs, fs, j, i, rfl, hb, ha, hj, hi, fun z => ne z.symm, fin⟩
end
/-! ### _law_fault over what it got -/
/-- what is wished of the lambda's exception -/
def xU (K : PySem.W.Frag) (Q : VK) : XK := fun cls d H => cls = .ref (cU K) ∧ ∃ dd, d = some dd ∧ H dd = some (.xd [("what", .str "kinds")]) ∧ ∀ p, H p = none → Q (.ref p) (upd H p (.tup [.str "unlike", .str "kinds"]))
def TTf (K : PySem.W.Frag) : (XK → Hp → VK → Prop) → Hp → VK → Prop := fun tl H Q => ∀ (p : Addr) (R : VK), H p = none → tl (xU K Q) (upd H p (.tup [.str "none"])) R
theorem sc_fault : FnScope ["_law_call", "_law_found", "error"] ["_law_call"] (defScope s__law_fault) := ⟨rfl, rfl, rfl, by decide +kernel, rfl, by decide +kernel, by decide +kernel⟩
theorem takes_len {X : Cx} {W : WX} (tk : Takes X W) : Takes X fun cls d σ H => σ.length = X.N.length → W cls d σ H := fun u s' hx => by
  obtain ⟨a, B, sI, pins, σ, H, cls, d, e, I, nb, up, sky, na, os, ag, w⟩ := hx
  exact tk u s' ⟨a, B, sI, pins, σ, H, cls, d, e, I, nb, up, sky, na, os, ag, w I.len⟩
theorem fault_gives {X : Cx} (U : TxtE X.K X.mg) {g : Addr} {cdg : Value} {q : Str} : LamX.GivesTo X ["_law_call", "_law_found", "error"] "_law_fault" (defScope s__law_fault) g cdg (defBody s__law_fault) "_law_call" q (TTf X.K) := by
  intro f c' s H Q tl act hc h
  have S := sc_fault
  refine ⟨_, pss_cons (ps_set (i := 1) S.nd rfl (Or.inl rfl) (pe_tup (pa_cons pe_str pa_nil))) (pss_cons (ps_try_two (i := 2) (c1 := .ref (He.ga X.K "BadRow")) (c2 := .ref (cU X.K))
    (tb := fun W D σ H => ∃ Ech : XK, (∀ cls d τ G, τ.length = 3 → Ech cls d G → W cls d τ G) ∧ σ[0]? = some (some (.ref f)) ∧ H c' = some (LamX.CodeO c' q) ∧ tl Ech H fun _ G => D.nx σ G) rfl rfl S.nd rfl rfl ⟨by rfl, by decide, .inl U.gR⟩ ⟨by rfl, by decide, .inl U.gU⟩
    (fun W pn xe tk _ => ⟨fun pins t σ G D I z => ?_⟩) (fun a oe cls d pn hz hv => pss_one (ps_set (i := 1) S.nd rfl (Or.inl rfl) (pe_tup (pa_cons pe_str (pa_cons (pe_xf U.xf U.na hz hv (pv 2)) pa_nil)))))) (pss_one (ps_ret (pv 1)))), ?_⟩
  · obtain ⟨Ech, hW, z1, z2, z3⟩ := z
    exact (pss_one (ps_expr (act _ pn xe Ech _ _ (takes_len tk) fun cls d τ G k hl => hW cls d τ G hl k))).run pins t σ G D I ⟨z1, z2, z3⟩
  · refine ⟨by decide, fun p hp => ?_⟩
    have hcp : c' ≠ p := fun z => by
      rw [z, hp] at hc
      cases hc
    refine ⟨xU X.K Q, fun cls d τ G hl k => ?_, rfl, by rw [upd_ne hcp]; exact hc, ?_⟩
    · obtain ⟨rfl, dd, rfl, hd, fin⟩ := k
      refine ⟨U.e1, U.e2, fun a ha => ?_⟩
      match τ, hl with
      | [t0, t1, t2], _ => exact ⟨.ref a, rfl, rfl, rfl, dd, _, _, rfl, hd, rfl, by decide, fun r hr => ⟨.ref r, rfl, fin r hr⟩⟩
    · exact h p _ hp
end Ab

/-! ## AbX3 -/
set_option Elab.async false
set_option linter.all false
set_option maxRecDepth 100000
set_option maxHeartbeats 1000000
/-! the law's body with the table of its code object: all but its last row leaves the table as it is -/
namespace Ab
open PySem L2
section
variable {K : PySem.W.Frag} {P : Addr} {τ : Tau} {O : Ow}
/-- what is known, without the tables -/
def noT (H : Hp) : Hp := fun b => match H b with
  | some (.tbl _) => none
  | x => x
theorem noT_at {H : Hp} {b : Addr} {o : HO} (h : H b = some o) (n : ∀ ps, o ≠ .tbl ps) : noT H b = some o := by
  unfold noT
  rw [h]
  cases o with
  | tbl ps => exact absurd rfl (n ps)
  | _ => rfl
theorem noT_sub {H : Hp} : Same (noT H) H := fun b o e => by
  unfold noT at e
  cases z : H b with
  | none =>
    rw [z] at e
    cases e
  | some u =>
    rw [z] at e
    cases u with
    | tbl ps => cases e
    | _ => exact e
theorem noT_tbl {H : Hp} {ps : Array Value} (h : H P = some (.tbl ps)) : noT H P = none := by
  unfold noT
  rw [h]
theorem sqL_noT {H : Hp} {a : Addr} {xs : List V} (h : SqL K H a xs) : SqL K (noT H) a xs := by
  rcases h with (h | ⟨o, h⟩) | h
  · exact .inl (.inl (noT_at h fun _ z => by cases z))
  · exact .inl (.inr ⟨o, noT_at h fun _ z => by cases z⟩)
  · exact .inr h
/-- as Sc, where the table at P is empty and not ours, and True is handed back -/
def ScP (P : Addr) (ts : TS) (τ : Tau) (O : Ow) : Prop := ∀ σ B C, Sl B σ τ → Ok B C O → B P = none → C P = some (.tbl #[]) → P ∉ O.map (·.1) → ∀ F : Ends, (∀ H, F.rt (.bl true) H) → ts F σ C
theorem scp_seq {t u : TS} (h : Sc t { nx := fun τ' O' => ScP P u τ' O', rt := fun _ _ => False } τ O) : ScP P (tSeq t u) τ O := fun σ B C s o hB hC hP F hF =>
  h σ B C s o { F with nx := u F } ⟨fun σ' τ' B' C' O' p l s' => p σ' B' C' s' l.ok ((l.old P _ hP hC fun xs z => by cases z).trans hB) (l.frame P _ hP hC) (fun z => by
    obtain ⟨q, hq, e⟩ := List.mem_map.mp z
    rcases l.own q hq with y | y
    · exact hP (by rw [← e]; exact y)
    · rw [e, hC] at y
      cases y) F hF, fun _ _ _ _ _ p => p.elim, fun _ _ _ _ _ p => p.elim, fun _ _ _ _ _ p => p.elim⟩
theorem bids_at {B : Hp} {v : V} {k : Nat} {R : List Row} (h : Dt B v (bidsD K k R)) : ∃ a dx fs, v = .ref a ∧ B a = some (.ins (cB K) dx fs) ∧ fs.lookup ("kinds" : Str) = some (.int k) := by
  cases h with
  | ins ha hf =>
    cases hf with
    | cons h1 h2 =>
      cases h1
      exact ⟨_, _, _, rfl, ha, rfl⟩
/-- the last row: _law_fault(lambda: never_below(wide, first)) == ("unlike", "kinds") -/
theorem scp_lam {q : Str} {i j : Nat} {k1 k2 : Nat} {R1 R2 : List Row} (hi : τ[i]? = some (some (bidsD K k1 R1))) (hj : τ[j]? = some (some (bidsD K k2 R2))) (hk : k1 ≠ k2) :
    ScP P (tRet (tOp (rEqD K) (LamX.tLam [(P, q)] (TTf K) fun E => tCall (spK K) [] E (tCons (tVar i) (tCons (tVar j) tNil))) (tTup (tCons (tC (.str "unlike")) (tCons (tC (.str "kinds")) tNil))))) τ O := fun σ B C s o hB hC hP F hF => by
  obtain ⟨v, ev, dv⟩ := s.at_ i _ hi
  obtain ⟨u, eu, du⟩ := s.at_ j _ hj
  obtain ⟨a, dx, fs, rfl, ha, la⟩ := bids_at dv
  obtain ⟨b, dy, gs, rfl, hb, lb⟩ := bids_at du
  refine ⟨fun p hp => ?_, fun H1 ext tabs p R hp => ?_⟩
  · rw [List.mem_singleton.mp hp]
    exact LamX.TabS.nil hC
  have ha1 : H1 a = some (.ins (cB K) dx fs) := ext a _ (o.sub _ _ ha) fun _ z => by cases z
  have hb1 : H1 b = some (.ins (cB K) dy gs) := ext b _ (o.sub _ _ hb) fun _ z => by cases z
  refine ⟨_, ev, _, eu, a, b, dx, dy, fs, gs, k1, k2, rfl, ?_, ?_, la, lb, fun z => hk (by omega), fun d H' hd => ⟨rfl, d, rfl, hd, fun r hr => ⟨by decide, fun r2 hr2 => ?_⟩⟩⟩
  · rw [upd_ne (ne_of_none ha1 hp)]
    exact ha1
  · rw [upd_ne (ne_of_none hb1 hp)]
    exact hb1
  have n : r ≠ r2 := fun z => by
    rw [← z, upd_same] at hr2
    cases hr2
  generalize hG : upd (upd H' r (HO.tup [.str "unlike", .str "kinds"])) r2 (HO.tup [.str "unlike", .str "kinds"]) = G
  have h1 : G r = some (.tup [.str "unlike", .str "kinds"]) := by
    rw [← hG, upd_ne n]
    exact upd_same
  have h2 : G r2 = some (.tup [.str "unlike", .str "kinds"]) := by
    rw [← hG]
    exact upd_same
  have dt : DtL G [.str "unlike", .str "kinds"] [.str "unlike", .str "kinds"] := .cons (.str _) (.one (.str _))
  have pd : Pd (.tup [.str "unlike", .str "kinds"]) (.tuple [.str "unlike", .str "kinds"]) := .tup (.cons (.str _) (.cons (.str _) .nil))
  refine rc_eqD (O := []) (Φ := fun d _ => d = .bl true) pd pd (by decide +kernel) (by decide +kernel) (congrArg D.bl (by decide +kernel)) G G _ _ ⟨Same.refl _, List.nodup_nil, fun p hp => absurd hp List.not_mem_nil⟩ (.tup h1 dt) (.tup h2 dt) F.rt fun v d B' C' O' e _ hd => ?_
  subst e
  cases hd
  exact hF C'
end
end Ab

/-! ## AbQ1 -/
set_option Elab.async false
set_option linter.all false
set_option maxRecDepth 100000
set_option maxHeartbeats 2000000
namespace Ab
open PySem L2
local macro_rules | `(tactic| walk_at "g") => `(tactic| first
  | with_reducible refine sc_seq ?_ | with_reducible refine sc_if ?_ | with_reducible refine sc_ret ?_ | with_reducible refine sc_asg ?_ | with_reducible refine sc_par ?_ | with_reducible refine sc_next ?_
  | ((with_reducible refine ec_var (d := ?dd) ?hv ?_); (case hv => exact rfl)) | with_reducible refine ec_int ?_ | with_reducible refine ec_bl ?_ | with_reducible refine ec_str ?_ | with_reducible refine ec_ty ?_ | with_reducible refine ec_non ?_
  | with_reducible refine ec_op ?_ | with_reducible refine ec_call ?_ | with_reducible refine ec_un ?_ | with_reducible refine ec_cb ?_ | with_reducible refine ec_if ?_ | with_reducible refine ec_andV ?_ | with_reducible refine ec_orV ?_ | with_reducible refine ec_notV ?_
  | with_reducible refine ac_cons ?_ | with_reducible refine ac_nil ?_ | (with_reducible refine ec_tup (ac_cons ?_)) | with_reducible refine ec_tup ?_
  | with_reducible refine tc_test ?_ | with_reducible refine tc_B ?_ | with_reducible refine tc_and ?_ | with_reducible refine tc_or ?_ | with_reducible refine tc_not ?_ | with_reducible refine tc_yes ?_
  | with_reducible refine rc_i0 ?_ | with_reducible refine rc_b0 ?_ | with_reducible refine rc_eqI ?_ | with_reducible refine rc_neI ?_ | with_reducible refine rc_eqS ?_ | with_reducible refine uc_neg ?_
  | with_reducible refine bc_int ?_ | with_reducible refine bc_abs ?_ | with_reducible refine bc_lenL ?_ | with_reducible refine bc_lenT ?_ | with_reducible refine bc_tupL ?_ | with_reducible refine bc_tupT ?_
  | with_reducible refine ec_chain ?_ | with_reducible refine ec_dget ?_ | with_reducible refine ec_dget2 ?_ | with_reducible refine ec_din ?_ | with_reducible refine ec_nget ?_ | with_reducible refine ec_nget2 ?_ | with_reducible refine ec_nnotin ?_ | with_reducible refine ec_app ?_ | with_reducible refine sc_nput ?_ | with_reducible refine sc_drop ?_ | with_reducible refine ec_setd ?_ | with_reducible refine ec_make ?_ | with_reducible refine ec_disp ?_ | with_reducible refine pc_cons ?_ | with_reducible refine pc_nil ?_ | with_reducible refine gc_sub ?_ | with_reducible refine sc_asgG ?_
  | with_reducible refine ⟨_, rfl, ?_⟩ | refine iteT ?_ | refine iteF ?_ | dsimp only )

/-! ### the pen's own fields -/
theorem pen_at (ns : List Int) (a d c f : Int) : valG (penK ns a d c f) (.inr "at") = some (.int a) := rfl
theorem pen_cells (ns : List Int) (a d c f : Int) : valG (penK ns a d c f) (.inr "cells") = some (.lst (ns.map D.int)) := rfl
theorem pen_digits (ns : List Int) (a d c f : Int) : valG (penK ns a d c f) (.inr "digits") = some (.int d) := rfl
theorem pen_count (ns : List Int) (a d c f : Int) : valG (penK ns a d c f) (.inr "count") = some (.int c) := rfl
theorem pen_fold (ns : List Int) (a d c f : Int) : valG (penK ns a d c f) (.inr "fold") = some (.int f) := rfl
theorem put_at (ns : List Int) (a d c f x : Int) : putG (penK ns a d c f) (.inr "at") (.int x) = penK ns x d c f := rfl
theorem put_digits (ns : List Int) (a d c f x : Int) : putG (penK ns a d c f) (.inr "digits") (.int x) = penK ns a x c f := rfl
theorem put_count (ns : List Int) (a d c f x : Int) : putG (penK ns a d c f) (.inr "count") (.int x) = penK ns a d x f := rfl
theorem put_fold (ns : List Int) (a d c f x : Int) : putG (penK ns a d c f) (.inr "fold") (.int x) = penK ns a d c x := rfl
def W__law_pen (K : PySem.W.Frag) (ds : List D) (O : Ow) (Φ : Cd) : Prop := ∃ ns : List Int, ds = [.sl K ns] ∧ ns.length ≤ 1000 ∧ ∀ p, Φ (.adr p) ((p, oPen 0) :: O)
theorem sc__law_pen : FnScope ["_law_script", "_law_fold", "_law_cell"] ["_law_script"] (defScope s__law_pen) := ⟨rfl, rfl, rfl, by decide +kernel, rfl, by decide +kernel, by decide +kernel⟩
theorem kn__law_pen {P : Program} {w : World} {K : PySem.W.Frag} {mg : Str → Option Value} {base : Heap} (T : Txt K mg) : Kn P w K mg base "_law_pen" 1 ["_law_script"] (spW (W__law_pen K)) := by
  have S := sc__law_pen
  refine kn_mk T.d__law_pen T.g__law_pen S (fun _ _ _ _ _ _ us hl => match us, hl with | [_], _ => rfl) (fun ds O Φ h => ?_) (fun cdv A outer s H E hr => ?_)
  · obtain ⟨ns, rfl, hn, k⟩ := h
    rfl
  have hu := hu_of hr
  have hu64 := hr.units
  have hu9 := hu9_of hr
  refine ⟨_, (pss_cons (ps_set (i := 1) S.nd rfl (Or.inl rfl) pe_int)
        (pss_cons (ps_for PassesOwn.never rfl (pi_listK (K := K) rfl (pv 0)) (pg_name (i := 2) S.nd rfl (Or.inl rfl)) (pss_one (ps_set (i := 1) S.nd rfl (Or.inl rfl) (pe_op op_mod (pe_callTy call_int1N (by rfl) T.f_int (by decide +kernel) (pa_cons (pe_op op_add (pe_op op_mul (pv 1) pe_int) (pv 2)) pa_nil)) pe_int))))
        (pss_one (ps_ret (pe_disp (pps_cons pe_str (pe_callTy (call_listK (K := K) rfl) (by rfl) T.f_list (by decide +kernel) (pa_cons (pv 0) pa_nil)) (pps_cons pe_str pe_int (pps_cons pe_str pe_int (pps_cons pe_str pe_int (pps_cons pe_str (pv 1) pps_nil))))) (by rfl) (by rfl) (fun z => by cases z) (by decide)))))), fun ds O Φ h => ?_⟩
  obtain ⟨ns, rfl, hn, k⟩ := h
  repeat walk_at "g"
  refine sc_for (ic_sl (ec_var rfl ⟨ns, rfl, fun i τ O' => O' = O ∧ ∃ (f : Int) (x2 : Option D), 0 ≤ f ∧ f < 1000000007 ∧ τ = [some (.sl K ns), some (.int f), x2], ⟨rfl, 0, _, by decide, by decide, rfl⟩, fun _ _ _ _ => trivial, ?_, ?_⟩))
  · rintro i x τ O1 hx ⟨rfl, f, x2, h0, h1, rfl⟩
    obtain ⟨n, hn, rfl⟩ := map_get hx
    refine ⟨_, _, gc_name, ?_⟩
    repeat walk_at "g"
    refine rc_i ⟨.inr ⟨by decide, by decide⟩, ?_⟩
    repeat walk_at "g"
    refine rc_i ⟨by decide, rfl, _, _, ?_, ?_, rfl⟩
    · exact Int.emod_nonneg _ (by decide)
    · exact Int.emod_lt_of_pos _ (by decide)
  · rintro τ O1 ⟨rfl, f, x2, h0, h1, rfl⟩
    refine sc_ret (ec_re ?_)
    repeat walk_at "g"
    refine bc_listSl ?_
    repeat walk_at "g"
    refine ⟨penK ns 0 0 0 f, rfl, by show 5 ≤ 15; decide, ?_, .inr fun p => ?_⟩
    · show ([.inr "cells", .inr "at", .inr "digits", .inr "count", .inr "fold"] : List L2.Key).Nodup
      decide +kernel
    · refine ⟨0, p, _, oPen 0, rfl, oPen_of (x := (ns, 0, 0, 0, f)) ⟨hn, Int.le_refl _, Int.le_refl _, Int.le_refl _, Int.le_refl _, h0, by show f < 2147483648; omega⟩, ?_⟩
      exact k p
def W__law_draw (ds : List D) (O : Ow) (Φ : Cd) : Prop := ∃ (p : Addr) (n : Nat) (many : Int) (O0 : Ow), ds = [.adr p, .int many] ∧ O = (p, oPen n) :: O0 ∧ 0 < many ∧ many ≤ 1000 ∧ n ≤ 1000000 ∧ ∀ d : Int, 0 ≤ d → d < many → Φ (.int d) ((p, oPen (n + 1)) :: O0)
theorem sc__law_draw : FnScope ["_law_pen_here", "_law_many", "_law_cell", "_law_digit", "_law_mixed"] ["_law_pen_here", "_law_many"] (defScope s__law_draw) := ⟨rfl, rfl, rfl, by decide +kernel, rfl, by decide +kernel, by decide +kernel⟩
theorem kn__law_draw {P : Program} {w : World} {K : PySem.W.Frag} {mg : Str → Option Value} {base : Heap} (T : Txt K mg) : Kn P w K mg base "_law_draw" 1 ["_law_pen_here", "_law_many"] (spW (W__law_draw)) := by
  have S := sc__law_draw
  refine kn_mk T.d__law_draw T.g__law_draw S (fun _ _ _ _ _ _ us hl => match us, hl with | [_, _], _ => rfl) (fun ds O Φ h => ?_) (fun cdv A outer s H E hr => ?_)
  · obtain ⟨p, n, many, O0, rfl, rfl, hm0, hm1, hn, k⟩ := h
    rfl
  have hu := hu_of hr
  have hu64 := hr.units
  have hu9 := hu9_of hr
  refine ⟨_, (pss_cons (ps_dput hu (pv 0) pe_str (pe_op op_add (pe_dget hu (pv 0) pe_str (fun _ _ => rfl)) pe_int) rfl)
        (pss_cons (ps_if (PW.pt (pw_and (pt_cmpR op_eq (pe_dget hu (pv 0) pe_str (fun _ _ => rfl)) pe_int (nomark _)) (pw_and1 (pt_cmpR op_lt (pe_dget hu (pv 0) pe_str (fun _ _ => rfl)) (pe_callB (call_lenK (K := K) rfl) (by rfl) T.f_len PySem.boot_len (pa_cons (pe_dget hu (pv 0) pe_str (fun _ _ => rfl)) pa_nil)) (nomark _))))) (pss_cons (ps_set (i := 2) S.nd rfl (Or.inl rfl) (pe_ix (ix_seqK (K := K) rfl) (pe_dget hu (pv 0) pe_str (fun _ _ => rfl)) (pe_dget hu (pv 0) pe_str (fun _ _ => rfl)) (fun _ _ => rfl)))
        (pss_cons (ps_dput hu (pv 0) pe_str (pe_op op_add (pe_dget hu (pv 0) pe_str (fun _ _ => rfl)) pe_int) rfl)
        (pss_one (ps_if (pt_cmpR op_ge (pv 2) (pe_op op_pow pe_int pe_int) (nomark _)) (pss_one (ps_dput hu (pv 0) pe_str (pe_op op_sub (pv 2) (pe_op op_pow pe_int pe_int)) rfl)) (pss_one (ps_dput hu (pv 0) pe_str (pe_op op_mod (pe_callTy call_int1N (by rfl) T.f_int (by decide +kernel) (pa_cons (pe_op op_add (pe_op op_mul (pe_dget hu (pv 0) pe_str (fun _ _ => rfl)) pe_int) (pv 2)) pa_nil)) pe_int) rfl)))))) pss_nil)
        (pss_cons (ps_if (pt_cmpR op_gt (pe_dget hu (pv 0) pe_str (fun _ _ => rfl)) pe_int (nomark _)) (pss_cons (ps_set (i := 3) S.nd rfl (Or.inl rfl) (pe_op op_mod (pe_callTy call_int1N (by rfl) T.f_int (by decide +kernel) (pa_cons (pe_dget hu (pv 0) pe_str (fun _ _ => rfl)) pa_nil)) (pv 1)))
        (pss_cons (ps_dput hu (pv 0) pe_str (pe_op op_fdiv (pe_dget hu (pv 0) pe_str (fun _ _ => rfl)) (pv 1)) rfl)
        (pss_one (ps_ret (pv 3))))) pss_nil)
        (pss_cons (ps_set (i := 4) S.nd rfl (Or.inl rfl) (pe_op op_add (pe_op op_add (pe_dget hu (pv 0) pe_str (fun _ _ => rfl)) (pe_op op_mul (pe_dget hu (pv 0) pe_str (fun _ _ => rfl)) pe_int)) pe_int))
        (pss_one (ps_ret (pe_op op_mod (pe_op op_fdiv (pe_callTy call_int1N (by rfl) T.f_int (by decide +kernel) (pa_cons (pe_op op_mod (pe_op op_pow (pv 4) pe_int) pe_int) pa_nil)) pe_int) (pv 1)))))))), fun ds O Φ h => ?_⟩
  obtain ⟨p, n, many, O0, rfl, rfl, hm0, hm1, hn, k⟩ := h
  refine sc_open (f := fun x => oK (penX x)) (Cn := PenOk n) (fun B o h => h) fun x hx => ?_
  obtain ⟨ns, at_, dg, ct, fd⟩ := x
  obtain ⟨c1, c2, c3, c4, c5, c6, c7⟩ := hx
  simp only at c1 c2 c3 c4 c5 c6 c7
  refine sc_seq (sc_dputK ?_)
  repeat walk_at "g"
  refine ⟨_, pen_count ns at_ dg ct fd ▸ gt_oK (j := 0) rfl (k := .inr "count") rfl, ?_⟩
  repeat walk_at "g"
  refine ⟨0, p, _, .inr "count", rfl, rfl, rfl, by show 5 < sizeLine; decide, ?_⟩
  rw [put_count]
  have c5' : ct + 1 ≤ ((n + 1 : Nat) : Int) := by omega
  have c4' : 0 ≤ ct + 1 := by omega
  generalize ct + 1 = ct at c4' c5' ⊢
  show Sc _ _ _ ((p, oK (penK ns at_ dg ct fd)) :: O0)
  refine sc_cut (fun τ' O' => ∃ x2 x', PenOk (n + 1) x' ∧ τ' = [some (.adr p), some (.int many), x2, none, none] ∧ O' = (p, oK (penX x')) :: O0) ?_ ?_
  · repeat walk_at "g"
    refine ⟨_, pen_digits ns at_ dg ct fd ▸ gt_oK (j := 0) rfl (k := .inr "digits") rfl, ?_⟩
    repeat walk_at "g"
    by_cases hd : dg = 0
    · rw [decide_eq_true hd]
      repeat walk_at "g"
      refine ⟨_, pen_at ns at_ dg ct fd ▸ gt_oK (j := 0) rfl (k := .inr "at") rfl, ?_⟩
      repeat walk_at "g"
      refine ⟨_, pen_cells ns at_ dg ct fd ▸ gt_oK (j := 0) rfl (k := .inr "cells") rfl, ?_⟩
      repeat walk_at "g"
      rw [List.length_map]
      by_cases ha : at_ < (ns.length : Int)
      · rw [decide_eq_true ha]
        repeat walk_at "g"
        refine ⟨_, pen_cells ns at_ dg ct fd ▸ gt_oK (j := 0) rfl (k := .inr "cells") rfl, ?_⟩
        repeat walk_at "g"
        refine ⟨_, pen_at ns at_ dg ct fd ▸ gt_oK (j := 0) rfl (k := .inr "at") rfl, ?_⟩
        obtain ⟨a, rfl⟩ : ∃ a : Nat, at_ = (a : Int) := ⟨at_.toNat, by omega⟩
        obtain ⟨cell, hc⟩ : ∃ cell, ns[a]? = some cell := ⟨_, List.getElem?_eq_getElem (by omega)⟩
        refine rc_ixL (d := .int cell) (atI_nat (by rw [List.getElem?_map, hc]; rfl)) ?_
        repeat walk_at "g"
        refine sc_dputK ?_
        repeat walk_at "g"
        refine ⟨_, pen_at ns a dg ct fd ▸ gt_oK (j := 0) rfl (k := .inr "at") rfl, ?_⟩
        repeat walk_at "g"
        refine ⟨0, p, _, .inr "at", rfl, rfl, rfl, by show 5 < sizeLine; decide, ?_⟩
        rw [put_at]
        show Sc _ _ _ ((p, oK (penK ns (a + 1) dg ct fd)) :: O0)
        repeat walk_at "g"
        refine rc_i ⟨⟨by decide, by decide, by decide⟩, ?_⟩
        repeat walk_at "g"
        by_cases hb : (10 : Int) ^ (18 : Int).toNat ≤ cell
        · rw [decide_eq_true hb]
          repeat walk_at "g"
          refine sc_dputK ?_
          repeat walk_at "g"
          refine rc_i ⟨⟨by decide, by decide, by decide⟩, ?_⟩
          repeat walk_at "g"
          refine ⟨0, p, _, .inr "digits", rfl, rfl, rfl, by show 5 < sizeLine; decide, ?_⟩
          rw [put_digits]
          exact ⟨_, (ns, (a : Int) + 1, _, ct, fd), ⟨c1, by show 0 ≤ (a : Int) + 1; omega, by show 0 ≤ cell - (10 : Int) ^ (18 : Int).toNat; omega, c4', c5', c6, c7⟩, rfl, rfl⟩
        · rw [decide_eq_false hb]
          repeat walk_at "g"
          refine sc_dputK ?_
          repeat walk_at "g"
          refine ⟨_, pen_fold ns _ dg ct fd ▸ gt_oK (j := 0) rfl (k := .inr "fold") rfl, ?_⟩
          repeat walk_at "g"
          refine rc_i ⟨.inr ⟨by decide, by decide⟩, ?_⟩
          repeat walk_at "g"
          refine rc_i ⟨by decide, ?_⟩
          repeat walk_at "g"
          refine ⟨0, p, _, .inr "fold", rfl, rfl, rfl, by show 5 < sizeLine; decide, ?_⟩
          rw [put_fold]
          have m1 := Int.emod_nonneg (fd * 69069 + cell) (b := 2147483587) (by decide)
          have m2 := Int.emod_lt_of_pos (fd * 69069 + cell) (b := 2147483587) (by decide)
          exact ⟨_, (ns, (a : Int) + 1, dg, ct, _), ⟨c1, by show 0 ≤ (a : Int) + 1; omega, c3, c4', c5', m1, by show (fd * 69069 + cell) % 2147483587 < 2147483648; omega⟩, rfl, rfl⟩
      · rw [decide_eq_false ha]
        refine iteF (sc_next ⟨_, (ns, at_, dg, ct, fd), ⟨c1, c2, c3, c4', c5', c6, c7⟩, rfl, rfl⟩)
    · rw [decide_eq_false hd]
      refine iteF (iteF (sc_next ⟨_, (ns, at_, dg, ct, fd), ⟨c1, c2, c3, c4', c5', c6, c7⟩, rfl, rfl⟩))
  · rintro τ O' ⟨x2, ⟨ns, at_, dg, ct, fd⟩, ⟨c1, c2, c3, c4, c5, c6, c7⟩, rfl, rfl⟩
    simp only at c1 c2 c3 c4 c5 c6 c7
    show Sc _ _ _ ((p, oK (penK ns at_ dg ct fd)) :: O0)
    repeat walk_at "g"
    refine ⟨_, pen_digits ns at_ dg ct fd ▸ gt_oK (j := 0) rfl (k := .inr "digits") rfl, ?_⟩
    repeat walk_at "g"
    by_cases hd : 0 < dg
    · rw [decide_eq_true hd]
      repeat walk_at "g"
      refine ⟨_, pen_digits ns at_ dg ct fd ▸ gt_oK (j := 0) rfl (k := .inr "digits") rfl, ?_⟩
      repeat walk_at "g"
      refine rc_i ⟨hm0, ?_⟩
      repeat walk_at "g"
      refine sc_dputK ?_
      repeat walk_at "g"
      refine ⟨_, pen_digits ns at_ dg ct fd ▸ gt_oK (j := 0) rfl (k := .inr "digits") rfl, ?_⟩
      repeat walk_at "g"
      refine rc_i ⟨⟨hm0, by omega⟩, ?_⟩
      repeat walk_at "g"
      refine ⟨0, p, _, .inr "digits", rfl, rfl, rfl, by show 5 < sizeLine; decide, ?_⟩
      rw [put_digits]
      refine sc_re (i := 0) (t' := oPen (n + 1)) rfl (oPen_of (x := (ns, at_, dg / many, ct, fd)) ⟨c1, c2, Int.ediv_nonneg c3 (by omega), c4, c5, c6, c7⟩) ?_
      repeat walk_at "g"
      exact k _ (Int.emod_nonneg _ (by omega)) (Int.emod_lt_of_pos _ hm0)
    · rw [decide_eq_false hd]
      repeat walk_at "g"
      refine ⟨_, pen_fold ns at_ dg ct fd ▸ gt_oK (j := 0) rfl (k := .inr "fold") rfl, ?_⟩
      repeat walk_at "g"
      refine ⟨_, pen_count ns at_ dg ct fd ▸ gt_oK (j := 0) rfl (k := .inr "count") rfl, ?_⟩
      repeat walk_at "g"
      refine rc_i ⟨.inr ⟨by decide, by decide⟩, ?_⟩
      refine rc_i0 (ec_int (rc_i0 ?_))
      refine sc_re (i := 0) (a := p) (t := oK (penX (ns, at_, dg, ct, fd))) (t' := oPen (n + 1)) rfl (oPen_of (x := (ns, at_, dg, ct, fd)) ⟨c1, c2, c3, c4, c5, c6, c7⟩) ?_
      repeat walk_at "g"
      have c8 : (0 : Int) ≤ ((n + 1 : Nat) : Int) ∧ ((n + 1 : Nat) : Int) ≤ 1000001 := ⟨by omega, by omega⟩
      refine rc_i ⟨⟨by decide, by decide, by omega⟩, ?_⟩
      repeat walk_at "g"
      refine rc_i ⟨by decide, ?_⟩
      repeat walk_at "g"
      refine rc_i ⟨⟨by decide, by decide⟩, ?_⟩
      repeat walk_at "g"
      refine rc_i ⟨hm0, ?_⟩
      exact k _ (Int.emod_nonneg _ (by omega)) (Int.emod_lt_of_pos _ hm0)
end Ab

/-! ## AbQ2 -/
set_option Elab.async false
set_option linter.all false
set_option maxRecDepth 100000
set_option maxHeartbeats 2000000
namespace Ab
open PySem L2
local macro_rules | `(tactic| walk_at "g") => `(tactic| first
  | with_reducible refine sc_seq ?_ | with_reducible refine sc_if ?_ | with_reducible refine sc_ret ?_ | with_reducible refine sc_asg ?_ | with_reducible refine sc_par ?_ | with_reducible refine sc_next ?_
  | ((with_reducible refine ec_var (d := ?dd) ?hv ?_); (case hv => exact rfl)) | with_reducible refine ec_int ?_ | with_reducible refine ec_bl ?_ | with_reducible refine ec_str ?_ | with_reducible refine ec_ty ?_ | with_reducible refine ec_non ?_
  | with_reducible refine ec_op ?_ | with_reducible refine ec_call ?_ | with_reducible refine ec_un ?_ | with_reducible refine ec_cb ?_ | with_reducible refine ec_if ?_ | with_reducible refine ec_andV ?_ | with_reducible refine ec_orV ?_ | with_reducible refine ec_notV ?_
  | with_reducible refine ac_cons ?_ | with_reducible refine ac_nil ?_ | (with_reducible refine ec_tup (ac_cons ?_)) | with_reducible refine ec_tup ?_
  | with_reducible refine tc_test ?_ | with_reducible refine tc_B ?_ | with_reducible refine tc_and ?_ | with_reducible refine tc_or ?_ | with_reducible refine tc_not ?_ | with_reducible refine tc_yes ?_
  | with_reducible refine rc_i0 ?_ | with_reducible refine rc_b0 ?_ | with_reducible refine rc_eqI ?_ | with_reducible refine rc_neI ?_ | with_reducible refine rc_eqS ?_ | with_reducible refine uc_neg ?_
  | with_reducible refine bc_int ?_ | with_reducible refine bc_abs ?_ | with_reducible refine bc_lenL ?_ | with_reducible refine bc_lenT ?_ | with_reducible refine bc_tupL ?_ | with_reducible refine bc_tupT ?_
  | with_reducible refine ec_chain ?_ | with_reducible refine ec_dget ?_ | with_reducible refine ec_dget2 ?_ | with_reducible refine ec_din ?_ | with_reducible refine ec_nget ?_ | with_reducible refine ec_nget2 ?_ | with_reducible refine ec_nnotin ?_ | with_reducible refine ec_app ?_ | with_reducible refine sc_nput ?_ | with_reducible refine sc_drop ?_ | with_reducible refine ec_setd ?_ | with_reducible refine ec_make ?_ | with_reducible refine ec_disp ?_ | with_reducible refine pc_cons ?_ | with_reducible refine pc_nil ?_ | with_reducible refine gc_sub ?_ | with_reducible refine sc_asgG ?_
  | with_reducible refine ⟨_, rfl, ?_⟩ | refine iteT ?_ | refine iteF ?_ | dsimp only )

def W__law_pick (ds : List D) (O : Ow) (Φ : Cd) : Prop := ∃ (p : Addr) (n : Nat) (xs : List D) (O0 : Ow), ds = [.adr p, .lst xs] ∧ O = (p, oPen n) :: O0 ∧ 0 < xs.length ∧ xs.length ≤ 1000 ∧ n ≤ 1000000 ∧ ∀ d ∈ xs, Φ d ((p, oPen (n + 1)) :: O0)
theorem sc__law_pick : FnScope ["_law_pen_here", "_law_some"] ["_law_pen_here", "_law_some"] (defScope s__law_pick) := ⟨rfl, rfl, rfl, by decide +kernel, rfl, by decide +kernel, by decide +kernel⟩
theorem kn__law_pick {P : Program} {w : World} {K : PySem.W.Frag} {mg : Str → Option Value} {base : Heap} (T : Txt K mg) : Kn P w K mg base "_law_pick" 2 ["_law_pen_here", "_law_some"] (spW (W__law_pick)) := by
  have S := sc__law_pick
  have k__law_draw := kn__law_draw (P := P) (w := w) (base := base) T
  refine kn_mk T.d__law_pick T.g__law_pick S (fun _ _ _ _ _ _ us hl => match us, hl with | [_, _], _ => rfl) (fun ds O Φ h => ?_) (fun cdv A outer s H E hr => ?_)
  · obtain ⟨p, n, xs, O0, rfl, rfl, h0, h1, hn, k⟩ := h
    rfl
  have hu := hu_of hr
  have hu64 := hr.units
  have hu9 := hu9_of hr
  refine ⟨_, (pss_one (ps_ret (pe_ix (ix_seqK (K := K) rfl) (pv 1) (pe_kn k__law_draw hr (by decide) (pa_cons (pv 0) (pa_cons (pe_callB (call_lenK (K := K) rfl) (by rfl) T.f_len PySem.boot_len (pa_cons (pv 1) pa_nil)) pa_nil))) (fun _ _ => rfl)))), fun ds O Φ h => ?_⟩
  obtain ⟨p, n, xs, O0, rfl, rfl, h0, h1, hn, k⟩ := h
  repeat walk_at "g"
  refine ⟨p, n, (xs.length : Int), O0, rfl, rfl, by omega, by omega, hn, fun d d0 d1 => ?_⟩
  obtain ⟨i, rfl⟩ : ∃ i : Nat, d = (i : Int) := ⟨d.toNat, by omega⟩
  have hi : i < xs.length := by omega
  exact rc_ixL (atI_nat (List.getElem?_eq_getElem hi)) (k _ (List.getElem_mem hi))
def W__law_is_whole (ds : List D) (O : Ow) (Φ : Cd) : Prop := ∃ x : Int, ds = [.int x] ∧ Φ (.bl true) O
theorem sc__law_is_whole : FnScope ["_law_value"] ["_law_value"] (defScope s__law_is_whole) := ⟨rfl, rfl, rfl, by decide +kernel, rfl, by decide +kernel, by decide +kernel⟩
theorem kn__law_is_whole {P : Program} {w : World} {K : PySem.W.Frag} {mg : Str → Option Value} {base : Heap} (T : Txt K mg) : Kn P w K mg base "_law_is_whole" 1 ["_law_value"] (spW (W__law_is_whole)) := by
  have S := sc__law_is_whole
  refine kn_mk T.d__law_is_whole T.g__law_is_whole S (fun _ _ _ _ _ _ us hl => match us, hl with | [_], _ => rfl) (fun ds O Φ h => ?_) (fun cdv A outer s H E hr => ?_)
  · obtain ⟨x, rfl, k⟩ := h
    rfl
  have hu := hu_of hr
  have hu64 := hr.units
  have hu9 := hu9_of hr
  refine ⟨_, (pss_one (ps_ret (pe_and (pe_callB (call_isiK' (K := K) rfl) (by rfl) T.f_isinstance (by decide +kernel) (pa_cons (pv 0) (pa_cons (pe_bltn (v := .ty "int") (by rfl) T.f_int (by decide +kernel) rfl) pa_nil))) (pe_one (pe_not (pe_callB (call_isiK' (K := K) rfl) (by rfl) T.f_isinstance (by decide +kernel) (pa_cons (pv 0) (pa_cons (pe_bltn (v := .ty "bool") (by rfl) T.f_bool (by decide +kernel) rfl) pa_nil)))))))), fun ds O Φ h => ?_⟩
  obtain ⟨x, rfl, k⟩ := h
  walk_at "g"
  repeat walk_at "g"
  refine bc_isi (T := "int") (b := true) rfl (by decide +kernel) ?_
  repeat walk_at "g"
  refine bc_isi (T := "int") (b := false) rfl (by decide +kernel) ?_
  exact ⟨_, rfl, k⟩
theorem gcdI_abs (a b : Int) : gcdI (a.natAbs : Int) (b.natAbs : Int) = gcdI a b := by
  unfold gcdI
  rw [Int.gcd, Int.gcd, Int.natAbs_natCast, Int.natAbs_natCast]
def W__law_gcd (ds : List D) (O : Ow) (Φ : Cd) : Prop := ∃ a b : Int, ds = [.int a, .int b] ∧ 0 ≤ b ∧ b ≤ 1900 ∧ Φ (.int (gcdI a b)) O
theorem sc__law_gcd : FnScope ["_law_one", "_law_two", "_law_lap"] ["_law_one", "_law_two"] (defScope s__law_gcd) := ⟨rfl, rfl, rfl, by decide +kernel, rfl, by decide +kernel, by decide +kernel⟩
theorem kn__law_gcd {P : Program} {w : World} {K : PySem.W.Frag} {mg : Str → Option Value} {base : Heap} (T : Txt K mg) : Kn P w K mg base "_law_gcd" 1 ["_law_one", "_law_two"] (spW (W__law_gcd)) := by
  have S := sc__law_gcd
  refine kn_mk T.d__law_gcd T.g__law_gcd S (fun _ _ _ _ _ _ us hl => match us, hl with | [_, _], _ => rfl) (fun ds O Φ h => ?_) (fun cdv A outer s H E hr => ?_)
  · obtain ⟨a, b, rfl, hb, hb2, k⟩ := h
    rfl
  have hu := hu_of hr
  have hu64 := hr.units
  have hu9 := hu9_of hr
  refine ⟨_, (pss_cons (ps_par (i := 0) (j := 1) rfl S.nd rfl rfl (by decide) rfl rfl (pa_cons (pe_callB call_absN (by rfl) T.f_abs PyProof.Rows.boot_abs (pa_cons (pv 0) pa_nil)) (pa_cons (pe_callB call_absN (by rfl) T.f_abs PyProof.Rows.boot_abs (pa_cons (pv 1) pa_nil)) pa_nil)) (by rfl))
        (pss_cons (ps_for PassesOwn.never rfl (pi_range1 (by rfl) T.f_range (pa_cons pe_int pa_nil)) (pg_name (i := 2) S.nd rfl (Or.inl rfl)) (pss_cons (ps_if (pt_cmpR op_eq (pv 1) pe_int (nomark _)) (pss_one ps_break) pss_nil)
        (pss_one (ps_par (i := 0) (j := 1) rfl S.nd rfl rfl (by decide) rfl rfl (pa_cons (pv 1) (pa_cons (pe_op op_mod (pe_callTy call_int1N (by rfl) T.f_int (by decide +kernel) (pa_cons (pv 0) pa_nil)) (pv 1)) pa_nil)) (by rfl)))))
        (pss_one (ps_ret (pv 0))))), fun ds O Φ h => ?_⟩
  obtain ⟨a, b, rfl, hb, hb2, k⟩ := h
  repeat walk_at "g"
  refine ⟨_, _, rfl, ?_⟩
  have eb : (b.natAbs : Int) = b := by omega
  rw [eb]
  have hg : gcdI (a.natAbs : Int) b = gcdI a b := by
    rw [← gcdI_abs a b, eb]
  refine sc_cut (fun τ' O' => O' = O ∧ ∃ x1 x2, τ' = [some (.int (gcdI a b)), x1, x2]) ?_ ?_
  · refine sc_for (ic_rng1 (ac_cons (ec_int (ac_nil ⟨2000, rfl, by decide, by decide, fun i τ O' => O' = O ∧ ∃ (x y : Int) (x2 : Option D), 0 ≤ x ∧ 0 ≤ y ∧ y ≤ 1900 - (i : Int) ∧ gcdI x y = gcdI a b ∧ τ = [some (.int x), some (.int y), x2], ⟨rfl, (a.natAbs : Int), b, _, by omega, hb, by omega, hg, rfl⟩, fun _ _ _ _ => trivial, ?_, ?_⟩))))
    · rintro i x τ O1 hx ⟨rfl, x, y, x2, h0, h1, h2, h3, rfl⟩
      obtain ⟨hi, rfl⟩ := rngD_get hx
      refine ⟨_, _, gc_name, ?_⟩
      repeat walk_at "g"
      by_cases hy : y = 0
      · rw [decide_eq_true hy]
        refine iteT (sc_break ?_)
        subst hy
        rw [gcdI_zero] at h3
        have : x = gcdI a b := by omega
        rw [this]
        exact ⟨rfl, _, _, rfl⟩
      · rw [decide_eq_false hy]
        repeat walk_at "g"
        refine rc_i ⟨by omega, ?_⟩
        repeat walk_at "g"
        refine ⟨_, _, rfl, ?_⟩
        have e1 := Int.emod_nonneg x hy
        have e2 := Int.emod_lt_of_pos x (by omega : 0 < y)
        exact ⟨rfl, y, x % y, _, h1, e1, by omega, by rw [gcdI_mod x y, h3], rfl⟩
    · rw [rngD_len]
      rintro τ O1 ⟨rfl, x, y, x2, h0, h1, h2, h3, rfl⟩
      have : ((2000 : Int).toNat : Int) = 2000 := rfl
      omega
  · rintro τ O' ⟨rfl, x1, x2, rfl⟩
    repeat walk_at "g"
    exact k
def W__law_q (ds : List D) (O : Ow) (Φ : Cd) : Prop := ∃ a b : Int, ds = [.int a, .int b] ∧ 0 < b ∧ b ≤ 1900 ∧ Φ (ratD (low a b)) O
theorem sc__law_q : FnScope ["_law_top", "_law_bottom", "_law_by"] ["_law_top", "_law_bottom"] (defScope s__law_q) := ⟨rfl, rfl, rfl, by decide +kernel, rfl, by decide +kernel, by decide +kernel⟩
theorem kn__law_q {P : Program} {w : World} {K : PySem.W.Frag} {mg : Str → Option Value} {base : Heap} (T : Txt K mg) : Kn P w K mg base "_law_q" 2 ["_law_top", "_law_bottom"] (spW (W__law_q)) := by
  have S := sc__law_q
  have k__law_gcd := kn__law_gcd (P := P) (w := w) (base := base) T
  refine kn_mk T.d__law_q T.g__law_q S (fun _ _ _ _ _ _ us hl => match us, hl with | [_, _], _ => rfl) (fun ds O Φ h => ?_) (fun cdv A outer s H E hr => ?_)
  · obtain ⟨a, b, rfl, hb, hb2, k⟩ := h
    rfl
  have hu := hu_of hr
  have hu64 := hr.units
  have hu9 := hu9_of hr
  refine ⟨_, (pss_cons (ps_set (i := 2) S.nd rfl (Or.inl rfl) (pe_kn k__law_gcd hr (by decide) (pa_cons (pv 0) (pa_cons (pv 1) pa_nil))))
        (pss_one (ps_ret (pe_tup (pa_cons (pe_op op_fdiv (pv 0) (pv 2)) (pa_cons (pe_op op_fdiv (pv 1) (pv 2)) pa_nil)))))), fun ds O Φ h => ?_⟩
  obtain ⟨a, b, rfl, hb, hb2, k⟩ := h
  have g1 := gcdI_pos a b hb
  have g2 := gcdI_le a b hb
  repeat walk_at "g"
  refine ⟨a, b, rfl, by omega, hb2, ?_⟩
  repeat walk_at "g"
  refine rc_i ⟨⟨g1, by omega⟩, ?_⟩
  repeat walk_at "g"
  refine rc_i ⟨⟨g1, by omega⟩, ?_⟩
  repeat walk_at "g"
  exact ⟨by show 2 ≤ sizeLine; decide, k⟩
def W__law_plus (ds : List D) (O : Ow) (Φ : Cd) : Prop := ∃ p q : Int × Int, ds = [ratD p, ratD q] ∧ 0 < p.2 ∧ 0 < q.2 ∧ p.2 ≤ 40 ∧ q.2 ≤ 40 ∧ Φ (ratD (low (p.1 * q.2 + q.1 * p.2) (p.2 * q.2))) O
theorem sc__law_plus : FnScope ["_law_one", "_law_two"] ["_law_one", "_law_two"] (defScope s__law_plus) := ⟨rfl, rfl, rfl, by decide +kernel, rfl, by decide +kernel, by decide +kernel⟩
theorem kn__law_plus {P : Program} {w : World} {K : PySem.W.Frag} {mg : Str → Option Value} {base : Heap} (T : Txt K mg) : Kn P w K mg base "_law_plus" 3 ["_law_one", "_law_two"] (spW (W__law_plus)) := by
  have S := sc__law_plus
  have k__law_q := kn__law_q (P := P) (w := w) (base := base) T
  refine kn_mk T.d__law_plus T.g__law_plus S (fun _ _ _ _ _ _ us hl => match us, hl with | [_, _], _ => rfl) (fun ds O Φ h => ?_) (fun cdv A outer s H E hr => ?_)
  · obtain ⟨p, q, rfl, h1, h2, h3, h4, k⟩ := h
    rfl
  have hu := hu_of hr
  have hu64 := hr.units
  have hu9 := hu9_of hr
  refine ⟨_, (pss_one (ps_ret (pe_kn k__law_q hr (by decide) (pa_cons (pe_op op_add (pe_op op_mul (pe_ix (ix_seqK (K := K) rfl) (pv 0) pe_int (fun _ _ => rfl)) (pe_ix (ix_seqK (K := K) rfl) (pv 1) pe_int (fun _ _ => rfl))) (pe_op op_mul (pe_ix (ix_seqK (K := K) rfl) (pv 1) pe_int (fun _ _ => rfl)) (pe_ix (ix_seqK (K := K) rfl) (pv 0) pe_int (fun _ _ => rfl)))) (pa_cons (pe_op op_mul (pe_ix (ix_seqK (K := K) rfl) (pv 0) pe_int (fun _ _ => rfl)) (pe_ix (ix_seqK (K := K) rfl) (pv 1) pe_int (fun _ _ => rfl))) pa_nil))))), fun ds O Φ h => ?_⟩
  obtain ⟨p, q, rfl, h1, h2, h3, h4, k⟩ := h
  have m1 : 0 < p.2 * q.2 := Int.mul_pos h1 h2
  have m2 : p.2 * q.2 ≤ 40 * 40 := Int.mul_le_mul h3 h4 (by omega) (by decide)
  repeat walk_at "g"
  refine rc_ixT (d := .int p.1) rfl ?_
  repeat walk_at "g"
  refine rc_ixT (d := .int q.2) rfl (rc_i ⟨.inr ⟨by omega, by omega⟩, ?_⟩)
  repeat walk_at "g"
  refine rc_ixT (d := .int q.1) rfl ?_
  repeat walk_at "g"
  refine rc_ixT (d := .int p.2) rfl (rc_i ⟨.inr ⟨by omega, by omega⟩, ?_⟩)
  repeat walk_at "g"
  refine rc_ixT (d := .int p.2) rfl ?_
  repeat walk_at "g"
  refine rc_ixT (d := .int q.2) rfl (rc_i ⟨.inr ⟨by omega, by omega⟩, ?_⟩)
  repeat walk_at "g"
  exact ⟨_, _, rfl, m1, by omega, k⟩
def W__law_minus (ds : List D) (O : Ow) (Φ : Cd) : Prop := ∃ p q : Int × Int, ds = [ratD p, ratD q] ∧ 0 < p.2 ∧ 0 < q.2 ∧ p.2 ≤ 40 ∧ q.2 ≤ 40 ∧ Φ (ratD (low (p.1 * q.2 - q.1 * p.2) (p.2 * q.2))) O
theorem sc__law_minus : FnScope ["_law_one", "_law_two"] ["_law_one", "_law_two"] (defScope s__law_minus) := ⟨rfl, rfl, rfl, by decide +kernel, rfl, by decide +kernel, by decide +kernel⟩
theorem kn__law_minus {P : Program} {w : World} {K : PySem.W.Frag} {mg : Str → Option Value} {base : Heap} (T : Txt K mg) : Kn P w K mg base "_law_minus" 3 ["_law_one", "_law_two"] (spW (W__law_minus)) := by
  have S := sc__law_minus
  have k__law_q := kn__law_q (P := P) (w := w) (base := base) T
  refine kn_mk T.d__law_minus T.g__law_minus S (fun _ _ _ _ _ _ us hl => match us, hl with | [_, _], _ => rfl) (fun ds O Φ h => ?_) (fun cdv A outer s H E hr => ?_)
  · obtain ⟨p, q, rfl, h1, h2, h3, h4, k⟩ := h
    rfl
  have hu := hu_of hr
  have hu64 := hr.units
  have hu9 := hu9_of hr
  refine ⟨_, (pss_one (ps_ret (pe_kn k__law_q hr (by decide) (pa_cons (pe_op op_sub (pe_op op_mul (pe_ix (ix_seqK (K := K) rfl) (pv 0) pe_int (fun _ _ => rfl)) (pe_ix (ix_seqK (K := K) rfl) (pv 1) pe_int (fun _ _ => rfl))) (pe_op op_mul (pe_ix (ix_seqK (K := K) rfl) (pv 1) pe_int (fun _ _ => rfl)) (pe_ix (ix_seqK (K := K) rfl) (pv 0) pe_int (fun _ _ => rfl)))) (pa_cons (pe_op op_mul (pe_ix (ix_seqK (K := K) rfl) (pv 0) pe_int (fun _ _ => rfl)) (pe_ix (ix_seqK (K := K) rfl) (pv 1) pe_int (fun _ _ => rfl))) pa_nil))))), fun ds O Φ h => ?_⟩
  obtain ⟨p, q, rfl, h1, h2, h3, h4, k⟩ := h
  have m1 : 0 < p.2 * q.2 := Int.mul_pos h1 h2
  have m2 : p.2 * q.2 ≤ 40 * 40 := Int.mul_le_mul h3 h4 (by omega) (by decide)
  repeat walk_at "g"
  refine rc_ixT (d := .int p.1) rfl ?_
  repeat walk_at "g"
  refine rc_ixT (d := .int q.2) rfl (rc_i ⟨.inr ⟨by omega, by omega⟩, ?_⟩)
  repeat walk_at "g"
  refine rc_ixT (d := .int q.1) rfl ?_
  repeat walk_at "g"
  refine rc_ixT (d := .int p.2) rfl (rc_i ⟨.inr ⟨by omega, by omega⟩, ?_⟩)
  repeat walk_at "g"
  refine rc_ixT (d := .int p.2) rfl ?_
  repeat walk_at "g"
  refine rc_ixT (d := .int q.2) rfl (rc_i ⟨.inr ⟨by omega, by omega⟩, ?_⟩)
  repeat walk_at "g"
  exact ⟨_, _, rfl, m1, by omega, k⟩
def W__law_less (ds : List D) (O : Ow) (Φ : Cd) : Prop := ∃ p q : Int × Int, ds = [ratD p, ratD q] ∧ 0 < p.2 ∧ 0 < q.2 ∧ p.2 ≤ 1600 ∧ q.2 ≤ 1600 ∧ Φ (.bl (decide (p.1 * q.2 < q.1 * p.2))) O
theorem sc__law_less : FnScope ["_law_one", "_law_two"] ["_law_one", "_law_two"] (defScope s__law_less) := ⟨rfl, rfl, rfl, by decide +kernel, rfl, by decide +kernel, by decide +kernel⟩
theorem kn__law_less {P : Program} {w : World} {K : PySem.W.Frag} {mg : Str → Option Value} {base : Heap} (T : Txt K mg) : Kn P w K mg base "_law_less" 1 ["_law_one", "_law_two"] (spW (W__law_less)) := by
  have S := sc__law_less
  refine kn_mk T.d__law_less T.g__law_less S (fun _ _ _ _ _ _ us hl => match us, hl with | [_, _], _ => rfl) (fun ds O Φ h => ?_) (fun cdv A outer s H E hr => ?_)
  · obtain ⟨p, q, rfl, h1, h2, h3, h4, k⟩ := h
    rfl
  have hu := hu_of hr
  have hu64 := hr.units
  have hu9 := hu9_of hr
  refine ⟨_, (pss_one (ps_ret (pe_cmpR op_lt (pe_op op_mul (pe_ix (ix_seqK (K := K) rfl) (pv 0) pe_int (fun _ _ => rfl)) (pe_ix (ix_seqK (K := K) rfl) (pv 1) pe_int (fun _ _ => rfl))) (pe_op op_mul (pe_ix (ix_seqK (K := K) rfl) (pv 1) pe_int (fun _ _ => rfl)) (pe_ix (ix_seqK (K := K) rfl) (pv 0) pe_int (fun _ _ => rfl))) (nomark _)))), fun ds O Φ h => ?_⟩
  obtain ⟨p, q, rfl, h1, h2, h3, h4, k⟩ := h
  repeat walk_at "g"
  refine rc_ixT (d := .int p.1) rfl ?_
  repeat walk_at "g"
  refine rc_ixT (d := .int q.2) rfl (rc_i ⟨.inr ⟨by omega, by omega⟩, ?_⟩)
  repeat walk_at "g"
  refine rc_ixT (d := .int q.1) rfl ?_
  repeat walk_at "g"
  refine rc_ixT (d := .int p.2) rfl (rc_i ⟨.inr ⟨by omega, by omega⟩, ?_⟩)
  repeat walk_at "g"
  exact k
def W__law_is_ratio (ds : List D) (O : Ow) (Φ : Cd) : Prop := ∃ q : Int × Int, ds = [ratD q] ∧ 0 < q.2 ∧ q.2 ≤ 1900 ∧ gcdI q.1 q.2 = 1 ∧ Φ (.bl true) O
theorem sc__law_is_ratio : FnScope ["_law_value"] ["_law_value"] (defScope s__law_is_ratio) := ⟨rfl, rfl, rfl, by decide +kernel, rfl, by decide +kernel, by decide +kernel⟩
theorem kn__law_is_ratio {P : Program} {w : World} {K : PySem.W.Frag} {mg : Str → Option Value} {base : Heap} (T : Txt K mg) : Kn P w K mg base "_law_is_ratio" 2 ["_law_value"] (spW (W__law_is_ratio)) := by
  have S := sc__law_is_ratio
  have k__law_is_whole := kn__law_is_whole (P := P) (w := w) (base := base) T
  have k__law_gcd := kn__law_gcd (P := P) (w := w) (base := base) T
  refine kn_mk T.d__law_is_ratio T.g__law_is_ratio S (fun _ _ _ _ _ _ us hl => match us, hl with | [_], _ => rfl) (fun ds O Φ h => ?_) (fun cdv A outer s H E hr => ?_)
  · obtain ⟨q, rfl, h1, h2, h3, k⟩ := h
    rfl
  have hu := hu_of hr
  have hu64 := hr.units
  have hu9 := hu9_of hr
  refine ⟨_, (pss_cons (ps_if (PW.pt (pw_or (pt_not (pt_val (pe_callB (call_isiK' (K := K) rfl) (by rfl) T.f_isinstance (by decide +kernel) (pa_cons (pv 0) (pa_cons (pe_bltn (v := .ty "tuple") (by rfl) T.f_tuple (by decide +kernel) rfl) pa_nil))))) (pw_or (pt_cmpR op_ne (pe_callB (call_lenK (K := K) rfl) (by rfl) T.f_len PySem.boot_len (pa_cons (pv 0) pa_nil)) pe_int (nomark _)) (pw_or (pt_not (pt_val (pe_kn k__law_is_whole hr (by decide) (pa_cons (pe_ix (ix_seqK (K := K) rfl) (pv 0) pe_int (fun _ _ => rfl)) pa_nil)))) (pw_or1 (pt_not (pt_val (pe_kn k__law_is_whole hr (by decide) (pa_cons (pe_ix (ix_seqK (K := K) rfl) (pv 0) pe_int (fun _ _ => rfl)) pa_nil))))))))) (pss_one (ps_ret pe_bl)) pss_nil)
        (pss_one (ps_ret (pe_and (pe_cmpR op_gt (pe_ix (ix_seqK (K := K) rfl) (pv 0) pe_int (fun _ _ => rfl)) pe_int (nomark _)) (pe_one (pe_cmpR op_eq (pe_kn k__law_gcd hr (by decide) (pa_cons (pe_ix (ix_seqK (K := K) rfl) (pv 0) pe_int (fun _ _ => rfl)) (pa_cons (pe_ix (ix_seqK (K := K) rfl) (pv 0) pe_int (fun _ _ => rfl)) pa_nil))) pe_int (nomark _))))))), fun ds O Φ h => ?_⟩
  obtain ⟨q, rfl, h1, h2, h3, k⟩ := h
  repeat walk_at "g"
  refine bc_isi (T := "tuple") (b := true) rfl (by decide +kernel) ?_
  repeat walk_at "g"
  refine rc_ixT (d := .int q.1) rfl ?_
  repeat walk_at "g"
  refine ⟨_, rfl, ?_⟩
  repeat walk_at "g"
  refine rc_ixT (d := .int q.2) rfl ?_
  repeat walk_at "g"
  refine ⟨_, rfl, ?_⟩
  repeat walk_at "g"
  refine rc_ixT (d := .int q.2) rfl ?_
  repeat walk_at "g"
  rw [decide_eq_true h1]
  repeat walk_at "g"
  refine rc_ixT (d := .int q.1) rfl ?_
  repeat walk_at "g"
  refine rc_ixT (d := .int q.2) rfl ?_
  repeat walk_at "g"
  refine ⟨_, _, rfl, by omega, h2, ?_⟩
  repeat walk_at "g"
  rw [decide_eq_true h3]
  exact k
def W__law_are_ratios (ds : List D) (O : Ow) (Φ : Cd) : Prop := ∃ qs : List (Int × Int), ds = [.tup (qs.map ratD), .int (qs.length : Int)] ∧ qs.length ≤ 3 ∧ (∀ q ∈ qs, 0 < q.2 ∧ q.2 ≤ 1900 ∧ gcdI q.1 q.2 = 1) ∧ Φ (.bl true) O
theorem sc__law_are_ratios : FnScope ["_law_value", "_law_many", "_law_one"] ["_law_value", "_law_many"] (defScope s__law_are_ratios) := ⟨rfl, rfl, rfl, by decide +kernel, rfl, by decide +kernel, by decide +kernel⟩
theorem kn__law_are_ratios {P : Program} {w : World} {K : PySem.W.Frag} {mg : Str → Option Value} {base : Heap} (T : Txt K mg) : Kn P w K mg base "_law_are_ratios" 3 ["_law_value", "_law_many"] (spW (W__law_are_ratios)) := by
  have S := sc__law_are_ratios
  have k__law_is_ratio := kn__law_is_ratio (P := P) (w := w) (base := base) T
  refine kn_mk T.d__law_are_ratios T.g__law_are_ratios S (fun _ _ _ _ _ _ us hl => match us, hl with | [_, _], _ => rfl) (fun ds O Φ h => ?_) (fun cdv A outer s H E hr => ?_)
  · obtain ⟨qs, rfl, hl, hq, k⟩ := h
    rfl
  have hu := hu_of hr
  have hu64 := hr.units
  have hu9 := hu9_of hr
  refine ⟨_, (pss_one (ps_ret (pe_and (pe_callB (call_isiK' (K := K) rfl) (by rfl) T.f_isinstance (by decide +kernel) (pa_cons (pv 0) (pa_cons (pe_bltn (v := .ty "tuple") (by rfl) T.f_tuple (by decide +kernel) rfl) pa_nil))) (pe_and (pe_cmpR op_eq (pe_callB (call_lenK (K := K) rfl) (by rfl) T.f_len PySem.boot_len (pa_cons (pv 0) pa_nil)) (pv 1) (nomark _)) (pe_one (pe_cmpR (op_eqDK (K := K) rfl hu64) (pe_lc (own := [("_law_one", 2)]) rfl S.nd (pi_tupK (K := K) rfl (pv 0)) (blkOk_by (own := [("_law_one", 2)]) (by kernel_rfl)) (fun _ _ _ _ _ => (pg_name (i := 2) S.nd rfl (by first | exact Or.inl rfl | exact Or.inr rfl))) (fun _ _ _ _ _ => (pts_one (pt_not (pt_val (pe_kn k__law_is_ratio hr (by decide) (pa_cons (pv 2) pa_nil)))))) (fun _ _ _ _ _ => (pv 2))) (pe_lst pa_nil) (nomark _))))))), fun ds O Φ h => ?_⟩
  obtain ⟨qs, rfl, hl, hq, k⟩ := h
  repeat walk_at "g"
  refine bc_isi (T := "tuple") (b := true) rfl (by decide +kernel) ?_
  repeat walk_at "g"
  rw [List.length_map, decide_eq_true rfl]
  repeat walk_at "g"
  refine ec_lcp qs ratD (fun _ => false) ratD (ic_tup (ec_var rfl ⟨_, rfl, rfl, rfl, trivial⟩)) (sz_ok (by omega)) (fun q hm => ?_) (.inl ?_)
  · refine ⟨_, _, ?_, gc_name, ?_⟩
    · decide
    obtain ⟨h1, h2, h3⟩ := hq q hm
    repeat walk_at "g"
    refine ⟨q, rfl, h1, h2, h3, ?_⟩
    repeat walk_at "g"
    exact ⟨rfl, rfl, fun z => (nomatch z)⟩
  have e : (qs.filter fun _ => false).map ratD = [] := by
    rw [List.filter_eq_nil_iff.mpr fun _ _ => Bool.false_ne_true]
    rfl
  rw [e]
  refine ec_lst (ac_nil ⟨by show 0 ≤ sizeLine; decide, ?_⟩)
  refine rc_eqD (.lst .nil) (.lst .nil) rfl rfl ?_
  exact k
theorem gcdI_mul (a b : Int) {c : Int} (hc : 0 < c) : gcdI (a * c) (b * c) = gcdI a b * c := by
  unfold gcdI
  rw [Int.gcd_mul_right, Int.natCast_mul]
  have : (c.natAbs : Int) = c := by omega
  rw [this]
theorem low_mul (a b : Int) {c : Int} (hb : 0 < b) (hc : 0 < c) : low (a * c) (b * c) = low a b := by
  unfold low
  rw [gcdI_mul a b hc, Int.mul_ediv_mul_of_pos_left _ _ hc, Int.mul_ediv_mul_of_pos_left _ _ hc]
theorem low_one (a : Int) : low a 1 = (a, 1) := by
  unfold low gcdI
  rw [Int.gcd_one_right]
  simp
/-- a value that stands for the ratio q -/
def RatFor (x : D) (q : Int × Int) : Prop := ∃ a b, IsRat x a b ∧ low a b = low q.1 q.2 ∧ 0 ≤ a ∧ a ≤ 1000 ∧ b ≤ 1000
def W__law_passed (ds : List D) (O : Ow) (Φ : Cd) : Prop := ∃ (p : Addr) (n : Nat) (q : Int × Int) (O0 : Ow), ds = [.adr p, ratD q] ∧ O = (p, oPen n) :: O0 ∧ n ≤ 900000 ∧ 0 ≤ q.1 ∧ q.1 ≤ 100 ∧ 0 < q.2 ∧ q.2 ≤ 100 ∧ ∀ x, RatFor x q → Φ x ((p, oPen (n + 3)) :: O0)
theorem sc__law_passed : FnScope ["_law_pen_here", "_law_ratio", "_law_by"] ["_law_pen_here", "_law_ratio"] (defScope s__law_passed) := ⟨rfl, rfl, rfl, by decide +kernel, rfl, by decide +kernel, by decide +kernel⟩
theorem kn__law_passed {P : Program} {w : World} {K : PySem.W.Frag} {mg : Str → Option Value} {base : Heap} (T : Txt K mg) : Kn P w K mg base "_law_passed" 3 ["_law_pen_here", "_law_ratio"] (spW (W__law_passed)) := by
  have S := sc__law_passed
  have k__law_draw := kn__law_draw (P := P) (w := w) (base := base) T
  have k__law_pick := kn__law_pick (P := P) (w := w) (base := base) T
  refine kn_mk T.d__law_passed T.g__law_passed S (fun _ _ _ _ _ _ us hl => match us, hl with | [_, _], _ => rfl) (fun ds O Φ h => ?_) (fun cdv A outer s H E hr => ?_)
  · obtain ⟨p, n, q, O0, rfl, rfl, hn, h1, h2, h3, h4, k⟩ := h
    rfl
  have hu := hu_of hr
  have hu64 := hr.units
  have hu9 := hu9_of hr
  refine ⟨_, (pss_cons (ps_if (PW.pt (pw_and (pt_cmpR op_eq (pe_ix (ix_seqK (K := K) rfl) (pv 1) pe_int (fun _ _ => rfl)) pe_int (nomark _)) (pw_and1 (pt_cmpR op_eq (pe_kn k__law_draw hr (by decide) (pa_cons (pv 0) (pa_cons pe_int pa_nil))) pe_int (nomark _))))) (pss_one (ps_ret (pe_ix (ix_seqK (K := K) rfl) (pv 1) pe_int (fun _ _ => rfl)))) pss_nil)
        (pss_cons (ps_set (i := 2) S.nd rfl (Or.inl rfl) (pe_kn k__law_pick hr (by decide) (pa_cons (pv 0) (pa_cons (pe_lst (pa_cons pe_int (pa_cons pe_int (pa_cons pe_int (pa_cons pe_int pa_nil))))) pa_nil))))
        (pss_one (ps_ret (pe_kn k__law_pick hr (by decide) (pa_cons (pv 0) (pa_cons (pe_lst (pa_cons (pe_tup (pa_cons (pe_op op_mul (pe_ix (ix_seqK (K := K) rfl) (pv 1) pe_int (fun _ _ => rfl)) (pv 2)) (pa_cons (pe_op op_mul (pe_ix (ix_seqK (K := K) rfl) (pv 1) pe_int (fun _ _ => rfl)) (pv 2)) pa_nil))) (pa_cons (pe_lst (pa_cons (pe_op op_mul (pe_ix (ix_seqK (K := K) rfl) (pv 1) pe_int (fun _ _ => rfl)) (pv 2)) (pa_cons (pe_op op_mul (pe_ix (ix_seqK (K := K) rfl) (pv 1) pe_int (fun _ _ => rfl)) (pv 2)) pa_nil))) pa_nil))) pa_nil))))))), fun ds O Φ h => ?_⟩
  obtain ⟨p, n, q, O0, rfl, rfl, hn, h1, h2, h3, h4, k⟩ := h
  have conv : ∀ (te : TE) (τ : Tau) (m : Nat), m ≤ n + 3 → Ec te τ ((p, oPen m) :: O0) (fun d O1 => ∃ m', m' ≤ n + 3 ∧ RatFor d q ∧ O1 = (p, oPen m') :: O0) → Ec te τ ((p, oPen m) :: O0) Φ := fun te τ m hm h => ec_re (h.imp fun d O1 ⟨m', h1, h2, h3⟩ => ⟨0, p, oPen m', oPen (n + 3), by rw [h3]; rfl, oPen_le h1, by rw [h3]; exact k d h2⟩)
  repeat walk_at "g"
  refine rc_ixT (d := .int q.2) rfl ?_
  repeat walk_at "g"
  have rest : ∀ m, m ≤ n + 1 → Sc (tSeq (tAsg (tCall (spW W__law_pick) [] E0 (tCons (tVar 0) (tCons (tLst (tCons (tC (.int 1)) (tCons (tC (.int 1)) (tCons (tC (.int 2)) (tCons (tC (.int 5)) tNil))))) tNil))) (gName 2)) (tRet (tCall (spW W__law_pick) [] E0 (tCons (tVar 0) (tCons (tLst (tCons (tTup (tCons (tOp (rI CMul fun i j => .int (i * j)) (tOp (rIx K) (tVar 1) (tC (.int 0))) (tVar 2)) (tCons (tOp (rI CMul fun i j => .int (i * j)) (tOp (rIx K) (tVar 1) (tC (.int 1))) (tVar 2)) tNil))) (tCons (tLst (tCons (tOp (rI CMul fun i j => .int (i * j)) (tOp (rIx K) (tVar 1) (tC (.int 0))) (tVar 2)) (tCons (tOp (rI CMul fun i j => .int (i * j)) (tOp (rIx K) (tVar 1) (tC (.int 1))) (tVar 2)) tNil))) tNil))) tNil))))) (endOf Φ) [some (.adr p), some (ratD q), none] ((p, oPen m) :: O0) := fun m hm => by
    repeat walk_at "g"
    refine ec_lst (ac_cons (ec_int (ac_cons (ec_int (ac_cons (ec_int (ac_cons (ec_int (ac_nil ⟨by show 4 ≤ sizeLine; decide, ?_⟩))))))))) 
    repeat walk_at "g"
    refine ⟨p, m, _, O0, rfl, rfl, by decide, by decide, by omega, fun d hd => ?_⟩
    obtain ⟨c, rfl, hc⟩ : ∃ c : Int, d = .int c ∧ (c = 1 ∨ c = 2 ∨ c = 5) := by
      simp only [List.mem_cons, List.not_mem_nil, or_false] at hd
      rcases hd with rfl | rfl | rfl | rfl
      · exact ⟨1, rfl, .inl rfl⟩
      · exact ⟨1, rfl, .inl rfl⟩
      · exact ⟨2, rfl, .inr (.inl rfl)⟩
      · exact ⟨5, rfl, .inr (.inr rfl)⟩
    have hc0 : 0 < c ∧ c ≤ 5 := by omega
    have hlow := low_mul q.1 q.2 h3 hc0.1
    have b1 : 0 ≤ q.1 * c := Int.mul_nonneg h1 (by omega)
    have b2 : q.1 * c ≤ 100 * 5 := Int.mul_le_mul h2 hc0.2 (by omega) (by decide)
    have b3 : 0 < q.2 * c := Int.mul_pos h3 hc0.1
    have b4 : q.2 * c ≤ 100 * 5 := Int.mul_le_mul h4 hc0.2 (by omega) (by decide)
    refine sc_ret (conv _ _ (m + 1) (by omega) ?_)
    repeat walk_at "g"
    refine ec_lst ?_
    repeat walk_at "g"
    refine rc_ixT (d := .int q.1) rfl ?_
    repeat walk_at "g"
    refine rc_i ⟨.inr ⟨by omega, by omega⟩, ?_⟩
    repeat walk_at "g"
    refine rc_ixT (d := .int q.2) rfl ?_
    repeat walk_at "g"
    refine rc_i ⟨.inr ⟨by omega, by omega⟩, ?_⟩
    repeat walk_at "g"
    refine ⟨by show 2 ≤ sizeLine; decide, ?_⟩
    repeat walk_at "g"
    refine ec_lst ?_
    repeat walk_at "g"
    refine rc_ixT (d := .int q.1) rfl ?_
    repeat walk_at "g"
    refine rc_i ⟨.inr ⟨by omega, by omega⟩, ?_⟩
    repeat walk_at "g"
    refine rc_ixT (d := .int q.2) rfl ?_
    repeat walk_at "g"
    refine rc_i ⟨.inr ⟨by omega, by omega⟩, ?_⟩
    repeat walk_at "g"
    refine ⟨by show 2 ≤ sizeLine; decide, ?_⟩
    repeat walk_at "g"
    refine ⟨by show 2 ≤ sizeLine; decide, ?_⟩
    repeat walk_at "g"
    refine ⟨p, m + 1, _, O0, rfl, rfl, by show 0 < 2; decide, by show 2 ≤ 1000; decide, by omega, fun d hd => ⟨m + 2, by omega, ?_, rfl⟩⟩
    simp only [List.mem_cons, List.not_mem_nil, or_false] at hd
    rcases hd with rfl | rfl
    · exact ⟨_, _, .tup _ _ b3, hlow, b1, by omega, by omega⟩
    · exact ⟨_, _, .lst _ _ b3, hlow, b1, by omega, by omega⟩
  by_cases h : q.2 = 1
  · rw [decide_eq_true h]
    repeat walk_at "g"
    refine ⟨p, n, 2, O0, rfl, rfl, by decide, by decide, by omega, fun d d0 d1 => ?_⟩
    repeat walk_at "g"
    by_cases hd : d = 0
    · rw [decide_eq_true hd]
      refine iteT (sc_ret (conv _ _ (n + 1) (by omega) ?_))
      repeat walk_at "g"
      refine rc_ixT (d := .int q.1) rfl ?_
      refine ⟨n + 1, by omega, ⟨q.1, 1, .int _, by rw [h], h1, by omega, by decide⟩, rfl⟩
    · rw [decide_eq_false hd]
      refine iteF (sc_next ?_)
      exact rest (n + 1) (by omega)
  · rw [decide_eq_false h]
    refine iteF (iteF (sc_next ?_))
    exact rest n (by omega)
def W__law_scale (ds : List D) (O : Ow) (Φ : Cd) : Prop := ∃ (p : Addr) (n : Nat) (O0 : Ow), ds = [.adr p] ∧ O = (p, oPen n) :: O0 ∧ n ≤ 900000 ∧ ∀ s : Int, (s = 1 ∨ s = 2 ∨ s = 10) → Φ (.int s) ((p, oPen (n + 1)) :: O0)
theorem sc__law_scale : FnScope ["_law_pen_here"] ["_law_pen_here"] (defScope s__law_scale) := ⟨rfl, rfl, rfl, by decide +kernel, rfl, by decide +kernel, by decide +kernel⟩
theorem kn__law_scale {P : Program} {w : World} {K : PySem.W.Frag} {mg : Str → Option Value} {base : Heap} (T : Txt K mg) : Kn P w K mg base "_law_scale" 3 ["_law_pen_here"] (spW (W__law_scale)) := by
  have S := sc__law_scale
  have k__law_pick := kn__law_pick (P := P) (w := w) (base := base) T
  refine kn_mk T.d__law_scale T.g__law_scale S (fun _ _ _ _ _ _ us hl => match us, hl with | [_], _ => rfl) (fun ds O Φ h => ?_) (fun cdv A outer s H E hr => ?_)
  · obtain ⟨p, n, O0, rfl, rfl, hn, k⟩ := h
    rfl
  have hu := hu_of hr
  have hu64 := hr.units
  have hu9 := hu9_of hr
  refine ⟨_, (pss_one (ps_ret (pe_kn k__law_pick hr (by decide) (pa_cons (pv 0) (pa_cons (pe_lst (pa_cons pe_int (pa_cons pe_int (pa_cons pe_int (pa_cons pe_int (pa_cons pe_int pa_nil)))))) pa_nil))))), fun ds O Φ h => ?_⟩
  obtain ⟨p, n, O0, rfl, rfl, hn, k⟩ := h
  repeat walk_at "g"
  refine ec_lst (ac_cons (ec_int (ac_cons (ec_int (ac_cons (ec_int (ac_cons (ec_int (ac_cons (ec_int (ac_nil ⟨by show 5 ≤ sizeLine; decide, ?_⟩)))))))))))
  repeat walk_at "g"
  refine ⟨p, n, _, O0, rfl, rfl, by decide, by decide, by omega, fun d hd => ?_⟩
  simp only [List.mem_cons, List.not_mem_nil, or_false] at hd
  rcases hd with rfl | rfl | rfl | rfl | rfl
  · exact k 1 (.inl rfl)
  · exact k 1 (.inl rfl)
  · exact k 1 (.inl rfl)
  · exact k 2 (.inr (.inl rfl))
  · exact k 10 (.inr (.inr rfl))
end Ab

/-! ## AbQ3 -/
set_option Elab.async false
set_option linter.all false
set_option maxRecDepth 100000
set_option maxHeartbeats 2000000
namespace Ab
open PySem L2
local macro_rules | `(tactic| walk_at "g") => `(tactic| first
  | with_reducible refine sc_seq ?_ | with_reducible refine sc_if ?_ | with_reducible refine sc_ret ?_ | with_reducible refine sc_asg ?_ | with_reducible refine sc_par ?_ | with_reducible refine sc_next ?_
  | ((with_reducible refine ec_var (d := ?dd) ?hv ?_); (case hv => exact rfl)) | with_reducible refine ec_int ?_ | with_reducible refine ec_bl ?_ | with_reducible refine ec_str ?_ | with_reducible refine ec_ty ?_ | with_reducible refine ec_non ?_
  | with_reducible refine ec_op ?_ | with_reducible refine ec_call ?_ | with_reducible refine ec_un ?_ | with_reducible refine ec_cb ?_ | with_reducible refine ec_if ?_ | with_reducible refine ec_andV ?_ | with_reducible refine ec_orV ?_ | with_reducible refine ec_notV ?_
  | with_reducible refine ac_cons ?_ | with_reducible refine ac_nil ?_ | (with_reducible refine ec_tup (ac_cons ?_)) | with_reducible refine ec_tup ?_
  | with_reducible refine tc_test ?_ | with_reducible refine tc_B ?_ | with_reducible refine tc_and ?_ | with_reducible refine tc_or ?_ | with_reducible refine tc_not ?_ | with_reducible refine tc_yes ?_
  | with_reducible refine rc_i0 ?_ | with_reducible refine rc_b0 ?_ | with_reducible refine rc_eqI ?_ | with_reducible refine rc_neI ?_ | with_reducible refine rc_eqS ?_ | with_reducible refine uc_neg ?_
  | with_reducible refine bc_int ?_ | with_reducible refine bc_abs ?_ | with_reducible refine bc_lenL ?_ | with_reducible refine bc_lenT ?_ | with_reducible refine bc_tupL ?_ | with_reducible refine bc_tupT ?_
  | with_reducible refine ec_chain ?_ | with_reducible refine ec_dget ?_ | with_reducible refine ec_dget2 ?_ | with_reducible refine ec_din ?_ | with_reducible refine ec_nget ?_ | with_reducible refine ec_nget2 ?_ | with_reducible refine ec_nnotin ?_ | with_reducible refine ec_app ?_ | with_reducible refine sc_nput ?_ | with_reducible refine sc_drop ?_ | with_reducible refine ec_setd ?_ | with_reducible refine ec_make ?_ | with_reducible refine ec_disp ?_ | with_reducible refine pc_cons ?_ | with_reducible refine pc_nil ?_ | with_reducible refine gc_sub ?_ | with_reducible refine sc_asgG ?_
  | with_reducible refine ⟨_, rfl, ?_⟩ | refine iteT ?_ | refine iteF ?_ | dsimp only )

/-! ### sums by keys -/
section
variable {κ : Type} [DecidableEq κ]
def accF (rs : List (κ × Int)) : List (κ × Int) := rs.foldl (fun f r => putG f r.1 ((valG f r.1).getD 0 + r.2)) []
def sumK (rs : List (κ × Int)) (k : κ) : Int := rs.foldl (fun t r => if r.1 = k then t + r.2 else t) 0
theorem accF_snoc (rs : List (κ × Int)) (r : κ × Int) : accF (rs ++ [r]) = putG (accF rs) r.1 ((valG (accF rs) r.1).getD 0 + r.2) := by
  unfold accF
  rw [List.foldl_append]
  rfl
theorem sumK_snoc (rs : List (κ × Int)) (r : κ × Int) (k : κ) : sumK (rs ++ [r]) k = if r.1 = k then sumK rs k + r.2 else sumK rs k := by
  unfold sumK
  rw [List.foldl_append]
  rfl
theorem snoc_ind {α : Type} {p : List α → Prop} (h0 : p []) (h1 : ∀ xs x, p xs → p (xs ++ [x])) : ∀ xs, p xs := fun xs => by
  have key : ∀ ys : List α, p ys.reverse := fun ys => by
    induction ys with
    | nil => exact h0
    | cons y ys ih =>
      rw [List.reverse_cons]
      exact h1 _ _ ih
  have := key xs.reverse
  rwa [List.reverse_reverse] at this
theorem accF_val (rs : List (κ × Int)) (k : κ) : (valG (accF rs) k).getD 0 = sumK rs k ∧ (k ∈ (accF rs).map (·.1) ↔ k ∈ rs.map (·.1)) ∧ ((accF rs).map (·.1)).Nodup ∧ (accF rs).length ≤ rs.length := by
  induction rs using snoc_ind with
  | h0 => exact ⟨rfl, Iff.rfl, List.nodup_nil, Nat.le_refl _⟩
  | h1 rs r ih =>
    obtain ⟨i1, i2, i3, i4⟩ := ih
    rw [accF_snoc]
    refine ⟨?_, ?_, putG_nodup _ _ i3, ?_⟩
    · rw [valG_put, sumK_snoc]
      by_cases e : k = r.1
      · subst e
        rw [if_pos rfl, if_pos rfl, Option.getD_some, i1]
      · rw [if_neg e, if_neg fun z => e z.symm, i1]
    · rw [putG_keys, List.map_append, List.mem_append, i2]
      constructor
      · rintro (rfl | h)
        · exact .inr (List.mem_singleton.mpr rfl)
        · exact .inl h
      · rintro (h | h)
        · exact .inr h
        · exact .inl (List.mem_singleton.mp h)
    · have := putG_length (accF rs) r.1 ((valG (accF rs) r.1).getD 0 + r.2)
      rw [List.length_append, List.length_singleton]
      omega
end
abbrev lrowD (r : WRow) : D := .tup [.int r.1, prD r.2]
def bidD (k s : Int) (L : List WRow) : D := .dK [(.inr "kinds", .int k), (.inr "scale", .int s), (.inr "rows", .lst (L.map lrowD))]
def kwL (rows : List WRow) : List (List Int × Int) := rows.map fun r => (r.2, r.1)
def keepW (rows : List WRow) (p : List Int) : Bool := !decide (sumK (kwL rows) p = 0) && decide (0 < maxI p)
def mergedL (rows : List WRow) : List WRow := (((accF (kwL rows)).map (·.1)).filter (keepW rows)).map fun p => (sumK (kwL rows) p, p)
def LIn (d : D) (r : WRow) : Prop := ∃ x, SeqOf x (r.2.map D.int) ∧ d = .tup [.int r.1, x]
def RowsL (k : Nat) (rs : List (D × WRow)) : Prop := ∀ z ∈ rs, LIn z.1 z.2 ∧ z.2.2.length = k
def vt (kv : List Int × Int) : List L2.Key × D := (kv.1.map Sum.inl, .int kv.2)
theorem valG_vt (f : List (List Int × Int)) (k : List Int) : valG (f.map vt) (k.map Sum.inl) = (valG f k).map D.int := by
  induction f with
  | nil => rfl
  | cons p r ih =>
    rw [List.map_cons]
    by_cases e : p.1 = k
    · rw [valG_hit (p := vt p) (by show p.1.map Sum.inl = _; rw [e]), valG_hit e]
      rfl
    · rw [valG_miss (p := vt p) fun z => e (inl_inj z), valG_miss e, ih]
theorem putG_vt (f : List (List Int × Int)) (k : List Int) (n : Int) : putG (f.map vt) (k.map Sum.inl) (.int n) = (putG f k n).map vt := by
  unfold putG
  rw [valG_vt, Option.isSome_map]
  split
  · rw [List.map_map, List.map_map]
    refine List.map_congr_left fun p _ => ?_
    show (if (vt p).1 = k.map Sum.inl then ((vt p).1, D.int n) else vt p) = vt (if p.1 = k then (p.1, n) else p)
    by_cases e : p.1 = k
    · rw [if_pos e, if_pos (show (vt p).1 = k.map Sum.inl by show p.1.map Sum.inl = _; rw [e])]
      rfl
    · rw [if_neg e, if_neg fun (z : (vt p).1 = k.map Sum.inl) => e (inl_inj z)]
  · rw [List.map_append]
    rfl
theorem ksD_ints (p : List Int) : ksD (p.map Sum.inl) = prD p := by
  unfold ksD
  rw [List.map_map]
  rfl
theorem bc_tupS {K : PySem.W.Frag} {O : Ow} {Φ : Cd} {x : D} {ds : List D} (h : SeqOf x ds) (k : Φ (.tup ds) O) : Bc (rTupK K) [x] O Φ := by
  rcases h with rfl | rfl
  · exact bc_tupT k
  · exact bc_tupL k
theorem alike_tup (p q : List Int) : PySem.W.alike (.tuple (p.map PyData.int)) (.tuple (q.map PyData.int)) = true := PySem.W.alike_ints p q
def W__law_merged (ds : List D) (O : Ow) (Φ : Cd) : Prop := ∃ (k s : Int) (rs : List (D × WRow)), ds = [.int k, .int s, .lst (rs.map (·.1))] ∧ rs.length ≤ 1000 ∧ (∀ z ∈ rs, LIn z.1 z.2 ∧ z.2.2 ≠ []) ∧ ∀ L : List WRow, L.Perm (mergedL (rs.map (·.2))) → Φ (bidD k s L) O
theorem sc__law_merged : FnScope ["_law_kinds", "_law_scale_here", "_law_rows", "_law_found", "_law_weight", "_law_numbers_here", "_law_plain", "_law_key"] ["_law_kinds", "_law_scale_here", "_law_rows"] (defScope s__law_merged) := ⟨rfl, rfl, rfl, by decide +kernel, rfl, by decide +kernel, by decide +kernel⟩
theorem kn__law_merged {P : Program} {w : World} {K : PySem.W.Frag} {mg : Str → Option Value} {base : Heap} (T : Txt K mg) : Kn P w K mg base "_law_merged" 1 ["_law_kinds", "_law_scale_here", "_law_rows"] (spW (W__law_merged)) := by
  have S := sc__law_merged
  refine kn_mk T.d__law_merged T.g__law_merged S (fun _ _ _ _ _ _ us hl => match us, hl with | [_, _, _], _ => rfl) (fun ds O Φ h => ?_) (fun cdv A outer s H E hr => ?_)
  · obtain ⟨kk, s0, rs, rfl, hn, hr, k⟩ := h
    rfl
  have hu := hu_of hr
  have hu64 := hr.units
  have hu9 := hu9_of hr
  refine ⟨_, (pss_cons (ps_set (i := 3) S.nd rfl (Or.inr rfl) pe_dnewT)
        (pss_cons (ps_for PassesOwn.never rfl (pi_listK (K := K) rfl (pv 2)) (pg_tupK (K := K) (n := 2) rfl rfl (pgs_cons (pg_name (i := 4) S.nd rfl (Or.inl rfl)) (pgs_cons (pg_name (i := 5) S.nd rfl (Or.inl rfl)) pgs_nil))) (pss_one (ps_dput hu (pv 3) (pe_callTy (call_tupK (K := K) rfl) (by rfl) T.f_tuple (by decide +kernel) (pa_cons (pv 5) pa_nil)) (pe_op op_add (pe_dget2 hu (pv 3) (pe_callTy (call_tupK (K := K) rfl) (by rfl) T.f_tuple (by decide +kernel) (pa_cons (pv 5) pa_nil)) pe_int ⟨by rfl, by rfl, by rfl, by rfl⟩) (pv 4)) rfl)))
        (pss_cons (ps_setLc (i := 6) (own := [("_law_key", 7)]) rfl S.nd rfl rfl (sw_true rfl rfl rfl (by kernel_rfl)) (pi_listK (K := K) rfl (pe_callB (cr_sortedD (K := K) rfl hu64) (by rfl) T.f_sorted (by decide +kernel) (pa_cons (pe_callTy (call_listT rfl) (by rfl) T.f_list (by decide +kernel) (pa_cons (pv 3) pa_nil)) pa_nil))) (blkOk_by (own := [("_law_key", 7)]) (by kernel_rfl)) (fun _ _ _ _ _ => (pg_name (i := 7) S.nd rfl (by first | exact Or.inl rfl | exact Or.inr rfl))) (fun _ _ _ _ _ => (pts_one (PW.pt (pw_and (pt_cmpR op_ne (pe_dget hu (pv 3) (pv 7) (fun _ _ => rfl)) pe_int (nomark _)) (pw_and1 (pt_cmpR op_gt (pe_callB (call_maxT (K := K) rfl rfl hu64) (by rfl) T.f_max (by decide +kernel) (pa_cons (pv 7) pa_nil)) pe_int (nomark _))))))) (fun _ _ _ _ _ => (pe_tup (pa_cons (pe_dget hu (pv 3) (pv 7) (fun _ _ => rfl)) (pa_cons (pv 7) pa_nil)))))
        (pss_one (ps_ret (pe_disp (pps_cons pe_str (pv 0) (pps_cons pe_str (pv 1) (pps_cons pe_str (pv 6) pps_nil))) (by rfl) (by rfl) (fun z => by cases z) (by decide))))))), fun ds O Φ h => ?_⟩
  obtain ⟨kk, s0, rs, rfl, hn, hr, k⟩ := h
  repeat walk_at "g"
  refine ec_dnewT fun f => ?_
  repeat walk_at "g"
  refine sc_for (ic_list (ec_var rfl ⟨_, rfl, fun i τ O' => O' = (f, oT ((accF (kwL ((rs.take i).map (·.2)))).map vt)) :: O ∧ ∃ x4 x5, τ = [some (.int kk), some (.int s0), some (.lst (rs.map (·.1))), some (.adr f), x4, x5, none, none], ⟨rfl, _, _, rfl⟩, fun _ _ _ _ => trivial, ?_, ?_⟩))
  · rintro i d τ O1 hd ⟨rfl, x4, x5, rfl⟩
    obtain ⟨z, hz, rfl⟩ := map_get hd
    obtain ⟨⟨x, hx, hrow⟩, _⟩ := hr z (List.mem_of_getElem? hz)
    rw [hrow]
    obtain ⟨v1, v2, v3, v4⟩ := accF_val (kwL ((rs.take i).map (·.2))) z.2.2
    have lk : (kwL ((rs.take i).map (·.2))).length ≤ rs.length := by
      unfold kwL
      rw [List.length_map, List.length_map, List.length_take]
      omega
    refine ⟨_, _, gc_tup (gcs_cons (gcs_cons gcs_nil)) rfl, sc_dputT ?_⟩
    repeat walk_at "g"
    refine ⟨isD_oT (j := 0) rfl, ?_⟩
    repeat walk_at "g"
    refine bc_tupS hx ?_
    repeat walk_at "g"
    refine ⟨_, gt_oT (j := 0) rfl (ksD_ints z.2.2).symm, ?_⟩
    have ev : (valG ((accF (kwL ((rs.take i).map (·.2)))).map vt) (z.2.2.map Sum.inl)).getD (.int 0) = .int ((valG (accF (kwL ((rs.take i).map (·.2)))) z.2.2).getD 0) := by
      rw [valG_vt]
      cases valG (accF (kwL ((rs.take i).map (·.2)))) z.2.2 <;> rfl
    rw [ev]
    repeat walk_at "g"
    refine bc_tupS hx ?_
    refine ⟨0, f, _, z.2.2.map Sum.inl, rfl, (ksD_ints z.2.2).symm, rfl, ?_, ?_, _, _, rfl⟩
    · rw [List.length_map]
      exact Nat.lt_of_lt_of_le (by omega : _ < 2000) (sz_ok (by omega))
    · have nx : accF (kwL ((rs.take (i + 1)).map (·.2))) = putG (accF (kwL ((rs.take i).map (·.2)))) z.2.2 ((valG (accF (kwL ((rs.take i).map (·.2)))) z.2.2).getD 0 + z.2.1) := by
        rw [take_next hz, List.map_append]
        show accF (kwL ((rs.take i).map (·.2) ++ [z.2])) = _
        unfold kwL
        rw [List.map_append]
        exact accF_snoc _ (z.2.2, z.2.1)
      rw [nx, putG_vt]
      rfl
  · rintro τ O1 ⟨rfl, x4, x5, rfl⟩
    rw [List.length_map, List.take_length]
    have hval := accF_val (kwL (rs.map (·.2)))
    have hne : ∀ p ∈ (accF (kwL (rs.map (·.2)))).map (·.1), p ≠ [] := fun p hp => by
      have := (hval p).2.1.mp hp
      unfold kwL at this
      rw [List.map_map, List.map_map] at this
      obtain ⟨z, hz, e⟩ := List.mem_map.mp this
      rw [← e]
      exact (hr z hz).2
    have hlen : (accF (kwL (rs.map (·.2)))).length ≤ 1000 := by
      have h1 := (hval []).2.2.2
      have h2 : (kwL (rs.map (·.2))).length = rs.length := by
        unfold kwL
        rw [List.length_map, List.length_map]
      omega
    unfold mergedL at k
    have hkeep : keepW (rs.map (·.2)) = fun p => !decide (sumK (kwL (rs.map (·.2))) p = 0) && decide (0 < maxI p) := rfl
    generalize keepW (rs.map (·.2)) = kw at k hkeep
    generalize hF : accF (kwL (rs.map (·.2))) = F at hval hne hlen k ⊢
    have vF : ∀ p ∈ F.map (·.1), valG (F.map vt) (p.map Sum.inl) = some (.int (sumK (kwL (rs.map (·.2))) p)) := fun p hp => by
      rw [valG_vt]
      cases e : valG F p with
      | none => 
        obtain ⟨kv, hkv, rfl⟩ := List.mem_map.mp hp
        exact absurd rfl (valG_none.mp e kv hkv)
      | some v =>
        have := (hval p).1
        rw [e] at this
        rw [← this]
        rfl
    refine sc_fz (j := 0) (i := 3) rfl fz_T rfl ?_
    repeat walk_at "g"
    have ekeys : (F.map vt).map (fun kv => ksD kv.1) = (F.map (·.1)).map prD := by
      rw [List.map_map, List.map_map]
      exact List.map_congr_left fun kv _ => ksD_ints kv.1
    have perm := List.mergeSort_perm (F.map (·.1)) (PySem.W.dataLe false fun p : List Int => .tuple (p.map PyData.int))
    refine ec_lcp ((F.map (·.1)).mergeSort (PySem.W.dataLe false fun p : List Int => .tuple (p.map PyData.int))) prD kw (fun p => lrowD (sumK (kwL (rs.map (·.2))) p, p)) (ic_list ?_) (sz_ok ?_) (fun p hp => ?_) (.inl ?_)
    · repeat walk_at "g"
      refine bc_listdT (.inl ?_)
      rw [ekeys]
      repeat walk_at "g"
      refine bc_sort (xs := F.map (·.1)) prD (fun p : List Int => .tuple (p.map PyData.int)) (fun p _ => .tup (pd_ints p)) (fun p _ q _ => alike_tup p q) (.inl fun d hd => ?_) (fun p _ => ?_) ?_
      · obtain ⟨p, hp, rfl⟩ := List.mem_map.mp hd
        cases p with
        | nil => exact absurd rfl (hne [] hp)
        | cons x r => exact ⟨_, _, rfl⟩
      · have := depth0_ints p
        show PyData.depthAll (p.map PyData.int) + 1 ≤ 8
        omega
      · exact ⟨_, rfl, rfl, rfl, trivial⟩
    · rw [perm.length_eq, List.length_map]
      omega
    · have hpF := perm.mem_iff.mp hp
      refine ⟨_, _, ?_, gc_name, ?_⟩
      · decide
      repeat walk_at "g"
      refine ⟨_, vF p hpF ▸ gt_T (ksD_ints p).symm, ?_⟩
      repeat walk_at "g"
      rw [hkeep]
      cases hz : decide (sumK (kwL (rs.map (·.2))) p = 0) with
      | true =>
        refine iteF ?_
        refine ⟨rfl, ?_, fun z => (nomatch z)⟩
        show false = (!decide (sumK (kwL (rs.map (·.2))) p = 0) && _)
        rw [hz]
        rfl
      | false =>
        repeat walk_at "g"
        refine bc_maxT (hne p hpF) ?_
        repeat walk_at "g"
        refine ⟨rfl, ?_, fun _ => ?_⟩
        · show _ = (!decide (sumK (kwL (rs.map (·.2))) p = 0) && _)
          rw [hz]
          rfl
        repeat walk_at "g"
        refine ⟨_, vF p hpF ▸ gt_T (ksD_ints p).symm, ?_⟩
        repeat walk_at "g"
        exact ⟨by show 2 ≤ sizeLine; decide, rfl, rfl⟩
    repeat walk_at "g"
    refine ⟨[(.inr "kinds", .int kk), (.inr "scale", .int s0), (.inr "rows", _)], rfl, by show 3 ≤ 15; decide, ?_, .inl ?_⟩
    · show ([.inr "kinds", .inr "scale", .inr "rows"] : List L2.Key).Nodup
      decide +kernel
    have := k _ (((perm.filter kw).map fun p => (sumK (kwL (rs.map (·.2))) p, p)))
    unfold bidD at this
    rw [List.map_map] at this
    exact this
end Ab

/-! ## AbQ4 -/
set_option Elab.async false
set_option linter.all false
set_option maxRecDepth 100000
set_option maxHeartbeats 2000000
namespace Ab
open PySem L2
local macro_rules | `(tactic| walk_at "g") => `(tactic| first
  | with_reducible refine sc_seq ?_ | with_reducible refine sc_if ?_ | with_reducible refine sc_ret ?_ | with_reducible refine sc_asg ?_ | with_reducible refine sc_par ?_ | with_reducible refine sc_next ?_
  | ((with_reducible refine ec_var (d := ?dd) ?hv ?_); (case hv => exact rfl)) | with_reducible refine ec_int ?_ | with_reducible refine ec_bl ?_ | with_reducible refine ec_str ?_ | with_reducible refine ec_ty ?_ | with_reducible refine ec_non ?_
  | with_reducible refine ec_op ?_ | with_reducible refine ec_call ?_ | with_reducible refine ec_un ?_ | with_reducible refine ec_cb ?_ | with_reducible refine ec_if ?_ | with_reducible refine ec_andV ?_ | with_reducible refine ec_orV ?_ | with_reducible refine ec_notV ?_
  | with_reducible refine ac_cons ?_ | with_reducible refine ac_nil ?_ | (with_reducible refine ec_tup (ac_cons ?_)) | with_reducible refine ec_tup ?_
  | with_reducible refine tc_test ?_ | with_reducible refine tc_B ?_ | with_reducible refine tc_and ?_ | with_reducible refine tc_or ?_ | with_reducible refine tc_not ?_ | with_reducible refine tc_yes ?_
  | with_reducible refine rc_i0 ?_ | with_reducible refine rc_b0 ?_ | with_reducible refine rc_eqI ?_ | with_reducible refine rc_neI ?_ | with_reducible refine rc_eqS ?_ | with_reducible refine uc_neg ?_
  | with_reducible refine bc_int ?_ | with_reducible refine bc_abs ?_ | with_reducible refine bc_lenL ?_ | with_reducible refine bc_lenT ?_ | with_reducible refine bc_tupL ?_ | with_reducible refine bc_tupT ?_
  | with_reducible refine ec_chain ?_ | with_reducible refine ec_dget ?_ | with_reducible refine ec_dget2 ?_ | with_reducible refine ec_din ?_ | with_reducible refine ec_nget ?_ | with_reducible refine ec_nget2 ?_ | with_reducible refine ec_nnotin ?_ | with_reducible refine ec_app ?_ | with_reducible refine sc_nput ?_ | with_reducible refine sc_drop ?_ | with_reducible refine ec_setd ?_ | with_reducible refine ec_make ?_ | with_reducible refine ec_disp ?_ | with_reducible refine pc_cons ?_ | with_reducible refine pc_nil ?_ | with_reducible refine gc_sub ?_ | with_reducible refine sc_asgG ?_
  | with_reducible refine ⟨_, rfl, ?_⟩ | refine iteT ?_ | refine iteF ?_ | dsimp only )

theorem ix_nat {n j : Nat} (hj : j < n) : ixN n (j : Int) = some j := by
  unfold ixN
  rw [if_pos (by omega), if_pos (by omega), Int.toNat_natCast]
def NumOk (k : Nat) (ns : List Int) : Prop := ns.length = k ∧ ∀ x ∈ ns, 0 ≤ x ∧ x ≤ 12
def LOk (k : Nat) (L : List WRow) : Prop := ∀ r ∈ L, NumOk k r.2
theorem mem_set_or {α : Type} {xs : List α} {i : Nat} {y x : α} (h : x ∈ xs.set i y) : x = y ∨ x ∈ xs := by
  rcases List.mem_or_eq_of_mem_set h with h | h
  · exact .inr h
  · exact .inl h
def W__law_numbers (ds : List D) (O : Ow) (Φ : Cd) : Prop := ∃ (p : Addr) (n k : Nat) (most : Int) (O0 : Ow), ds = [.adr p, .int k, .int most] ∧ O = (p, oPen n) :: O0 ∧ (1 ≤ k ∧ k ≤ 3) ∧ (1 ≤ most ∧ most ≤ 9) ∧ n ≤ 900000 ∧ ∀ ns, NumOk k ns → Φ (.lst (ns.map D.int)) ((p, oPen (n + 12)) :: O0)
theorem sc__law_numbers : FnScope ["_law_pen_here", "_law_kinds", "_law_most", "_law_found", "_law_k"] ["_law_pen_here", "_law_kinds", "_law_most"] (defScope s__law_numbers) := ⟨rfl, rfl, rfl, by decide +kernel, rfl, by decide +kernel, by decide +kernel⟩
theorem kn__law_numbers {P : Program} {w : World} {K : PySem.W.Frag} {mg : Str → Option Value} {base : Heap} (T : Txt K mg) : Kn P w K mg base "_law_numbers" 3 ["_law_pen_here", "_law_kinds", "_law_most"] (spW (W__law_numbers)) := by
  have S := sc__law_numbers
  have k__law_pick := kn__law_pick (P := P) (w := w) (base := base) T
  have k__law_draw := kn__law_draw (P := P) (w := w) (base := base) T
  refine kn_mk T.d__law_numbers T.g__law_numbers S (fun _ _ _ _ _ _ us hl => match us, hl with | [_, _, _], _ => rfl) (fun ds O Φ h => ?_) (fun cdv A outer s H E hr => ?_)
  · obtain ⟨p, n, kk, most, O0, rfl, rfl, ⟨k1, k3⟩, ⟨m1, m9⟩, hn, k⟩ := h
    rfl
  have hu := hu_of hr
  have hu64 := hr.units
  have hu9 := hu9_of hr
  refine ⟨_, (pss_cons (ps_setLc (i := 3) (own := [("_law_k", 4)]) rfl S.nd rfl rfl (sw_true rfl rfl rfl (by kernel_rfl)) (pi_range1 (by rfl) T.f_range (pa_cons (pv 1) pa_nil)) (blkOk_by (own := [("_law_k", 4)]) (by kernel_rfl)) (fun _ _ _ _ _ => (pg_name (i := 4) S.nd rfl (by first | exact Or.inl rfl | exact Or.inr rfl))) (fun _ _ _ _ _ => pts_nil) (fun _ _ _ _ _ => (pe_kn k__law_pick hr (by decide) (pa_cons (pv 0) (pa_cons (pe_lst (pa_cons pe_int (pa_cons pe_int (pa_cons pe_int (pa_cons (pe_kn k__law_draw hr (by decide) (pa_cons (pv 0) (pa_cons (pv 2) pa_nil))) (pa_cons (pe_kn k__law_draw hr (by decide) (pa_cons (pv 0) (pa_cons (pv 2) pa_nil))) pa_nil)))))) pa_nil)))))
        (pss_cons (ps_if (pt_cmpR op_eq (pe_callB (cr_maxK (K := K) rfl rfl) (by rfl) T.f_max (by decide +kernel) (pa_cons (pv 3) pa_nil)) pe_int (nomark _)) (pss_one (ps_asg (pe_op op_add pe_int (pe_kn k__law_draw hr (by decide) (pa_cons (pv 0) (pa_cons (pv 2) pa_nil)))) (pg_sub (pv 3) (pe_kn k__law_draw hr (by decide) (pa_cons (pv 0) (pa_cons (pv 1) pa_nil))) set_list))) pss_nil)
        (pss_one (ps_ret (pv 3))))), fun ds O Φ h => ?_⟩
  obtain ⟨p, n, kk, most, O0, rfl, rfl, ⟨k1, k3⟩, ⟨m1, m9⟩, hn, k⟩ := h
  repeat walk_at "g"
  refine ec_lc (ic_rng1 (ac_cons (ec_var rfl (ac_nil ⟨(kk : Int), rfl, by omega, by omega, ?_⟩))))
  rw [Int.toNat_natCast, rngD_len]
  refine ⟨sz_ok (by omega), fun i acc O2 => ∃ ns : List Int, acc = ns.map D.int ∧ NumOk i ns ∧ O2 = (p, oPen (n + 3 * i)) :: O0, ⟨[], rfl, ⟨rfl, fun x hx => absurd hx List.not_mem_nil⟩, rfl⟩, fun i acc O2 ⟨ns, h1, h2, _⟩ => ⟨trivial, by rw [h1, List.length_map, h2.1]; exact Nat.le_refl _⟩, ?_, ?_⟩
  · rintro i x acc O2 hx ⟨ns, rfl, ⟨h1, h2⟩, rfl⟩
    obtain ⟨hi, rfl⟩ := rngD_get hx
    refine ⟨_, _, ?_, gc_name, tc_yes ?_⟩
    · decide
    repeat walk_at "g"
    refine ec_lst ?_
    repeat walk_at "g"
    refine ⟨p, n + 3 * i, most, O0, rfl, rfl, by omega, by omega, by omega, fun d d0 d1 => ?_⟩
    repeat walk_at "g"
    refine ⟨p, n + 3 * i + 1, most, O0, rfl, rfl, by omega, by omega, by omega, fun e e0 e1 => ?_⟩
    repeat walk_at "g"
    refine ⟨by show 5 ≤ sizeLine; decide, ?_⟩
    repeat walk_at "g"
    refine ⟨p, n + 3 * i + 2, _, O0, rfl, rfl, by show 0 < 5; decide, by show 5 ≤ 1000; decide, by omega, fun y hy => ?_⟩
    obtain ⟨z, rfl, z0, z1⟩ : ∃ z : Int, y = .int z ∧ 0 ≤ z ∧ z ≤ 12 := by
      simp only [List.mem_cons, List.not_mem_nil, or_false] at hy
      rcases hy with rfl | rfl | rfl | rfl | rfl
      · exact ⟨0, rfl, by decide, by decide⟩
      · exact ⟨1, rfl, by decide, by decide⟩
      · exact ⟨2, rfl, by decide, by decide⟩
      · exact ⟨d, rfl, d0, by omega⟩
      · exact ⟨e, rfl, e0, by omega⟩
    refine ⟨ns ++ [z], by rw [List.map_append]; rfl, ⟨by rw [List.length_append, h1]; rfl, fun x hx => ?_⟩, by rw [show n + 3 * (i + 1) = n + 3 * i + 2 + 1 by omega]⟩
    rcases List.mem_append.mp hx with hx | hx
    · exact h2 x hx
    · rw [List.mem_singleton.mp hx]
      exact ⟨z0, z1⟩
  · rintro acc O2 ⟨ns, rfl, hns, rfl⟩
    refine .inr fun f => ?_
    refine sc_permO (swapO (p, oPen (n + 3 * kk)) (f, oLst (ns.map D.int)) O0) ?_
    have hne : ns ≠ [] := fun e => by
      have := hns.1
      rw [e] at this
      have : (0 : Nat) = kk := this
      omega
    refine sc_cut (fun τ' O' => ∃ (ns' : List Int) (m : Nat), NumOk kk ns' ∧ m ≤ n + 12 ∧ τ' = [some (.adr p), some (.int kk), some (.int most), some (.adr f), none] ∧ O' = (p, oPen m) :: (f, oLst (ns'.map D.int)) :: O0) ?_ ?_
    · repeat walk_at "g"
      refine bc_maxO (j := 1) rfl hne ?_
      repeat walk_at "g"
      by_cases hz : maxI ns = 0
      · rw [decide_eq_true hz]
        repeat walk_at "g"
        refine ⟨p, n + 3 * kk, most, _, rfl, rfl, by omega, by omega, by omega, fun d d0 d1 => ?_⟩
        repeat walk_at "g"
        refine ⟨p, n + 3 * kk + 1, (kk : Int), _, rfl, rfl, by omega, by omega, by omega, fun e e0 e1 => ?_⟩
        obtain ⟨e, rfl⟩ : ∃ j : Nat, e = (j : Int) := ⟨e.toNat, by omega⟩
        refine ⟨1, f, ns.map D.int, e, e, rfl, rfl, rfl, ix_nat (by rw [List.length_map, hns.1]; omega), ?_⟩
        refine ⟨ns.set e (1 + d), n + 3 * kk + 2, ⟨by rw [List.length_set, hns.1], fun x hx => ?_⟩, by omega, rfl, ?_⟩
        · rcases mem_set_or hx with rfl | hx
          · exact ⟨by omega, by omega⟩
          · exact hns.2 x hx
        · rw [List.map_set]
          rfl
      · rw [decide_eq_false hz]
        exact iteF (sc_next ⟨ns, n + 3 * kk, hns, by omega, rfl, rfl⟩)
    · rintro τ O' ⟨ns', m, hns', hm, rfl, rfl⟩
      refine sc_re (i := 0) (t' := oPen (n + 12)) rfl (oPen_le hm) ?_
      refine sc_ret (ec_fzR (ec_var rfl ⟨1, f, _, _, rfl, rfl, fz_L, ?_⟩))
      exact k ns' hns'
def W__law_block (ds : List D) (O : Ow) (Φ : Cd) : Prop := ∃ (p : Addr) (n k : Nat) (most : Int) (O0 : Ow), ds = [.adr p, .int k, .int most] ∧ O = (p, oPen n) :: O0 ∧ (2 ≤ k ∧ k ≤ 3) ∧ (1 ≤ most ∧ most ≤ 9) ∧ n ≤ 900000 ∧ ∀ rs : List WRow, LOk k rs → rs.length = 4 → Φ (.lst (rs.map wrowD)) ((p, oPen (n + 6)) :: O0)
theorem sc__law_block : FnScope ["_law_pen_here", "_law_kinds", "_law_most", "_law_one", "_law_i", "_law_j", "_law_a", "_law_b", "_law_t", "_law_w", "_law_rows", "_law_weight", "_law_x", "_law_y", "_law_numbers_here"] ["_law_pen_here", "_law_kinds", "_law_most"] (defScope s__law_block) := ⟨rfl, rfl, rfl, by decide +kernel, rfl, by decide +kernel, by decide +kernel⟩
theorem kn__law_block {P : Program} {w : World} {K : PySem.W.Frag} {mg : Str → Option Value} {base : Heap} (T : Txt K mg) : Kn P w K mg base "_law_block" 2 ["_law_pen_here", "_law_kinds", "_law_most"] (spW (W__law_block)) := by
  have S := sc__law_block
  have k__law_draw := kn__law_draw (P := P) (w := w) (base := base) T
  refine kn_mk T.d__law_block T.g__law_block S (fun _ _ _ _ _ _ us hl => match us, hl with | [_, _, _], _ => rfl) (fun ds O Φ h => ?_) (fun cdv A outer s H E hr => ?_)
  · obtain ⟨p, n, kk, most, O0, rfl, rfl, ⟨k2, k3⟩, ⟨m1, m9⟩, hn, k⟩ := h
    rfl
  have hu := hu_of hr
  have hu64 := hr.units
  have hu9 := hu9_of hr
  refine ⟨_, (pss_cons (ps_set (i := 3) S.nd rfl (Or.inl rfl) (pe_op op_rep (pe_lst (pa_cons pe_int pa_nil)) (pv 1)))
        (pss_cons (ps_set (i := 4) S.nd rfl (Or.inl rfl) (pe_kn k__law_draw hr (by decide) (pa_cons (pv 0) (pa_cons (pv 1) pa_nil))))
        (pss_cons (ps_set (i := 5) S.nd rfl (Or.inl rfl) (pe_op op_mod (pe_callTy call_int1N (by rfl) T.f_int (by decide +kernel) (pa_cons (pe_op op_add (pe_op op_add (pv 4) pe_int) (pe_kn k__law_draw hr (by decide) (pa_cons (pv 0) (pa_cons (pe_op op_sub (pv 1) pe_int) pa_nil)))) pa_nil)) (pv 1)))
        (pss_cons (ps_par (i := 6) (j := 7) rfl S.nd rfl rfl (by decide) rfl rfl (pa_cons (pe_op op_add pe_int (pe_kn k__law_draw hr (by decide) (pa_cons (pv 0) (pa_cons (pv 2) pa_nil)))) (pa_cons (pe_op op_add pe_int (pe_kn k__law_draw hr (by decide) (pa_cons (pv 0) (pa_cons (pv 2) pa_nil)))) pa_nil)) (by rfl))
        (pss_cons (ps_par (i := 8) (j := 9) rfl S.nd rfl rfl (by decide) rfl rfl (pa_cons (pe_op op_add pe_int (pe_kn k__law_draw hr (by decide) (pa_cons (pv 0) (pa_cons (pe_op op_sub (pe_callB (call_min2N rfl) (by rfl) T.f_min (by decide +kernel) (pa_cons (pv 6) (pa_cons (pv 7) pa_nil))) pe_int) pa_nil)))) (pa_cons (pe_op op_add pe_int (pe_kn k__law_draw hr (by decide) (pa_cons (pv 0) (pa_cons pe_int pa_nil)))) pa_nil)) (by rfl))
        (pss_cons (ps_set (i := 10) S.nd rfl (Or.inl rfl) (pe_lst pa_nil))
        (pss_cons (ps_for PassesOwn.never rfl (pi_listK (K := K) rfl (pe_lst (pa_cons (pe_tup (pa_cons (pv 9) (pa_cons (pv 6) (pa_cons (pv 7) pa_nil)))) (pa_cons (pe_tup (pa_cons (pv 9) (pa_cons (pe_op op_sub (pv 6) (pv 8)) (pa_cons pe_int pa_nil)))) (pa_cons (pe_tup (pa_cons (pv 9) (pa_cons pe_int (pa_cons (pe_op op_sub (pv 7) (pv 8)) pa_nil)))) (pa_cons (pe_tup (pa_cons (pe_un un_neg (pv 9)) (pa_cons (pe_op op_sub (pv 6) (pv 8)) (pa_cons (pe_op op_sub (pv 7) (pv 8)) pa_nil)))) pa_nil)))))) (pg_tupK (K := K) (n := 3) rfl rfl (pgs_cons (pg_name (i := 11) S.nd rfl (Or.inl rfl)) (pgs_cons (pg_name (i := 12) S.nd rfl (Or.inl rfl)) (pgs_cons (pg_name (i := 13) S.nd rfl (Or.inl rfl)) pgs_nil)))) (pss_cons (ps_set (i := 14) S.nd rfl (Or.inl rfl) (pe_callTy (call_listK (K := K) rfl) (by rfl) T.f_list (by decide +kernel) (pa_cons (pv 3) pa_nil)))
        (pss_cons (ps_asg (pe_tup (pa_cons (pv 12) (pa_cons (pv 13) pa_nil))) (pg_tupK (K := K) (n := 2) rfl rfl (pgs_cons (pg_sub (pv 14) (pv 4) set_list) (pgs_cons (pg_sub (pv 14) (pv 5) set_list) pgs_nil))))
        (pss_one (ps_expr (pe_bm PySem.F.plainAttrs_list PySem.F.slot_list_append PySem.F.type_list_append mt_append (pv 10) (pa_cons (pe_tup (pa_cons (pv 11) (pa_cons (pv 14) pa_nil))) pa_nil)))))))
        (pss_one (ps_ret (pv 10)))))))))), fun ds O Φ h => ?_⟩
  obtain ⟨p, n, kk, most, O0, rfl, rfl, ⟨k2, k3⟩, ⟨m1, m9⟩, hn, k⟩ := h
  repeat walk_at "g"
  refine ec_lst ?_
  repeat walk_at "g"
  refine ⟨by show 1 ≤ sizeLine; decide, ?_⟩
  repeat walk_at "g"
  refine rc_rep ⟨by omega, by omega, ?_⟩ ?_
  · rw [Int.toNat_natCast]
    show 1 * kk ≤ _
    exact sz_ok (by omega)
  rw [Int.toNat_natCast]
  have ez : (List.replicate kk [D.int 0]).flatten = (List.replicate kk (0 : Int)).map D.int := by
    rcases (by omega : kk = 2 ∨ kk = 3) with rfl | rfl <;> rfl
  rw [ez]
  have hz : NumOk kk (List.replicate kk (0 : Int)) := ⟨List.length_replicate, fun x hx => by rw [List.eq_of_mem_replicate hx]; exact ⟨by decide, by decide⟩⟩
  generalize List.replicate kk (0 : Int) = zs at hz ⊢
  repeat walk_at "g"
  refine ⟨p, n, (kk : Int), O0, rfl, rfl, by omega, by omega, by omega, fun i i0 i1 => ?_⟩
  repeat walk_at "g"
  refine ⟨p, n + 1, (kk : Int) - 1, O0, rfl, rfl, by omega, by omega, by omega, fun e e0 e1 => ?_⟩
  repeat walk_at "g"
  refine rc_i ⟨by omega, ?_⟩
  have j0 := Int.emod_nonneg (i + 1 + e) (by omega : (kk : Int) ≠ 0)
  have j1 := Int.emod_lt_of_pos (i + 1 + e) (by omega : 0 < (kk : Int))
  generalize (i + 1 + e) % (kk : Int) = j at j0 j1 ⊢
  repeat walk_at "g"
  refine ⟨p, n + 2, most, O0, rfl, rfl, by omega, by omega, by omega, fun a a0 a1 => ?_⟩
  repeat walk_at "g"
  refine ⟨p, n + 3, most, O0, rfl, rfl, by omega, by omega, by omega, fun b b0 b1 => ?_⟩
  repeat walk_at "g"
  refine ⟨_, _, rfl, ?_⟩
  repeat walk_at "g"
  refine bc_min2 ?_
  repeat walk_at "g"
  refine ⟨p, n + 4, _, O0, rfl, rfl, by omega, by omega, by omega, fun t t0 t1 => ?_⟩
  repeat walk_at "g"
  refine ⟨p, n + 5, 3, O0, rfl, rfl, by omega, by omega, by omega, fun w w0 w1 => ?_⟩
  repeat walk_at "g"
  refine ⟨_, _, rfl, ?_⟩
  repeat walk_at "g"
  refine ec_lstO (ac_nil ⟨by show 0 ≤ sizeLine; decide, fun q => ?_⟩)
  repeat walk_at "g"
  obtain ⟨i, rfl⟩ : ∃ u : Nat, i = (u : Int) := ⟨i.toNat, by omega⟩
  obtain ⟨j, rfl⟩ : ∃ u : Nat, j = (u : Int) := ⟨j.toNat, by omega⟩
  refine sc_for (ic_list ?_)
  repeat walk_at "g"
  refine ec_lst ?_
  repeat walk_at "g"
  refine ⟨by show 3 ≤ sizeLine; decide, ?_⟩
  repeat walk_at "g"
  refine ⟨by show 3 ≤ sizeLine; decide, ?_⟩
  repeat walk_at "g"
  refine ⟨by show 3 ≤ sizeLine; decide, ?_⟩
  repeat walk_at "g"
  refine ⟨by show 3 ≤ sizeLine; decide, ?_⟩
  repeat walk_at "g"
  refine ⟨by show 4 ≤ sizeLine; decide, ?_⟩
  have tb : t < (2 + a) - 1 ∧ t < (2 + b) - 1 := by omega
  have key : ∀ d ∈ [D.tup [.int (1 + w), .int (2 + a), .int (2 + b)], .tup [.int (1 + w), .int (2 + a - (1 + t)), .int 0], .tup [.int (1 + w), .int 0, .int (2 + b - (1 + t))], .tup [.int (-(1 + w)), .int (2 + a - (1 + t)), .int (2 + b - (1 + t))]],
      ∃ v x y : Int, d = .tup [.int v, .int x, .int y] ∧ (0 ≤ x ∧ x ≤ 12) ∧ (0 ≤ y ∧ y ≤ 12) := fun d hd => by
    simp only [List.mem_cons, List.not_mem_nil, or_false] at hd
    rcases hd with rfl | rfl | rfl | rfl
    · exact ⟨_, _, _, rfl, by omega, by omega⟩
    · exact ⟨_, _, _, rfl, by omega, by omega⟩
    · exact ⟨_, _, _, rfl, by omega, by omega⟩
    · exact ⟨_, _, _, rfl, by omega, by omega⟩
  have klen : [D.tup [.int (1 + w), .int (2 + a), .int (2 + b)], .tup [.int (1 + w), .int (2 + a - (1 + t)), .int 0], .tup [.int (1 + w), .int 0, .int (2 + b - (1 + t))], .tup [.int (-(1 + w)), .int (2 + a - (1 + t)), .int (2 + b - (1 + t))]].length = 4 := rfl
  generalize [D.tup [.int (1 + w), .int (2 + a), .int (2 + b)], .tup [.int (1 + w), .int (2 + a - (1 + t)), .int 0], .tup [.int (1 + w), .int 0, .int (2 + b - (1 + t))], .tup [.int (-(1 + w)), .int (2 + a - (1 + t)), .int (2 + b - (1 + t))]] = four at key klen ⊢
  generalize 1 + w = w
  generalize 1 + t = t
  generalize 2 + a = a
  generalize 2 + b = b
  refine ⟨_, rfl, fun m τ O' => ∃ (rs : List WRow) (x11 x12 x13 x14 : Option D), LOk kk rs ∧ rs.length = m ∧ O' = (q, oLst (rs.map wrowD)) :: (p, oPen (n + 6)) :: O0 ∧ τ = [some (.adr p), some (.int kk), some (.int most), some (.lst (zs.map D.int)), some (.int i), some (.int j), some (.int a), some (.int b), some (.int t), some (.int w), some (.adr q), x11, x12, x13, x14],
    ⟨[], _, _, _, _, fun r hr => absurd hr List.not_mem_nil, rfl, rfl, rfl⟩, fun _ _ _ _ => trivial, ?_, ?_⟩
  · rintro m d τ O1 hd ⟨rs, x11, x12, x13, x14, h1, h2, rfl, rfl⟩
    have hm4 := (List.getElem?_eq_some_iff.mp hd).1
    obtain ⟨v, x, y, rfl, hx, hy⟩ := key d (List.mem_of_getElem? hd)
    refine ⟨_, _, gc_tup (gcs_cons (gcs_cons (gcs_cons gcs_nil))) rfl, ?_⟩
    repeat walk_at "g"
    refine bc_listL (.inr fun u => ?_)
    refine sc_seq (sc_sub2 ?_)
    repeat walk_at "g"
    refine ⟨by show 2 ≤ sizeLine; decide, _, _, rfl, ?_⟩
    repeat walk_at "g"
    refine ⟨0, u, zs.map D.int, i, i, rfl, rfl, rfl, ix_nat (by rw [List.length_map, hz.1]; omega), ?_⟩
    repeat walk_at "g"
    refine ⟨0, u, (zs.map D.int).set i (.int x), j, j, rfl, rfl, rfl, ix_nat (by rw [List.length_set, List.length_map, hz.1]; omega), ?_⟩
    have es : ((zs.map D.int).set i (.int x)).set j (.int y) = ((zs.set i x).set j y).map D.int := by
      rw [List.map_set, List.map_set]
    rw [es]
    have hok : NumOk kk ((zs.set i x).set j y) := ⟨by rw [List.length_set, List.length_set, hz.1], fun c hc => by
      rcases mem_set_or hc with rfl | hc
      · exact hy
      · rcases mem_set_or hc with rfl | hc
        · exact hx
        · exact hz.2 c hc⟩
    generalize (zs.set i x).set j y = ns at hok ⊢
    refine sc_fz (j := 0) (i := 14) rfl fz_L rfl ?_
    repeat walk_at "g"
    refine ⟨0, q, _, rfl, rfl, ?_⟩
    repeat walk_at "g"
    refine ⟨by show 2 ≤ sizeLine; decide, 0, rs.map wrowD, rfl, ?_, ?_⟩
    · rw [List.length_map]
      exact Nat.lt_of_lt_of_le (by omega : _ < 5) (by decide)
    · refine ⟨rs ++ [(v, ns)], _, _, _, _, fun r hr => ?_, by rw [List.length_append, h2]; rfl, ?_, rfl⟩
      · rcases List.mem_append.mp hr with hr | hr
        · exact h1 r hr
        · rw [List.mem_singleton.mp hr]
          exact hok
      · rw [List.map_append]
        rfl
  · rintro τ O1 ⟨rs, x11, x12, x13, x14, h1, h2, rfl, rfl⟩
    refine sc_ret (ec_fzR (ec_var rfl ⟨0, q, _, _, rfl, rfl, fz_L, ?_⟩))
    exact k rs h1 (h2.trans klen)
end Ab

/-! ## AbQ5 -/
set_option Elab.async false
set_option linter.all false
set_option maxRecDepth 100000
set_option maxHeartbeats 2000000
namespace Ab
open PySem L2
local macro_rules | `(tactic| walk_at "g") => `(tactic| first
  | with_reducible refine sc_seq ?_ | with_reducible refine sc_if ?_ | with_reducible refine sc_ret ?_ | with_reducible refine sc_asg ?_ | with_reducible refine sc_par ?_ | with_reducible refine sc_next ?_
  | ((with_reducible refine ec_var (d := ?dd) ?hv ?_); (case hv => exact rfl)) | with_reducible refine ec_int ?_ | with_reducible refine ec_bl ?_ | with_reducible refine ec_str ?_ | with_reducible refine ec_ty ?_ | with_reducible refine ec_non ?_
  | with_reducible refine ec_op ?_ | with_reducible refine ec_call ?_ | with_reducible refine ec_un ?_ | with_reducible refine ec_cb ?_ | with_reducible refine ec_if ?_ | with_reducible refine ec_andV ?_ | with_reducible refine ec_orV ?_ | with_reducible refine ec_notV ?_
  | with_reducible refine ac_cons ?_ | with_reducible refine ac_nil ?_ | (with_reducible refine ec_tup (ac_cons ?_)) | with_reducible refine ec_tup ?_
  | with_reducible refine tc_test ?_ | with_reducible refine tc_B ?_ | with_reducible refine tc_and ?_ | with_reducible refine tc_or ?_ | with_reducible refine tc_not ?_ | with_reducible refine tc_yes ?_
  | with_reducible refine rc_i0 ?_ | with_reducible refine rc_b0 ?_ | with_reducible refine rc_eqI ?_ | with_reducible refine rc_neI ?_ | with_reducible refine rc_eqS ?_ | with_reducible refine uc_neg ?_
  | with_reducible refine bc_int ?_ | with_reducible refine bc_abs ?_ | with_reducible refine bc_lenL ?_ | with_reducible refine bc_lenT ?_ | with_reducible refine bc_tupL ?_ | with_reducible refine bc_tupT ?_
  | with_reducible refine ec_chain ?_ | with_reducible refine ec_dget ?_ | with_reducible refine ec_dget2 ?_ | with_reducible refine ec_din ?_ | with_reducible refine ec_nget ?_ | with_reducible refine ec_nget2 ?_ | with_reducible refine ec_nnotin ?_ | with_reducible refine ec_app ?_ | with_reducible refine sc_nput ?_ | with_reducible refine sc_drop ?_ | with_reducible refine ec_setd ?_ | with_reducible refine ec_make ?_ | with_reducible refine ec_disp ?_ | with_reducible refine pc_cons ?_ | with_reducible refine pc_nil ?_ | with_reducible refine gc_sub ?_ | with_reducible refine sc_asgG ?_
  | with_reducible refine ⟨_, rfl, ?_⟩ | refine iteT ?_ | refine iteF ?_ | dsimp only )

theorem rc_eqDO {K : PySem.W.Frag} {O : Ow} {Φ : Cd} {j : Nat} {a : Addr} {ds : List D} {y : D} {ps : List PyData} {q : PyData} (h : O[j]? = some (a, oLst ds)) (h1 : PdL ds ps) (h2 : Pd y q) (s1 : SeqAt.shaped (.list ps) = true) (s2 : SeqAt.shaped q = true) (k : Φ (.bl (PyData.eqv (.list ps) q)) O) : Rc (rEqD K) (.adr a) y O Φ := fun B C v u o d e Q f => by
  cases d
  obtain ⟨z, hc, xs, rfl, hx⟩ := o.at_ h
  exact ⟨.list ps, q, .lst (.inl (.inl hc)) (PdL.dp o.sub h1 hx), h2.dp o.sub e, s1, s2, f _ _ B C O k o.le (.bl _)⟩
def LOkB (k : Nat) (B : Int) (L : List WRow) : Prop := ∀ r ∈ L, r.2.length = k ∧ ∀ x ∈ r.2, 0 ≤ x ∧ x ≤ B
theorem mergedL_ok {k : Nat} {B : Int} {L : List WRow} (h : LOkB k B L) : LOkB k B (mergedL L) ∧ (mergedL L).length ≤ L.length := by
  have hv := accF_val (kwL L)
  refine ⟨fun r hr => ?_, ?_⟩
  · obtain ⟨p, hp, rfl⟩ := List.mem_map.mp hr
    have := (hv p).2.1.mp (List.mem_filter.mp hp).1
    unfold kwL at this
    rw [List.map_map] at this
    obtain ⟨q, hq, rfl⟩ := List.mem_map.mp this
    exact h q hq
  · have h1 := (hv []).2.2.2
    have h2 : (kwL L).length = L.length := List.length_map _
    unfold mergedL
    rw [List.length_map]
    exact Nat.le_trans (List.length_filter_le _ _) (by rw [List.length_map]; omega)
theorem perm_ok {k : Nat} {B : Int} {L M : List WRow} (h : LOkB k B L) (p : M.Perm (mergedL L)) : LOkB k B M ∧ M.length ≤ L.length := by
  obtain ⟨h1, h2⟩ := mergedL_ok h
  exact ⟨fun r hr => h1 r (p.mem_iff.mp hr), by rw [p.length_eq]; exact h2⟩
def pdl (r : WRow) : PyData := .tuple [.int r.1, .tuple (r.2.map PyData.int)]
theorem pd_lrow (r : WRow) : Pd (lrowD r) (pdl r) := .tup (.cons (.int _) (.cons (.tup (pd_ints _)) .nil))
theorem can_ints : ∀ ns : List Int, PyData.canLayAll0 (ns.map PyData.int) = true
  | [] => rfl
  | n :: ns => by
    show (PyData.canLay0 (.int n) && PyData.canLayAll0 (ns.map PyData.int)) = true
    rw [can_ints ns]
    rfl
theorem can_rows : ∀ L : List WRow, PyData.canLayAll0 (L.map pdl) = true
  | [] => rfl
  | r :: L => by
    show (PyData.canLay0 (pdl r) && PyData.canLayAll0 (L.map pdl)) = true
    rw [can_rows L]
    show ((PyData.canLay0 (.int r.1) && (PyData.canLayAll0 (r.2.map PyData.int) && true)) && true) = true
    rw [can_ints]
    rfl
theorem depth_rows : ∀ L : List WRow, PyData.depthAll (L.map pdl) ≤ 2
  | [] => Nat.zero_le _
  | r :: L => by
    have h1 := depth_rows L
    have h2 := depth0_ints r.2
    show max (max 0 (max (PyData.depthAll (r.2.map PyData.int) + 1) 0) + 1) (PyData.depthAll (L.map pdl)) ≤ 2
    omega
theorem shaped_rows (L : List WRow) : SeqAt.shaped (.list (L.map pdl)) = true := by
  have h1 : PyData.canLay0 (.list (L.map pdl)) = true := can_rows L
  have h2 : (PyData.list (L.map pdl)).depth ≤ 64 := by
    have := depth_rows L
    show PyData.depthAll (L.map pdl) + 1 ≤ 64
    omega
  unfold SeqAt.shaped
  rw [h1, decide_eq_true h2]
  rfl
def W__law_buyer (ds : List D) (O : Ow) (Φ : Cd) : Prop := ∃ (p : Addr) (n k : Nat) (s most many : Int) (O0 : Ow), ds = [.adr p, .int k, .int s, .int most, .int many] ∧ O = (p, oPen n) :: O0 ∧ (1 ≤ k ∧ k ≤ 3) ∧ (1 ≤ most ∧ most ≤ 9) ∧ (0 ≤ many ∧ many ≤ 100) ∧ n ≤ 800000 ∧
  ∀ L, LOkB k 12 L → L.length ≤ many.toNat → Φ (bidD k s L) ((p, oPen (n + 60)) :: O0)
theorem sc__law_buyer : FnScope ["_law_pen_here", "_law_kinds", "_law_scale_here", "_law_most", "_law_many", "_law_rows", "_law_lap"] ["_law_pen_here", "_law_kinds", "_law_scale_here", "_law_most", "_law_many"] (defScope s__law_buyer) := ⟨rfl, rfl, rfl, by decide +kernel, rfl, by decide +kernel, by decide +kernel⟩
theorem kn__law_buyer {P : Program} {w : World} {K : PySem.W.Frag} {mg : Str → Option Value} {base : Heap} (T : Txt K mg) : Kn P w K mg base "_law_buyer" 4 ["_law_pen_here", "_law_kinds", "_law_scale_here", "_law_most", "_law_many"] (spW (W__law_buyer)) := by
  have S := sc__law_buyer
  have k__law_draw := kn__law_draw (P := P) (w := w) (base := base) T
  have k__law_block := kn__law_block (P := P) (w := w) (base := base) T
  have k__law_numbers := kn__law_numbers (P := P) (w := w) (base := base) T
  have k__law_merged := kn__law_merged (P := P) (w := w) (base := base) T
  refine kn_mk T.d__law_buyer T.g__law_buyer S (fun _ _ _ _ _ _ us hl => match us, hl with | [_, _, _, _, _], _ => rfl) (fun ds O Φ h => ?_) (fun cdv A outer s H E hr => ?_)
  · obtain ⟨p, n, kk, s0, most, many, O0, rfl, rfl, ⟨k1, k3⟩, ⟨m1, m9⟩, ⟨y0, y1⟩, hn, k⟩ := h
    rfl
  have hu := hu_of hr
  have hu64 := hr.units
  have hu9 := hu9_of hr
  refine ⟨_, (pss_cons (ps_set (i := 5) S.nd rfl (Or.inl rfl) (pe_lst pa_nil))
        (pss_cons (ps_for PassesOwn.never rfl (pi_range1 (by rfl) T.f_range (pa_cons pe_int pa_nil)) (pg_name (i := 6) S.nd rfl (Or.inl rfl)) (pss_one (ps_if (PW.pt (pw_and (pt_cmpR op_gt (pv 1) pe_int (nomark _)) (pw_and (pt_cmpR op_ge (pv 4) pe_int (nomark _)) (pw_and1 (pt_cmpR op_eq (pe_kn k__law_draw hr (by decide) (pa_cons (pv 0) (pa_cons pe_int pa_nil))) pe_int (nomark _)))))) (pss_one (ps_par (i := 5) (j := 4) rfl S.nd rfl rfl (by decide) rfl rfl (pa_cons (pe_op op_cat (pv 5) (pe_kn k__law_block hr (by decide) (pa_cons (pv 0) (pa_cons (pv 1) (pa_cons (pv 3) pa_nil))))) (pa_cons (pe_op op_sub (pv 4) pe_int) pa_nil)) (by rfl))) (pss_one (ps_if (pt_cmpR op_gt (pv 4) pe_int (nomark _)) (pss_one (ps_par (i := 5) (j := 4) rfl S.nd rfl rfl (by decide) rfl rfl (pa_cons (pe_op op_cat (pv 5) (pe_lst (pa_cons (pe_tup (pa_cons (pe_op op_add pe_int (pe_kn k__law_draw hr (by decide) (pa_cons (pv 0) (pa_cons pe_int pa_nil)))) (pa_cons (pe_kn k__law_numbers hr (by decide) (pa_cons (pv 0) (pa_cons (pv 1) (pa_cons (pv 3) pa_nil)))) pa_nil))) pa_nil))) (pa_cons (pe_op op_sub (pv 4) pe_int) pa_nil)) (by rfl))) pss_nil)))))
        (pss_one (ps_ret (pe_kn k__law_merged hr (by decide) (pa_cons (pv 1) (pa_cons (pv 2) (pa_cons (pv 5) pa_nil)))))))), fun ds O Φ h => ?_⟩
  obtain ⟨p, n, kk, s0, most, many, O0, rfl, rfl, ⟨k1, k3⟩, ⟨m1, m9⟩, ⟨y0, y1⟩, hn, k⟩ := h
  repeat walk_at "g"
  refine ec_lst (ac_nil ⟨by show 0 ≤ sizeLine; decide, ?_⟩)
  repeat walk_at "g"
  refine sc_for (ic_rng1 (ac_cons (ec_int (ac_nil ⟨3, rfl, by decide, by decide, fun i τ O' => ∃ (rs : List WRow) (m : Nat) (mn : Int) (x6 : Option D), LOkB kk 12 rs ∧ (rs.length : Int) + mn = many ∧ 0 ≤ mn ∧ m ≤ n + 20 * i ∧ O' = (p, oPen m) :: O0 ∧ τ = [some (.adr p), some (.int kk), some (.int s0), some (.int most), some (.int mn), some (.lst (rs.map wrowD)), x6],
    ⟨[], n, many, _, fun r hr => absurd hr List.not_mem_nil, by simp, y0, Nat.le_refl _, rfl, rfl⟩, fun _ _ _ _ => trivial, ?_, ?_⟩))))
  · rintro i x τ O1 hx ⟨rs, m, mn, x6, h1, h2, h3, h4, rfl, rfl⟩
    obtain ⟨hi, rfl⟩ := rngD_get hx
    have hi : i < 3 := hi
    refine ⟨_, _, gc_name, ?_⟩
    have single : ∀ m', m' ≤ m + 1 → Sc (tIfS (tTest (tOp (rI0 fun i j => .bl (decide (j < i))) (tVar 4) (tC (.int 0)))) (tPar 5 4 (tCons (tOp rCat (tVar 5) (tLst (tCons (tTup (tCons (tOp (rI0 fun i j => .int (i + j)) (tC (.int 1)) (tCall (spW W__law_draw) [] E0 (tCons (tVar 0) (tCons (tC (.int 3)) tNil)))) (tCons (tCall (spW W__law_numbers) [] E0 (tCons (tVar 0) (tCons (tVar 1) (tCons (tVar 3) tNil)))) tNil))) tNil))) (tCons (tOp (rI0 fun i j => .int (i - j)) (tVar 4) (tC (.int 1))) tNil))) tNext)
        { nx := fun τ O' => ∃ (rs : List WRow) (m : Nat) (mn : Int) (x6 : Option D), LOkB kk 12 rs ∧ (rs.length : Int) + mn = many ∧ 0 ≤ mn ∧ m ≤ n + 20 * (i + 1) ∧ O' = (p, oPen m) :: O0 ∧ τ = [some (.adr p), some (.int kk), some (.int s0), some (.int most), some (.int mn), some (.lst (rs.map wrowD)), x6], rt := Φ }
        [some (.adr p), some (.int kk), some (.int s0), some (.int most), some (.int mn), some (.lst (rs.map wrowD)), some (.int (0 + (i : Int)))] ((p, oPen m') :: O0) := fun m' hm' => by
      repeat walk_at "g"
      by_cases hmn : 0 < mn
      · rw [decide_eq_true hmn]
        repeat walk_at "g"
        refine ec_lst ?_
        repeat walk_at "g"
        refine ⟨p, m', 3, O0, rfl, rfl, by decide, by decide, by omega, fun d d0 d1 => ?_⟩
        repeat walk_at "g"
        refine ⟨p, m' + 1, kk, most, O0, rfl, rfl, ⟨k1, k3⟩, ⟨m1, m9⟩, by omega, fun ns hns => ?_⟩
        repeat walk_at "g"
        refine ⟨by show 2 ≤ sizeLine; decide, ?_⟩
        repeat walk_at "g"
        refine ⟨by show 1 ≤ sizeLine; decide, ?_⟩
        refine rc_cat (sz_ok (by rw [List.length_map]; show rs.length + 1 ≤ _; omega)) (.inl ?_)
        repeat walk_at "g"
        refine ⟨_, _, rfl, rs ++ [(1 + d, ns)], m' + 1 + 12, mn - 1, some (.int (0 + (i : Int))), fun r hr => ?_, by rw [List.length_append, List.length_singleton]; omega, by omega, by omega, rfl, ?_⟩
        · rcases List.mem_append.mp hr with hr | hr
          · exact h1 r hr
          · rw [List.mem_singleton.mp hr]
            exact hns
        · rw [List.map_append]
          rfl
      · rw [decide_eq_false hmn]
        exact iteF (sc_next ⟨rs, m', mn, _, h1, h2, h3, by omega, rfl, rfl⟩)
    repeat walk_at "g"
    by_cases hk1 : (1 : Int) < kk
    · rw [decide_eq_true hk1]
      repeat walk_at "g"
      by_cases hm4 : 4 ≤ mn
      · rw [decide_eq_true hm4]
        repeat walk_at "g"
        refine ⟨p, m, 2, O0, rfl, rfl, by decide, by decide, by omega, fun d d0 d1 => ?_⟩
        repeat walk_at "g"
        by_cases hd : d = 0
        · rw [decide_eq_true hd]
          repeat walk_at "g"
          refine ⟨p, m + 1, kk, most, O0, rfl, rfl, ⟨by omega, k3⟩, ⟨m1, m9⟩, by omega, fun bs hb hl => ?_⟩
          refine rc_cat (sz_ok (by rw [List.length_map, List.length_map]; omega)) (.inl ?_)
          repeat walk_at "g"
          refine ⟨_, _, rfl, rs ++ bs, m + 1 + 6, mn - 4, some (.int (0 + (i : Int))), fun r hr => ?_, by rw [List.length_append]; omega, by omega, by omega, rfl, ?_⟩
          · rcases List.mem_append.mp hr with hr | hr
            · exact h1 r hr
            · exact hb r hr
          · rw [List.map_append]
            rfl
        · rw [decide_eq_false hd]
          refine iteF ?_
          exact (single (m + 1) (Nat.le_refl _)).imp (fun _ _ p => p) (fun _ _ p => p) (fun _ _ p => p.elim) (fun _ _ p => p.elim)
      · rw [decide_eq_false hm4]
        refine iteF (iteF ?_)
        exact (single m (Nat.le_succ _)).imp (fun _ _ p => p) (fun _ _ p => p) (fun _ _ p => p.elim) (fun _ _ p => p.elim)
    · rw [decide_eq_false hk1]
      refine iteF (iteF ?_)
      exact (single m (Nat.le_succ _)).imp (fun _ _ p => p) (fun _ _ p => p) (fun _ _ p => p.elim) (fun _ _ p => p.elim)
  · rw [rngD_len]
    rintro τ O1 ⟨rs, m, mn, x6, h1, h2, h3, h4, rfl, rfl⟩
    refine sc_re (i := 0) (t' := oPen (n + 60)) rfl (oPen_le (by have : (3 : Int).toNat = 3 := rfl; omega)) ?_
    repeat walk_at "g"
    refine ⟨(kk : Int), s0, rs.map fun r => (wrowD r, r), ?_, by rw [List.length_map]; omega, fun z hz => ?_, fun L hL => ?_⟩
    · rw [List.map_map]
      rfl
    · obtain ⟨r, hr, rfl⟩ := List.mem_map.mp hz
      refine ⟨⟨_, .inr rfl, rfl⟩, fun e => ?_⟩
      have := (h1 r hr).1
      rw [show r.2 = [] from e] at this
      have : (0 : Nat) = kk := this
      omega
    · rw [List.map_map] at hL
      have e : rs.map (Prod.snd ∘ fun r => (wrowD r, r)) = rs := List.map_id' rs
      rw [e] at hL
      obtain ⟨g1, g2⟩ := perm_ok h1 hL
      exact k L g1 (by omega)
abbrev bidK (k s : Int) (L : List WRow) : List (L2.Key × D) := [(.inr "kinds", .int k), (.inr "scale", .int s), (.inr "rows", .lst (L.map lrowD))]
theorem bid_kinds (k s : Int) (L : List WRow) : valG (bidK k s L) (.inr "kinds") = some (.int k) := rfl
theorem bid_scale (k s : Int) (L : List WRow) : valG (bidK k s L) (.inr "scale") = some (.int s) := rfl
theorem bid_rows (k s : Int) (L : List WRow) : valG (bidK k s L) (.inr "rows") = some (.lst (L.map lrowD)) := rfl
theorem gt_kinds {k s : Int} {L : List WRow} {O : Ow} : Gt (bidD k s L) (.str "kinds") O (some (.int k)) := gt_K (k := .inr "kinds") rfl
theorem gt_scale {k s : Int} {L : List WRow} {O : Ow} : Gt (bidD k s L) (.str "scale") O (some (.int s)) := gt_K (k := .inr "scale") rfl
theorem gt_rows {k s : Int} {L : List WRow} {O : Ow} : Gt (bidD k s L) (.str "rows") O (some (.lst (L.map lrowD))) := gt_K (k := .inr "rows") rfl
theorem lin_row (r : WRow) : LIn (lrowD r) r := ⟨_, .inl rfl, rfl⟩
theorem win_row (r : WRow) : LIn (wrowD r) r := ⟨_, .inr rfl, rfl⟩
def W__law_list (ds : List D) (O : Ow) (Φ : Cd) : Prop := ∃ (p : Addr) (n k : Nat) (s most many : Int) (O0 : Ow), ds = [.adr p, .int k, .int s, .int most, .int many] ∧ O = (p, oPen n) :: O0 ∧ (1 ≤ k ∧ k ≤ 3) ∧ (1 ≤ most ∧ most ≤ 9) ∧ (0 ≤ many ∧ many ≤ 20) ∧ n ≤ 700000 ∧
  ∀ L, LOkB k 12 L → L.length ≤ many.toNat + 1 → Φ (bidD k s L) ((p, oPen (n + 80)) :: O0)
theorem sc__law_list : FnScope ["_law_pen_here", "_law_kinds", "_law_scale_here", "_law_most", "_law_many", "_law_way", "_law_found", "_law_rows", "_law_k"] ["_law_pen_here", "_law_kinds", "_law_scale_here", "_law_most", "_law_many"] (defScope s__law_list) := ⟨rfl, rfl, rfl, by decide +kernel, rfl, by decide +kernel, by decide +kernel⟩
theorem kn__law_list {P : Program} {w : World} {K : PySem.W.Frag} {mg : Str → Option Value} {base : Heap} (T : Txt K mg) : Kn P w K mg base "_law_list" 5 ["_law_pen_here", "_law_kinds", "_law_scale_here", "_law_most", "_law_many"] (spW (W__law_list)) := by
  have S := sc__law_list
  have k__law_draw := kn__law_draw (P := P) (w := w) (base := base) T
  have k__law_buyer := kn__law_buyer (P := P) (w := w) (base := base) T
  have k__law_numbers := kn__law_numbers (P := P) (w := w) (base := base) T
  have k__law_merged := kn__law_merged (P := P) (w := w) (base := base) T
  refine kn_mk T.d__law_list T.g__law_list S (fun _ _ _ _ _ _ us hl => match us, hl with | [_, _, _, _, _], _ => rfl) (fun ds O Φ h => ?_) (fun cdv A outer s H E hr => ?_)
  · obtain ⟨p, n, kk, s0, most, many, O0, rfl, rfl, ⟨k1, k3⟩, ⟨m1, m9⟩, ⟨y0, y1⟩, hn, k⟩ := h
    rfl
  have hu := hu_of hr
  have hu64 := hr.units
  have hu9 := hu9_of hr
  refine ⟨_, (pss_cons (ps_par (i := 5) (j := 6) rfl S.nd rfl rfl (by decide) rfl rfl (pa_cons (pe_kn k__law_draw hr (by decide) (pa_cons (pv 0) (pa_cons pe_int pa_nil))) (pa_cons (pe_kn k__law_buyer hr (by decide) (pa_cons (pv 0) (pa_cons (pv 1) (pa_cons (pv 2) (pa_cons (pv 3) (pa_cons (pv 4) pa_nil)))))) pa_nil)) (by rfl))
        (pss_cons (ps_if (PW.pt (pw_or (pt_cmpR op_eq (pv 5) pe_int (nomark _)) (pw_or1 (pt_cmpR (op_eqDK (K := K) rfl hu64) (pe_dget hu (pv 6) pe_str (fun _ _ => rfl)) (pe_lst pa_nil) (nomark _))))) (pss_one (ps_ret (pv 6))) pss_nil)
        (pss_cons (ps_set (i := 7) S.nd rfl (Or.inl rfl) (pe_callTy (call_listK (K := K) rfl) (by rfl) T.f_list (by decide +kernel) (pa_cons (pe_dget hu (pv 6) pe_str (fun _ _ => rfl)) pa_nil)))
        (pss_cons (ps_if (pt_cmpR op_eq (pv 5) pe_int (nomark _)) (pss_cons (ps_set (i := 8) S.nd rfl (Or.inl rfl) (pe_kn k__law_draw hr (by decide) (pa_cons (pv 0) (pa_cons (pe_callB (call_lenK (K := K) rfl) (by rfl) T.f_len PySem.boot_len (pa_cons (pv 7) pa_nil)) pa_nil))))
        (pss_one (ps_asg (pe_tup (pa_cons (pe_op op_sub (pe_op op_sub (pe_ix (ix_seqK (K := K) rfl) (pe_ix (ix_seqK (K := K) rfl) (pv 7) (pv 8) (fun _ _ => rfl)) pe_int (fun _ _ => rfl)) pe_int) (pe_kn k__law_draw hr (by decide) (pa_cons (pv 0) (pa_cons pe_int pa_nil)))) (pa_cons (pe_ix (ix_seqK (K := K) rfl) (pe_ix (ix_seqK (K := K) rfl) (pv 7) (pv 8) (fun _ _ => rfl)) pe_int (fun _ _ => rfl)) pa_nil))) (pg_sub (pv 7) (pv 8) set_list)))) pss_nil)
        (pss_cons (ps_if (pt_cmpR op_eq (pv 5) pe_int (nomark _)) (pss_one (ps_set (i := 7) S.nd rfl (Or.inl rfl) (pe_op op_cat (pv 7) (pe_lst (pa_cons (pe_tup (pa_cons (pe_op op_sub (pe_un un_neg pe_int) (pe_kn k__law_draw hr (by decide) (pa_cons (pv 0) (pa_cons pe_int pa_nil)))) (pa_cons (pe_kn k__law_numbers hr (by decide) (pa_cons (pv 0) (pa_cons (pv 1) (pa_cons (pv 3) pa_nil)))) pa_nil))) pa_nil))))) pss_nil)
        (pss_one (ps_ret (pe_kn k__law_merged hr (by decide) (pa_cons (pv 1) (pa_cons (pv 2) (pa_cons (pv 7) pa_nil))))))))))), fun ds O Φ h => ?_⟩
  obtain ⟨p, n, kk, s0, most, many, O0, rfl, rfl, ⟨k1, k3⟩, ⟨m1, m9⟩, ⟨y0, y1⟩, hn, k⟩ := h
  repeat walk_at "g"
  refine ⟨p, n, 4, O0, rfl, rfl, by decide, by decide, by omega, fun w w0 w1 => ?_⟩
  repeat walk_at "g"
  refine ⟨p, n + 1, kk, s0, most, many, O0, rfl, rfl, ⟨k1, k3⟩, ⟨m1, m9⟩, ⟨y0, by omega⟩, by omega, fun L hL hl => ?_⟩
  repeat walk_at "g"
  refine ⟨_, _, rfl, ?_⟩
  have done : ∀ (zs : List (D × WRow)) (m : Nat), (∀ z ∈ zs, LIn z.1 z.2) → LOkB kk 12 (zs.map (·.2)) → zs.length ≤ many.toNat + 1 → m ≤ n + 80 → W__law_merged [.int kk, .int s0, .lst (zs.map (·.1))] ((p, oPen (n + 80)) :: O0) Φ := fun zs m h1 h2 h3 h4 => by
    refine ⟨(kk : Int), s0, zs, rfl, by omega, fun z hz => ⟨h1 z hz, fun e => ?_⟩, fun M hM => ?_⟩
    · have := (h2 z.2 (List.mem_map_of_mem hz)).1
      rw [show z.2.2 = [] from e] at this
      have : (0 : Nat) = kk := this
      omega
    · obtain ⟨g1, g2⟩ := perm_ok h2 hM
      exact k M g1 (by rw [List.length_map] at g2; omega)
  have back : ∀ (E' : De), E'.rt = Φ → ∀ m, m ≤ n + 80 → ∀ (τ : Tau), τ[6]? = some (some (bidD kk s0 L)) → Sc (tRet (tVar 6)) E' τ ((p, oPen m) :: O0) := fun E' hE m hm τ hτ => sc_re (i := 0) (t' := oPen (n + 80)) rfl (oPen_le hm) (sc_ret (ec_var hτ (by rw [hE]; exact k L hL (by omega))))
  have mg : ∀ (zs : List (D × WRow)) (m : Nat) (τ : Tau), (∀ z ∈ zs, LIn z.1 z.2) → LOkB kk 12 (zs.map (·.2)) → zs.length ≤ many.toNat + 1 → m ≤ n + 80 → τ[1]? = some (some (.int kk)) → τ[2]? = some (some (.int s0)) → τ[7]? = some (some (.lst (zs.map (·.1)))) →
      Sc (tRet (tCall (spW W__law_merged) [] E0 (tCons (tVar 1) (tCons (tVar 2) (tCons (tVar 7) tNil))))) (endOf Φ) τ ((p, oPen m) :: O0) := fun zs m τ h1 h2 h3 h4 e1 e2 e3 =>
    sc_re (i := 0) (t' := oPen (n + 80)) rfl (oPen_le h4) (sc_ret (ec_call (ac_cons (ec_var e1 (ac_cons (ec_var e2 (ac_cons (ec_var e3 (ac_nil (done zs m h1 h2 h3 h4))))))))))
  have hLz : ∀ z ∈ L.map (fun r => (lrowD r, r)), LIn z.1 z.2 := fun z hz => by
    obtain ⟨r, _, rfl⟩ := List.mem_map.mp hz
    exact lin_row r
  have eL : (L.map fun r => (lrowD r, r)).map (·.1) = L.map lrowD := by
    rw [List.map_map]
    rfl
  have eL2 : (L.map fun r => (lrowD r, r)).map (·.2) = L := by
    rw [List.map_map]
    exact List.map_id' L
  repeat walk_at "g"
  by_cases hw0 : w = 0
  · rw [decide_eq_true hw0]
    exact iteT (iteT (back _ rfl (n + 1 + 60) (by omega) _ rfl))
  · rw [decide_eq_false hw0]
    repeat walk_at "g"
    refine ⟨_, gt_rows, ?_⟩
    repeat walk_at "g"
    refine ec_lst (ac_nil ⟨by show 0 ≤ sizeLine; decide, ?_⟩)
    refine rc_eqD (.lst (pdL_map pd_lrow L)) (.lst .nil) (shaped_rows L) rfl ⟨_, rfl, ?_⟩
    cases hb : PyData.eqv (.list (L.map pdl)) (.list []) with
    | true => exact iteT (back _ rfl (n + 1 + 60) (by omega) _ rfl)
    | false =>
      have hne : 0 < L.length := by
        cases L with
        | nil => cases hb
        | cons r L => exact Nat.succ_pos _
      repeat walk_at "g"
      refine ⟨_, gt_rows, ?_⟩
      repeat walk_at "g"
      by_cases hw1 : w = 1
      · refine bc_listL (.inr fun f => ?_)
        refine sc_permO (swapO (p, oPen (n + 1 + 60)) (f, oLst (L.map lrowD)) O0) ?_
        repeat walk_at "g"
        rw [decide_eq_true hw1]
        repeat walk_at "g"
        refine bc_lenO (j := 1) rfl ?_
        repeat walk_at "g"
        rw [List.length_map]
        refine ⟨p, n + 1 + 60, _, _, rfl, rfl, by omega, by omega, by omega, fun j j0 j1 => ?_⟩
        obtain ⟨j, rfl⟩ : ∃ u : Nat, j = (u : Int) := ⟨j.toNat, by omega⟩
        obtain ⟨r, hr⟩ : ∃ r, L[j]? = some r := ⟨_, List.getElem?_eq_getElem (by omega)⟩
        have hat : atI (L.map lrowD) (j : Int) = some (lrowD r) := atI_nat (by rw [List.getElem?_map, hr]; rfl)
        repeat walk_at "g"
        refine rc_ixO (j := 1) rfl hat ?_
        repeat walk_at "g"
        refine rc_ixT (d := .int r.1) rfl ?_
        repeat walk_at "g"
        refine ⟨p, n + 1 + 60 + 1, 3, _, rfl, rfl, by decide, by decide, by omega, fun d d0 d1 => ?_⟩
        repeat walk_at "g"
        refine rc_ixO (j := 1) rfl hat ?_
        repeat walk_at "g"
        refine rc_ixT (d := prD r.2) rfl ?_
        repeat walk_at "g"
        refine ⟨by show 2 ≤ sizeLine; decide, ?_⟩
        repeat walk_at "g"
        refine ⟨1, f, L.map lrowD, j, j, rfl, rfl, rfl, ix_nat (by rw [List.length_map]; omega), ?_⟩
        have es : (L.map lrowD).set j (.tup [.int (r.1 - 1 - d), prD r.2]) = ((L.set j (r.1 - 1 - d, r.2)).map fun r => (lrowD r, r)).map (·.1) := by
          rw [List.map_map, List.map_set]
          rfl
        rw [es]
        refine sc_fz (j := 1) (i := 7) rfl fz_L rfl ?_
        repeat walk_at "g"
        rw [decide_eq_false (by omega : ¬ w = 2)]
        refine iteF (sc_next ?_)
        refine mg _ (n + 1 + 60 + 1 + 1) _ (fun z hz => ?_) (fun q hq => ?_) (by rw [List.length_map, List.length_set]; omega) (by omega) rfl rfl rfl
        · obtain ⟨q, _, rfl⟩ := List.mem_map.mp hz
          exact lin_row q
        · have e2 : ((L.set j (r.1 - 1 - d, r.2)).map fun r => (lrowD r, r)).map (·.2) = L.set j (r.1 - 1 - d, r.2) := by
            rw [List.map_map]
            exact List.map_id' _
          rw [e2] at hq
          rcases mem_set_or hq with rfl | hq
          · exact hL r (List.mem_of_getElem? hr)
          · exact hL q hq
      · refine bc_listL (.inl ?_)
        repeat walk_at "g"
        rw [decide_eq_false hw1]
        repeat walk_at "g"
        by_cases hw2 : w = 2
        · rw [decide_eq_true hw2]
          repeat walk_at "g"
          refine ec_lst ?_
          repeat walk_at "g"
          refine ⟨p, n + 1 + 60, 2, _, rfl, rfl, by decide, by decide, by omega, fun d d0 d1 => ?_⟩
          repeat walk_at "g"
          refine ⟨p, n + 1 + 60 + 1, kk, most, _, rfl, rfl, ⟨k1, k3⟩, ⟨m1, m9⟩, by omega, fun ns hns => ?_⟩
          repeat walk_at "g"
          refine ⟨by show 2 ≤ sizeLine; decide, ?_⟩
          repeat walk_at "g"
          refine ⟨by show 1 ≤ sizeLine; decide, ?_⟩
          refine rc_cat (sz_ok (by rw [List.length_map]; show L.length + 1 ≤ _; omega)) (.inl ?_)
          refine mg (L.map (fun r => (lrowD r, r)) ++ [(wrowD (-1 - d, ns), (-1 - d, ns))]) (n + 1 + 60 + 1 + 12) _ (fun z hz => ?_) (fun q hq => ?_) (by rw [List.length_append, List.length_map, List.length_singleton]; omega) (by omega) rfl rfl ?_
          · rcases List.mem_append.mp hz with hz | hz
            · exact hLz z hz
            · rw [List.mem_singleton.mp hz]
              exact win_row _
          · rw [List.map_append, eL2] at hq
            rcases List.mem_append.mp hq with hq | hq
            · exact hL q hq
            · rw [List.mem_singleton.mp hq]
              exact hns
          · rw [List.map_append, eL]
            rfl
        · rw [decide_eq_false hw2]
          refine iteF (sc_next ?_)
          exact mg (L.map fun r => (lrowD r, r)) (n + 1 + 60) _ hLz (by rw [eL2]; exact hL) (by rw [List.length_map]; omega) (by omega) rfl rfl (by rw [eL]; rfl)
def W__law_sum (ds : List D) (O : Ow) (Φ : Cd) : Prop := ∃ (k s k' s' : Int) (L M : List WRow), ds = [bidD k s L, bidD k' s' M] ∧ L.length + M.length ≤ 500 ∧ (∀ r ∈ L, r.2 ≠ []) ∧ (∀ r ∈ M, r.2 ≠ []) ∧ ∀ R : List WRow, R.Perm (mergedL (L ++ M)) → Φ (bidD k s R) O
theorem sc__law_sum : FnScope ["_law_one", "_law_other"] ["_law_one", "_law_other"] (defScope s__law_sum) := ⟨rfl, rfl, rfl, by decide +kernel, rfl, by decide +kernel, by decide +kernel⟩
theorem kn__law_sum {P : Program} {w : World} {K : PySem.W.Frag} {mg : Str → Option Value} {base : Heap} (T : Txt K mg) : Kn P w K mg base "_law_sum" 2 ["_law_one", "_law_other"] (spW (W__law_sum)) := by
  have S := sc__law_sum
  have k__law_merged := kn__law_merged (P := P) (w := w) (base := base) T
  refine kn_mk T.d__law_sum T.g__law_sum S (fun _ _ _ _ _ _ us hl => match us, hl with | [_, _], _ => rfl) (fun ds O Φ h => ?_) (fun cdv A outer s H E hr => ?_)
  · obtain ⟨k0, s0, k', s', L, M, rfl, hl, h1, h2, k⟩ := h
    rfl
  have hu := hu_of hr
  have hu64 := hr.units
  have hu9 := hu9_of hr
  refine ⟨_, (pss_one (ps_ret (pe_kn k__law_merged hr (by decide) (pa_cons (pe_dget hu (pv 0) pe_str (fun _ _ => rfl)) (pa_cons (pe_dget hu (pv 0) pe_str (fun _ _ => rfl)) (pa_cons (pe_op op_cat (pe_callTy (call_listK (K := K) rfl) (by rfl) T.f_list (by decide +kernel) (pa_cons (pe_dget hu (pv 0) pe_str (fun _ _ => rfl)) pa_nil)) (pe_callTy (call_listK (K := K) rfl) (by rfl) T.f_list (by decide +kernel) (pa_cons (pe_dget hu (pv 1) pe_str (fun _ _ => rfl)) pa_nil))) pa_nil)))))), fun ds O Φ h => ?_⟩
  obtain ⟨k0, s0, k', s', L, M, rfl, hl, h1, h2, k⟩ := h
  repeat walk_at "g"
  refine ⟨_, gt_kinds, ?_⟩
  repeat walk_at "g"
  refine ⟨_, gt_scale, ?_⟩
  repeat walk_at "g"
  refine ⟨_, gt_rows, ?_⟩
  repeat walk_at "g"
  refine bc_listL (.inl ?_)
  repeat walk_at "g"
  refine ⟨_, gt_rows, ?_⟩
  repeat walk_at "g"
  refine bc_listL (.inl ?_)
  refine rc_cat (sz_ok (by rw [List.length_map, List.length_map]; omega)) (.inl ?_)
  repeat walk_at "g"
  refine ⟨k0, s0, (L ++ M).map fun r => (lrowD r, r), ?_, by rw [List.length_map, List.length_append]; omega, fun z hz => ?_, fun R hR => ?_⟩
  · rw [List.map_map, ← List.map_append]
    rfl
  · obtain ⟨r, hr, rfl⟩ := List.mem_map.mp hz
    refine ⟨lin_row r, ?_⟩
    rcases List.mem_append.mp hr with hr | hr
    · exact h1 r hr
    · exact h2 r hr
  · rw [List.map_map] at hR
    have e : (L ++ M).map (Prod.snd ∘ fun r => (lrowD r, r)) = L ++ M := List.map_id' _
    rw [e] at hR
    exact k R hR
def negW (M : List WRow) : List WRow := M.map fun r => (-r.1, r.2)
def W__law_difference (ds : List D) (O : Ow) (Φ : Cd) : Prop := ∃ (k s k' s' : Int) (L M : List WRow), ds = [bidD k s L, bidD k' s' M] ∧ L.length + M.length ≤ 500 ∧ (∀ r ∈ L, r.2 ≠ []) ∧ (∀ r ∈ M, r.2 ≠ []) ∧ ∀ R : List WRow, R.Perm (mergedL (L ++ negW M)) → Φ (bidD k s R) O
theorem sc__law_difference : FnScope ["_law_one", "_law_other", "_law_rows", "_law_weight", "_law_numbers_here"] ["_law_one", "_law_other"] (defScope s__law_difference) := ⟨rfl, rfl, rfl, by decide +kernel, rfl, by decide +kernel, by decide +kernel⟩
theorem kn__law_difference {P : Program} {w : World} {K : PySem.W.Frag} {mg : Str → Option Value} {base : Heap} (T : Txt K mg) : Kn P w K mg base "_law_difference" 2 ["_law_one", "_law_other"] (spW (W__law_difference)) := by
  have S := sc__law_difference
  have k__law_merged := kn__law_merged (P := P) (w := w) (base := base) T
  refine kn_mk T.d__law_difference T.g__law_difference S (fun _ _ _ _ _ _ us hl => match us, hl with | [_, _], _ => rfl) (fun ds O Φ h => ?_) (fun cdv A outer s H E hr => ?_)
  · obtain ⟨k0, s0, k', s', L, M, rfl, hl, h1, h2, k⟩ := h
    rfl
  have hu := hu_of hr
  have hu64 := hr.units
  have hu9 := hu9_of hr
  refine ⟨_, (pss_cons (ps_set (i := 2) S.nd rfl (Or.inl rfl) (pe_op op_cat (pe_callTy (call_listK (K := K) rfl) (by rfl) T.f_list (by decide +kernel) (pa_cons (pe_dget hu (pv 0) pe_str (fun _ _ => rfl)) pa_nil)) (pe_lc (own := [("_law_weight", 3), ("_law_numbers_here", 4)]) rfl S.nd (pi_listK (K := K) rfl (pe_dget hu (pv 1) pe_str (fun _ _ => rfl))) (blkOk_by (own := [("_law_weight", 3), ("_law_numbers_here", 4)]) (by kernel_rfl)) (fun _ _ _ _ _ => (pg_tupK (K := K) (n := 2) rfl rfl (pgs_cons (pg_name (i := 3) S.nd rfl (by first | exact Or.inl rfl | exact Or.inr rfl)) (pgs_cons (pg_name (i := 4) S.nd rfl (by first | exact Or.inl rfl | exact Or.inr rfl)) pgs_nil)))) (fun _ _ _ _ _ => pts_nil) (fun _ _ _ _ _ => (pe_tup (pa_cons (pe_un un_neg (pv 3)) (pa_cons (pv 4) pa_nil)))))))
        (pss_one (ps_ret (pe_kn k__law_merged hr (by decide) (pa_cons (pe_dget hu (pv 0) pe_str (fun _ _ => rfl)) (pa_cons (pe_dget hu (pv 0) pe_str (fun _ _ => rfl)) (pa_cons (pv 2) pa_nil))))))), fun ds O Φ h => ?_⟩
  obtain ⟨k0, s0, k', s', L, M, rfl, hl, h1, h2, k⟩ := h
  repeat walk_at "g"
  refine ⟨_, gt_rows, ?_⟩
  repeat walk_at "g"
  refine bc_listL (.inl ?_)
  repeat walk_at "g"
  refine ec_lcp M lrowD (fun _ => true) (fun r => lrowD (-r.1, r.2)) (ic_list ?_) (sz_ok (by omega)) (fun r hr => ?_) (.inl ?_)
  · repeat walk_at "g"
    exact ⟨_, gt_rows, _, rfl, rfl, rfl, trivial⟩
  · refine ⟨_, _, ?_, gc_tup (gcs_cons (gcs_cons gcs_nil)) rfl, tc_yes ⟨rfl, rfl, fun _ => ?_⟩⟩
    · decide
    repeat walk_at "g"
    exact ⟨by show 2 ≤ sizeLine; decide, rfl, rfl⟩
  rw [filter_yes]
  refine rc_cat (sz_ok (by rw [List.length_map, List.length_map]; omega)) (.inl ?_)
  repeat walk_at "g"
  refine ⟨_, gt_kinds, ?_⟩
  repeat walk_at "g"
  refine ⟨_, gt_scale, ?_⟩
  repeat walk_at "g"
  refine ⟨k0, s0, (L ++ negW M).map fun r => (lrowD r, r), ?_, by unfold negW; rw [List.length_map, List.length_append, List.length_map]; omega, fun z hz => ?_, fun R hR => ?_⟩
  · rw [List.map_map, List.map_append]
    unfold negW
    rw [List.map_map]
    rfl
  · obtain ⟨r, hr, rfl⟩ := List.mem_map.mp hz
    refine ⟨lin_row r, ?_⟩
    rcases List.mem_append.mp hr with hr | hr
    · exact h1 r hr
    · obtain ⟨q, hq, rfl⟩ := List.mem_map.mp hr
      exact h2 q hq
  · rw [List.map_map] at hR
    have e : (L ++ negW M).map (Prod.snd ∘ fun r => (lrowD r, r)) = L ++ negW M := List.map_id' _
    rw [e] at hR
    exact k R hR
end Ab

/-! ## AbQ6 -/
set_option Elab.async false
set_option linter.all false
set_option maxRecDepth 100000
set_option maxHeartbeats 2000000
namespace Ab
open PySem L2
local macro_rules | `(tactic| walk_at "g") => `(tactic| first
  | with_reducible refine sc_seq ?_ | with_reducible refine sc_if ?_ | with_reducible refine sc_ret ?_ | with_reducible refine sc_asg ?_ | with_reducible refine sc_par ?_ | with_reducible refine sc_next ?_
  | ((with_reducible refine ec_var (d := ?dd) ?hv ?_); (case hv => exact rfl)) | with_reducible refine ec_int ?_ | with_reducible refine ec_bl ?_ | with_reducible refine ec_str ?_ | with_reducible refine ec_ty ?_ | with_reducible refine ec_non ?_
  | with_reducible refine ec_op ?_ | with_reducible refine ec_call ?_ | with_reducible refine ec_un ?_ | with_reducible refine ec_cb ?_ | with_reducible refine ec_if ?_ | with_reducible refine ec_andV ?_ | with_reducible refine ec_orV ?_ | with_reducible refine ec_notV ?_
  | with_reducible refine ac_cons ?_ | with_reducible refine ac_nil ?_ | (with_reducible refine ec_tup (ac_cons ?_)) | with_reducible refine ec_tup ?_
  | with_reducible refine tc_test ?_ | with_reducible refine tc_B ?_ | with_reducible refine tc_and ?_ | with_reducible refine tc_or ?_ | with_reducible refine tc_not ?_ | with_reducible refine tc_yes ?_
  | with_reducible refine rc_i0 ?_ | with_reducible refine rc_b0 ?_ | with_reducible refine rc_eqI ?_ | with_reducible refine rc_neI ?_ | with_reducible refine rc_eqS ?_ | with_reducible refine uc_neg ?_
  | with_reducible refine bc_int ?_ | with_reducible refine bc_abs ?_ | with_reducible refine bc_lenL ?_ | with_reducible refine bc_lenT ?_ | with_reducible refine bc_tupL ?_ | with_reducible refine bc_tupT ?_
  | with_reducible refine ec_chain ?_ | with_reducible refine ec_dget ?_ | with_reducible refine ec_dget2 ?_ | with_reducible refine ec_din ?_ | with_reducible refine ec_nget ?_ | with_reducible refine ec_nget2 ?_ | with_reducible refine ec_nnotin ?_ | with_reducible refine ec_app ?_ | with_reducible refine sc_nput ?_ | with_reducible refine sc_drop ?_ | with_reducible refine ec_setd ?_ | with_reducible refine ec_make ?_ | with_reducible refine ec_disp ?_ | with_reducible refine pc_cons ?_ | with_reducible refine pc_nil ?_ | with_reducible refine gc_sub ?_ | with_reducible refine sc_asgG ?_
  | with_reducible refine ⟨_, rfl, ?_⟩ | refine iteT ?_ | refine iteF ?_ | dsimp only )

theorem LOkB.mono {k : Nat} {B C : Int} {L : List WRow} (h : LOkB k B L) (hb : B ≤ C) : LOkB k C L := fun r hr => ⟨(h r hr).1, fun x hx => ⟨((h r hr).2 x hx).1, Int.le_trans ((h r hr).2 x hx).2 hb⟩⟩
theorem LOkB.ne {k : Nat} {B : Int} {L : List WRow} (h : LOkB k B L) (hk : 1 ≤ k) : ∀ r ∈ L, r.2 ≠ [] := fun r hr e => by
  have := (h r hr).1
  rw [e] at this
  have : (0 : Nat) = k := this
  omega
def W__law_over (ds : List D) (O : Ow) (Φ : Cd) : Prop := ∃ (p : Addr) (n k : Nat) (s most : Int) (L : List WRow) (O0 : Ow), ds = [.adr p, bidD k s L, .int most] ∧ O = (p, oPen n) :: O0 ∧ (1 ≤ k ∧ k ≤ 3) ∧ (0 ≤ most ∧ most ≤ 20) ∧ n ≤ 600000 ∧ LOkB k 12 L ∧ L.length ≤ 100 ∧
  ∀ M, LOkB k 20 M → M.length ≤ L.length + 2 → Φ (bidD k s M) ((p, oPen (n + 80)) :: O0)
theorem sc__law_over : FnScope ["_law_pen_here", "_law_bids", "_law_most", "_law_way", "_law_kinds", "_law_more", "_law_rows", "_law_at", "_law_weight", "_law_numbers_here", "_law_other", "_law_kind"] ["_law_pen_here", "_law_bids", "_law_most"] (defScope s__law_over) := ⟨rfl, rfl, rfl, by decide +kernel, rfl, by decide +kernel, by decide +kernel⟩
theorem kn__law_over {P : Program} {w : World} {K : PySem.W.Frag} {mg : Str → Option Value} {base : Heap} (T : Txt K mg) : Kn P w K mg base "_law_over" 5 ["_law_pen_here", "_law_bids", "_law_most"] (spW (W__law_over)) := by
  have S := sc__law_over
  have k__law_draw := kn__law_draw (P := P) (w := w) (base := base) T
  have k__law_buyer := kn__law_buyer (P := P) (w := w) (base := base) T
  have k__law_sum := kn__law_sum (P := P) (w := w) (base := base) T
  have k__law_pick := kn__law_pick (P := P) (w := w) (base := base) T
  have k__law_merged := kn__law_merged (P := P) (w := w) (base := base) T
  refine kn_mk T.d__law_over T.g__law_over S (fun _ _ _ _ _ _ us hl => match us, hl with | [_, _, _], _ => rfl) (fun ds O Φ h => ?_) (fun cdv A outer s H E hr => ?_)
  · obtain ⟨p, n, kk, s0, most, L, O0, rfl, rfl, ⟨k1, k3⟩, ⟨m1, m9⟩, hn, hL, hl, k⟩ := h
    rfl
  have hu := hu_of hr
  have hu64 := hr.units
  have hu9 := hu9_of hr
  refine ⟨_, (pss_cons (ps_par (i := 3) (j := 4) rfl S.nd rfl rfl (by decide) rfl rfl (pa_cons (pe_kn k__law_draw hr (by decide) (pa_cons (pv 0) (pa_cons pe_int pa_nil))) (pa_cons (pe_dget hu (pv 1) pe_str (fun _ _ => rfl)) pa_nil)) (by rfl))
        (pss_cons (ps_set (i := 5) S.nd rfl (Or.inl rfl) (pe_kn k__law_buyer hr (by decide) (pa_cons (pv 0) (pa_cons (pv 4) (pa_cons (pe_dget hu (pv 1) pe_str (fun _ _ => rfl)) (pa_cons pe_int (pa_cons (pe_callB (call_min2N rfl) (by rfl) T.f_min (by decide +kernel) (pa_cons (pv 2) (pa_cons pe_int pa_nil))) pa_nil)))))))
        (pss_cons (ps_if (pt_cmpR op_eq (pv 3) pe_int (nomark _)) (pss_one (ps_ret (pe_kn k__law_sum hr (by decide) (pa_cons (pv 1) (pa_cons (pv 5) pa_nil))))) pss_nil)
        (pss_cons (ps_set (i := 6) S.nd rfl (Or.inl rfl) (pe_callTy (call_listK (K := K) rfl) (by rfl) T.f_list (by decide +kernel) (pa_cons (pe_dget hu (pv 1) pe_str (fun _ _ => rfl)) pa_nil)))
        (pss_cons (ps_if (PW.pt (pw_or (pt_cmpR (op_eqDK (K := K) rfl hu64) (pv 6) (pe_lst pa_nil) (nomark _)) (pw_or1 (pt_cmpR op_eq (pv 3) pe_int (nomark _))))) (pss_one (ps_ret (pv 1))) pss_nil)
        (pss_cons (ps_set (i := 7) S.nd rfl (Or.inl rfl) (pe_kn k__law_draw hr (by decide) (pa_cons (pv 0) (pa_cons (pe_callB (call_lenK (K := K) rfl) (by rfl) T.f_len PySem.boot_len (pa_cons (pv 6) pa_nil)) pa_nil))))
        (pss_cons (ps_asg (pe_ix (ix_seqK (K := K) rfl) (pv 6) (pv 7) (fun _ _ => rfl)) (pg_tupK (K := K) (n := 2) rfl rfl (pgs_cons (pg_name (i := 8) S.nd rfl (Or.inl rfl)) (pgs_cons (pg_name (i := 9) S.nd rfl (Or.inl rfl)) pgs_nil))))
        (pss_cons (ps_set (i := 10) S.nd rfl (Or.inl rfl) (pe_callTy (call_listK (K := K) rfl) (by rfl) T.f_list (by decide +kernel) (pa_cons (pv 9) pa_nil)))
        (pss_cons (ps_set (i := 11) S.nd rfl (Or.inl rfl) (pe_kn k__law_draw hr (by decide) (pa_cons (pv 0) (pa_cons (pv 4) pa_nil))))
        (pss_cons (ps_asg (pe_callB (call_max2N rfl) (by rfl) T.f_max (by decide +kernel) (pa_cons pe_int (pa_cons (pe_op op_add (pe_ix (ix_seqK (K := K) rfl) (pv 10) (pv 11) (fun _ _ => rfl)) (pe_kn k__law_pick hr (by decide) (pa_cons (pv 0) (pa_cons (pe_lst (pa_cons pe_int (pa_cons pe_int (pa_cons (pe_un un_neg pe_int) pa_nil)))) pa_nil)))) pa_nil))) (pg_sub (pv 10) (pv 11) set_list))
        (pss_cons (ps_asg (pe_tup (pa_cons (pv 8) (pa_cons (pv 10) pa_nil))) (pg_sub (pv 6) (pv 7) set_list))
        (pss_one (ps_ret (pe_kn k__law_merged hr (by decide) (pa_cons (pv 4) (pa_cons (pe_dget hu (pv 1) pe_str (fun _ _ => rfl)) (pa_cons (pe_op op_cat (pv 6) (pe_ifExp (pt_cmpR op_eq (pv 3) pe_int (nomark _)) (pe_slice (sl_listK (K := K) rfl) (pe_callTy (call_listK (K := K) rfl) (by rfl) T.f_list (by decide +kernel) (pa_cons (pe_dget hu (pv 5) pe_str (fun _ _ => rfl)) pa_nil)) po_none (po_some pe_int)) (pe_lst pa_nil))) pa_nil))))))))))))))))), fun ds O Φ h => ?_⟩
  obtain ⟨p, n, kk, s0, most, L, O0, rfl, rfl, ⟨k1, k3⟩, ⟨m1, m9⟩, hn, hL, hl, k⟩ := h
  repeat walk_at "g"
  refine ⟨p, n, 4, O0, rfl, rfl, by decide, by decide, by omega, fun w w0 w1 => ?_⟩
  repeat walk_at "g"
  refine ⟨_, gt_kinds, ?_⟩
  repeat walk_at "g"
  refine ⟨_, _, rfl, ?_⟩
  repeat walk_at "g"
  refine ⟨_, gt_scale, ?_⟩
  repeat walk_at "g"
  refine bc_min2 ?_
  repeat walk_at "g"
  refine ⟨p, n + 1, kk, s0, 5, min most 2, O0, rfl, rfl, ⟨k1, k3⟩, ⟨by decide, by decide⟩, ⟨by omega, by omega⟩, by omega, fun N hN hNl => ?_⟩
  have hNl2 : N.length ≤ 2 := by omega
  repeat walk_at "g"
  have eL2 : (L.map fun r => (lrowD r, r)).map (·.2) = L := by
    rw [List.map_map]
    exact List.map_id' L
  by_cases hw0 : w = 0
  · rw [decide_eq_true hw0]
    refine iteT (sc_re (i := 0) (t' := oPen (n + 80)) rfl (oPen_le (by omega)) ?_)
    repeat walk_at "g"
    refine ⟨kk, s0, kk, s0, L, N, rfl, by omega, hL.ne k1, hN.ne k1, fun R hR => ?_⟩
    have hb : LOkB kk 12 (L ++ N) := fun r hr => by
      rcases List.mem_append.mp hr with hr | hr
      · exact hL r hr
      · exact hN r hr
    obtain ⟨g1, g2⟩ := perm_ok hb hR
    exact k R (g1.mono (by decide)) (by rw [List.length_append] at g2; omega)
  · rw [decide_eq_false hw0]
    repeat walk_at "g"
    refine ⟨_, gt_rows, ?_⟩
    repeat walk_at "g"
    refine bc_listL (.inr fun f => ?_)
    refine sc_permO (swapO (p, oPen (n + 1 + 60)) (f, oLst (L.map lrowD)) O0) ?_
    have back : ∀ (E' : De), E'.rt = Φ → ∀ (τ : Tau), τ[1]? = some (some (bidD kk s0 L)) → Sc (tRet (tVar 1)) E' τ ((p, oPen (n + 1 + 60)) :: (f, oLst (L.map lrowD)) :: O0) := fun E' hE τ hτ => sc_re (i := 0) (t' := oPen (n + 80)) rfl (oPen_le (by omega)) (sc_dropO (O' := (p, oPen (n + 80)) :: O0) (List.Sublist.cons₂ _ (List.sublist_cons_self _ _)) (sc_ret (ec_var hτ (by rw [hE]; exact k L (hL.mono (by decide)) (by omega)))))
    repeat walk_at "g"
    refine ec_lst (ac_nil ⟨by show 0 ≤ sizeLine; decide, ?_⟩)
    refine rc_eqDO (j := 1) rfl (pdL_map pd_lrow L) (.lst .nil) (shaped_rows L) rfl ⟨_, rfl, ?_⟩
    cases hb : PyData.eqv (.list (L.map pdl)) (.list []) with
    | true => exact iteT (iteT (back _ rfl _ rfl))
    | false =>
      have hne : 0 < L.length := by
        cases L with
        | nil => cases hb
        | cons r L => exact Nat.succ_pos _
      repeat walk_at "g"
      by_cases hw1 : w = 1
      · rw [decide_eq_true hw1]
        exact iteT (back _ rfl _ rfl)
      · rw [decide_eq_false hw1]
        repeat walk_at "g"
        refine bc_lenO (j := 1) rfl ?_
        repeat walk_at "g"
        rw [List.length_map]
        refine ⟨p, n + 1 + 60, _, _, rfl, rfl, by omega, by omega, by omega, fun j j0 j1 => ?_⟩
        obtain ⟨j, rfl⟩ : ∃ u : Nat, j = (u : Int) := ⟨j.toNat, by omega⟩
        obtain ⟨r, hr⟩ : ∃ r, L[j]? = some r := ⟨_, List.getElem?_eq_getElem (by omega)⟩
        have hat : atI (L.map lrowD) (j : Int) = some (lrowD r) := atI_nat (by rw [List.getElem?_map, hr]; rfl)
        have hrl := hL r (List.mem_of_getElem? hr)
        repeat walk_at "g"
        refine rc_ixO (j := 1) rfl hat ?_
        refine ⟨_, _, gc_tup (gcs_cons (gcs_cons gcs_nil)) rfl, ?_⟩
        repeat walk_at "g"
        refine bc_listT (.inr fun u => ?_)
        refine sc_permO (O' := (p, oPen (n + 1 + 60 + 1)) :: (u, oLst (r.2.map D.int)) :: (f, oLst (L.map lrowD)) :: O0) (swapO _ _ _) ?_
        repeat walk_at "g"
        refine ⟨p, n + 1 + 60 + 1, kk, _, rfl, rfl, by omega, by omega, by omega, fun c c0 c1 => ?_⟩
        obtain ⟨c, rfl⟩ : ∃ u : Nat, c = (u : Int) := ⟨c.toNat, by omega⟩
        obtain ⟨x, hx⟩ : ∃ x, r.2[c]? = some x := ⟨_, List.getElem?_eq_getElem (by rw [hrl.1]; omega)⟩
        have hxr := hrl.2 x (List.mem_of_getElem? hx)
        repeat walk_at "g"
        refine rc_ixO (j := 1) rfl (atI_nat (by rw [List.getElem?_map, hx]; rfl)) ?_
        repeat walk_at "g"
        refine ec_lst ?_
        repeat walk_at "g"
        refine ⟨by show 3 ≤ sizeLine; decide, ?_⟩
        repeat walk_at "g"
        refine ⟨p, n + 1 + 60 + 1 + 1, _, _, rfl, rfl, by decide, by decide, by omega, fun d hd => ?_⟩
        obtain ⟨y, rfl, hy⟩ : ∃ y : Int, d = .int y ∧ (y = 1 ∨ y = -1) := by
          simp only [List.mem_cons, List.not_mem_nil, or_false] at hd
          rcases hd with rfl | rfl | rfl
          · exact ⟨1, rfl, .inl rfl⟩
          · exact ⟨1, rfl, .inl rfl⟩
          · exact ⟨-1, rfl, .inr rfl⟩
        repeat walk_at "g"
        refine bc_max2 ?_
        repeat walk_at "g"
        refine ⟨1, u, r.2.map D.int, c, c, rfl, rfl, rfl, ix_nat (by rw [List.length_map, hrl.1]; omega), ?_⟩
        have es : (r.2.map D.int).set c (.int (max 0 (x + y))) = (r.2.set c (max 0 (x + y))).map D.int := by rw [List.map_set]
        rw [es]
        have hns : (r.2.set c (max 0 (x + y))).length = kk ∧ ∀ z ∈ r.2.set c (max 0 (x + y)), 0 ≤ z ∧ z ≤ 20 := ⟨by rw [List.length_set, hrl.1], fun z hz => by
          rcases mem_set_or hz with rfl | hz
          · omega
          · have := hrl.2 z hz
            omega⟩
        generalize r.2.set c (max 0 (x + y)) = ns at hns ⊢
        refine sc_fz (j := 1) (i := 10) rfl fz_L rfl ?_
        repeat walk_at "g"
        refine ⟨by show 2 ≤ sizeLine; decide, ?_⟩
        repeat walk_at "g"
        refine ⟨1, f, L.map lrowD, j, j, rfl, rfl, rfl, ix_nat (by rw [List.length_map]; omega), ?_⟩
        refine sc_fz (j := 1) (i := 6) rfl fz_L rfl ?_
        refine sc_re (i := 0) (t' := oPen (n + 80)) rfl (oPen_le (by omega)) ?_
        repeat walk_at "g"
        refine ⟨_, gt_scale, ?_⟩
        repeat walk_at "g"
        have fin : ∀ (xs : List WRow), LOkB kk 12 xs → xs.length ≤ 2 → W__law_merged [.int kk, .int s0, .lst ((L.map lrowD).set j (.tup [.int r.1, .lst (ns.map D.int)]) ++ xs.map lrowD)] ((p, oPen (n + 80)) :: O0) Φ := fun xs hxs hxl => by
          refine ⟨kk, s0, (L.map fun r => (lrowD r, r)).set j (wrowD (r.1, ns), (r.1, ns)) ++ xs.map fun r => (lrowD r, r), ?_, ?_, fun z hz => ?_, fun R hR => ?_⟩
          · rw [List.map_append, List.map_set, List.map_map, List.map_map]
            rfl
          · rw [List.length_append, List.length_set, List.length_map, List.length_map]
            omega
          · rcases List.mem_append.mp hz with hz | hz
            · rcases mem_set_or hz with rfl | hz
              · exact ⟨win_row _, fun e => by
                  have h1 := hns.1
                  rw [show ns = [] from e] at h1
                  have h1 : (0 : Nat) = kk := h1
                  omega⟩
              · obtain ⟨q, hq, rfl⟩ := List.mem_map.mp hz
                exact ⟨lin_row q, hL.ne k1 q hq⟩
            · obtain ⟨q, hq, rfl⟩ := List.mem_map.mp hz
              exact ⟨lin_row q, hxs.ne k1 q hq⟩
          · have e2 : ((L.map fun r => (lrowD r, r)).set j (wrowD (r.1, ns), (r.1, ns)) ++ xs.map fun r => (lrowD r, r)).map (·.2) = L.set j (r.1, ns) ++ xs := by
              rw [List.map_append, List.map_set, eL2, List.map_map]
              congr 1
              exact List.map_id' xs
            rw [e2] at hR
            have hb : LOkB kk 20 (L.set j (r.1, ns) ++ xs) := fun q hq => by
              rcases List.mem_append.mp hq with hq | hq
              · rcases mem_set_or hq with rfl | hq
                · exact hns
                · exact hL.mono (C := 20) (by decide) q hq
              · exact hxs.mono (C := 20) (by decide) q hq
            obtain ⟨g1, g2⟩ := perm_ok hb hR
            exact k R g1 (by rw [List.length_append, List.length_set] at g2; omega)
        by_cases hw3 : w = 3
        · rw [decide_eq_true hw3]
          refine iteT (ec_sl1 ?_)
          repeat walk_at "g"
          refine ⟨_, gt_rows, ?_⟩
          repeat walk_at "g"
          refine bc_listL (.inl ⟨_, rfl, ?_⟩)
          rw [← List.map_take]
          refine rc_cat (sz_ok (by rw [List.length_set, List.length_map, List.length_map, List.length_take]; omega)) (.inl ?_)
          exact ac_nil (fin (N.take 1) (fun q hq => hN q (List.mem_of_mem_take hq)) (by rw [List.length_take]; omega))
        · rw [decide_eq_false hw3]
          refine iteF (ec_lst (ac_nil ⟨by show 0 ≤ sizeLine; decide, ?_⟩))
          refine rc_cat (sz_ok (by rw [List.length_set, List.length_map]; show L.length + 0 ≤ _; omega)) (.inl ?_)
          exact ac_nil (fin [] (fun q hq => absurd hq List.not_mem_nil) (Nat.zero_le _))
end Ab

/-! ## AbQ7 -/
set_option Elab.async false
set_option linter.all false
set_option maxRecDepth 100000
set_option maxHeartbeats 2000000
namespace Ab
open PySem L2
local macro_rules | `(tactic| walk_at "g") => `(tactic| first
  | with_reducible refine sc_seq ?_ | with_reducible refine sc_if ?_ | with_reducible refine sc_ret ?_ | with_reducible refine sc_asg ?_ | with_reducible refine sc_par ?_ | with_reducible refine sc_next ?_
  | ((with_reducible refine ec_var (d := ?dd) ?hv ?_); (case hv => exact rfl)) | with_reducible refine ec_int ?_ | with_reducible refine ec_bl ?_ | with_reducible refine ec_str ?_ | with_reducible refine ec_ty ?_ | with_reducible refine ec_non ?_
  | with_reducible refine ec_op ?_ | with_reducible refine ec_call ?_ | with_reducible refine ec_un ?_ | with_reducible refine ec_cb ?_ | with_reducible refine ec_if ?_ | with_reducible refine ec_andV ?_ | with_reducible refine ec_orV ?_ | with_reducible refine ec_notV ?_
  | with_reducible refine ac_cons ?_ | with_reducible refine ac_nil ?_ | (with_reducible refine ec_tup (ac_cons ?_)) | with_reducible refine ec_tup ?_
  | with_reducible refine tc_test ?_ | with_reducible refine tc_B ?_ | with_reducible refine tc_and ?_ | with_reducible refine tc_or ?_ | with_reducible refine tc_not ?_ | with_reducible refine tc_yes ?_
  | with_reducible refine rc_i0 ?_ | with_reducible refine rc_b0 ?_ | with_reducible refine rc_eqI ?_ | with_reducible refine rc_neI ?_ | with_reducible refine rc_eqS ?_ | with_reducible refine uc_neg ?_
  | with_reducible refine bc_int ?_ | with_reducible refine bc_abs ?_ | with_reducible refine bc_lenL ?_ | with_reducible refine bc_lenT ?_ | with_reducible refine bc_tupL ?_ | with_reducible refine bc_tupT ?_
  | with_reducible refine ec_chain ?_ | with_reducible refine ec_dget ?_ | with_reducible refine ec_dget2 ?_ | with_reducible refine ec_din ?_ | with_reducible refine ec_nget ?_ | with_reducible refine ec_nget2 ?_ | with_reducible refine ec_nnotin ?_ | with_reducible refine ec_app ?_ | with_reducible refine sc_nput ?_ | with_reducible refine sc_drop ?_ | with_reducible refine ec_setd ?_ | with_reducible refine ec_make ?_ | with_reducible refine ec_disp ?_ | with_reducible refine pc_cons ?_ | with_reducible refine pc_nil ?_ | with_reducible refine gc_sub ?_ | with_reducible refine sc_asgG ?_
  | with_reducible refine ⟨_, rfl, ?_⟩ | refine iteT ?_ | refine iteF ?_ | dsimp only )

section
variable {κ : Type} [DecidableEq κ]
theorem sumK_app (xs ys : List (κ × Int)) (k : κ) : sumK (xs ++ ys) k = sumK xs k + sumK ys k := by
  induction ys using snoc_ind with
  | h0 =>
    rw [List.append_nil]
    show _ = _ + 0
    omega
  | h1 ys y ih =>
    rw [← List.append_assoc, sumK_snoc, sumK_snoc, ih]
    split <;> omega
theorem sumK_one (x : κ × Int) (k : κ) : sumK [x] k = if x.1 = k then x.2 else 0 := by
  have := sumK_snoc [] x k
  rw [List.nil_append] at this
  rw [this]
  show (if x.1 = k then 0 + x.2 else 0) = _
  split <;> omega
end
def kR (rs : List Raw) : List (Key2 × Int) := rs.map fun r => (keyOf r, r.1)
def keyS (s : Int) (ns : List Int) : Key2 := ns.map fun x => low x s
def kS (s : Int) (L : List WRow) : List (Key2 × Int) := L.map fun r => (keyS s r.2, r.1)
theorem gcdI_low (a b : Int) (h : 0 < b) : gcdI (low a b).1 (low a b).2 = 1 := by
  have g := gcdI_pos a b h
  have d1 : gcdI a b ∣ a := Int.gcd_dvd_left a b
  have d2 : gcdI a b ∣ b := Int.gcd_dvd_right a b
  have e := gcdI_mul (low a b).1 (low a b).2 g
  have e1 : (low a b).1 * gcdI a b = a := Int.ediv_mul_cancel d1
  have e2 : (low a b).2 * gcdI a b = b := Int.ediv_mul_cancel d2
  rw [e1, e2] at e
  have e : gcdI (low a b).1 (low a b).2 * gcdI a b = 1 * gcdI a b := by omega
  exact Int.eq_of_mul_eq_mul_right (by omega) e
theorem low_low (a b : Int) (h : 0 < b) : low (low a b).1 (low a b).2 = low a b := by
  have e : low (low a b).1 (low a b).2 = ((low a b).1 / gcdI (low a b).1 (low a b).2, (low a b).2 / gcdI (low a b).1 (low a b).2) := rfl
  rw [e, gcdI_low a b h, Int.ediv_one, Int.ediv_one]
/-- rows told to Bids, for the rows L at the scale s -/
def MadeOf (k : Nat) (s : Int) (L : List WRow) (rs : List Raw) : Prop := (∀ r ∈ rs, NumsOk r.2 ∧ r.2.length = k) ∧ ∀ key, sumK (kR rs) key = sumK (kS s L) key
def W__law_made (K : PySem.W.Frag) (ds : List D) (O : Ow) (Φ : Cd) : Prop := ∃ (p : Addr) (n k : Nat) (s : Int) (L : List WRow) (O0 : Ow), ds = [.adr p, bidD k s L] ∧ O = (p, oPen n) :: O0 ∧ (1 ≤ k ∧ k ≤ 3) ∧ (0 < s ∧ s ≤ 10) ∧ n ≤ 500000 ∧ LOkB k 20 L ∧ L.length ≤ 100 ∧
  ∀ (rs : List Raw) (R : List Row), MadeOf k s L rs → R.Perm (plainR rs) → Φ (bidsD K k R) ((p, oPen (n + 12 * L.length)) :: O0)
theorem sc__law_made : FnScope ["_law_pen_here", "_law_bids", "_law_rows", "_law_weight", "_law_numbers_here", "_law_passed_here", "_law_part", "_law_number"] ["_law_pen_here", "_law_bids"] (defScope s__law_made) := ⟨rfl, rfl, rfl, by decide +kernel, rfl, by decide +kernel, by decide +kernel⟩
theorem kn__law_made {P : Program} {w : World} {K : PySem.W.Frag} {mg : Str → Option Value} {base : Heap} (T : Txt K mg) : Kn P w K mg base "_law_made" 8 ["_law_pen_here", "_law_bids"] (spW (W__law_made K)) := by
  have S := sc__law_made
  have k__law_passed := kn__law_passed (P := P) (w := w) (base := base) T
  have k__law_q := kn__law_q (P := P) (w := w) (base := base) T
  have k__law_draw := kn__law_draw (P := P) (w := w) (base := base) T
  have k_Bids := kn_Bids___init__ (P := P) (w := w) (base := base) T
  refine kn_mk T.d__law_made T.g__law_made S (fun _ _ _ _ _ _ us hl => match us, hl with | [_, _], _ => rfl) (fun ds O Φ h => ?_) (fun cdv A outer s H E hr => ?_)
  · obtain ⟨p, n, kk, s0, L, O0, rfl, rfl, ⟨k1, k3⟩, ⟨s1, s2⟩, hn, hL, hl, k⟩ := h
    rfl
  have hu := hu_of hr
  have hu64 := hr.units
  have hu9 := hu9_of hr
  refine ⟨_, (pss_cons (ps_set (i := 2) S.nd rfl (Or.inl rfl) (pe_lst pa_nil))
        (pss_cons (ps_for PassesOwn.never rfl (pi_listK (K := K) rfl (pe_dget hu (pv 1) pe_str (fun _ _ => rfl))) (pg_tupK (K := K) (n := 2) rfl rfl (pgs_cons (pg_name (i := 3) S.nd rfl (Or.inl rfl)) (pgs_cons (pg_name (i := 4) S.nd rfl (Or.inl rfl)) pgs_nil))) (pss_cons (ps_setLc (i := 5) (own := [("_law_number", 7)]) rfl S.nd rfl rfl (sw_true rfl rfl rfl (by kernel_rfl)) (pi_tupK (K := K) rfl (pv 4)) (blkOk_by (own := [("_law_number", 7)]) (by kernel_rfl)) (fun _ _ _ _ _ => (pg_name (i := 7) S.nd rfl (by first | exact Or.inl rfl | exact Or.inr rfl))) (fun _ _ _ _ _ => pts_nil) (fun _ _ _ _ _ => (pe_kn k__law_passed hr (by decide) (pa_cons (pv 0) (pa_cons (pe_kn k__law_q hr (by decide) (pa_cons (pv 7) (pa_cons (pe_dget hu (pv 1) pe_str (fun _ _ => rfl)) pa_nil))) pa_nil)))))
        (pss_cons (ps_if (pt_cmpR op_eq (pe_kn k__law_draw hr (by decide) (pa_cons (pv 0) (pa_cons pe_int pa_nil))) pe_int (nomark _)) (pss_cons (ps_set (i := 6) S.nd rfl (Or.inl rfl) (pe_op op_sub (pe_kn k__law_draw hr (by decide) (pa_cons (pv 0) (pa_cons pe_int pa_nil))) pe_int))
        (pss_cons (ps_set (i := 2) S.nd rfl (Or.inl rfl) (pe_op op_cat (pv 2) (pe_lst (pa_cons (pe_tup (pa_cons (pv 6) (pa_cons (pv 5) pa_nil))) pa_nil))))
        (pss_one (ps_set (i := 3) S.nd rfl (Or.inl rfl) (pe_op op_sub (pv 3) (pv 6)))))) pss_nil)
        (pss_one (ps_set (i := 2) S.nd rfl (Or.inl rfl) (pe_ifExp (pt_cmpR op_eq (pe_kn k__law_draw hr (by decide) (pa_cons (pv 0) (pa_cons pe_int pa_nil))) pe_int (nomark _)) (pe_op op_cat (pe_lst (pa_cons (pe_tup (pa_cons (pv 3) (pa_cons (pe_callTy (call_tupK (K := K) rfl) (by rfl) T.f_tuple (by decide +kernel) (pa_cons (pv 5) pa_nil)) pa_nil))) pa_nil)) (pv 2)) (pe_op op_cat (pv 2) (pe_lst (pa_cons (pe_lst (pa_cons (pv 3) (pa_cons (pv 5) pa_nil))) pa_nil)))))))))
        (pss_one (ps_ret (pe_mk k_Bids hr (by decide) (pa_cons (pe_dget hu (pv 1) pe_str (fun _ _ => rfl)) (pa_cons (pv 2) pa_nil))))))), fun ds O Φ h => ?_⟩
  obtain ⟨p, n, kk, s0, L, O0, rfl, rfl, ⟨k1, k3⟩, ⟨s1, s2⟩, hn, hL, hl, k⟩ := h
  repeat walk_at "g"
  refine ec_lst (ac_nil ⟨by show 0 ≤ sizeLine; decide, ?_⟩)
  repeat walk_at "g"
  refine sc_for (ic_list (ec_dget (ec_var rfl (ec_str ⟨_, gt_rows, _, rfl, fun i τ O' => ∃ (zs : List (D × Raw)) (m : Nat) (x3 x4 x5 x6 : Option D), (∀ z ∈ zs, IsRaw z.1 z.2 ∧ NumsOk z.2.2 ∧ z.2.2.length = kk) ∧ (∀ key, sumK (kR (zs.map (·.2))) key = sumK (kS s0 (L.take i)) key) ∧ zs.length ≤ 2 * i ∧ m ≤ n + 12 * i ∧ O' = (p, oPen m) :: O0 ∧ τ = [some (.adr p), some (bidD kk s0 L), some (.lst (zs.map (·.1))), x3, x4, x5, x6, none],
    ⟨[], n, _, _, _, _, fun z hz => absurd hz List.not_mem_nil, fun key => rfl, Nat.le_refl _, Nat.le_refl _, rfl, rfl⟩, fun _ _ _ _ => trivial, ?_, ?_⟩))))
  · rintro i d τ O1 hd ⟨zs, m, x3, x4, x5, x6, hz, hsum, hzl, hm, rfl, rfl⟩
    obtain ⟨r, hr, rfl⟩ := map_get hd
    have hrl := hL r (List.mem_of_getElem? hr)
    have hil := (List.getElem?_eq_some_iff.mp hr).1
    refine ⟨_, _, gc_tup (gcs_cons (gcs_cons gcs_nil)) rfl, ?_⟩
    repeat walk_at "g"
    refine ec_lc (ic_tup (ec_var rfl ⟨_, rfl, ?_⟩))
    refine ⟨sz_ok (by rw [List.length_map, hrl.1]; omega), fun j acc O2 => ∃ ns : Nums, acc = ns.map (·.1) ∧ ns.length = j ∧ (∀ z ∈ ns, IsRat z.1 z.2.1 z.2.2 ∧ 0 ≤ z.2.1 ∧ z.2.1 < 1073741824 ∧ z.2.2 < 1073741824) ∧ (ns.map fun z => low z.2.1 z.2.2) = keyS s0 (r.2.take j) ∧ O2 = (p, oPen (m + 3 * j)) :: O0, ⟨[], rfl, rfl, fun z hz => absurd hz List.not_mem_nil, rfl, rfl⟩, fun j acc O2 ⟨ns, h1, h2, _⟩ => ⟨trivial, by rw [h1, List.length_map, h2]; exact Nat.le_refl _⟩, ?_, ?_⟩
    · rintro j x acc O2 hx ⟨ns, rfl, hnl, hns, hkey, rfl⟩
      obtain ⟨y, hy, rfl⟩ := map_get hx
      have hyr := hrl.2 y (List.mem_of_getElem? hy)
      have hjl := (List.getElem?_eq_some_iff.mp hy).1
      refine ⟨_, _, ?_, gc_name, tc_yes ?_⟩
      · decide
      repeat walk_at "g"
      refine ⟨_, gt_scale, ?_⟩
      repeat walk_at "g"
      refine ⟨y, s0, rfl, s1, by omega, ?_⟩
      repeat walk_at "g"
      have p1 := low_fst_nonneg (b := s0) hyr.1
      have p2 := low_fst_le (b := s0) hyr.1
      have p3 := low_snd_pos y s0 s1
      have p4 := low_snd_le y s0 s1
      refine ⟨p, m + 3 * j, low y s0, O0, rfl, rfl, by omega, p1, by omega, p3, by omega, fun v ⟨a, b, h1, h2, h3, h4, h5⟩ => ?_⟩
      refine ⟨ns ++ [(v, (a, b))], by rw [List.map_append]; rfl, by rw [List.length_append, hnl]; rfl, fun z hz => ?_, ?_, by rw [show m + 3 * (j + 1) = m + 3 * j + 3 by omega]⟩
      · rcases List.mem_append.mp hz with hz | hz
        · exact hns z hz
        · rw [List.mem_singleton.mp hz]
          exact ⟨h1, h3, by show a < 1073741824; omega, by show b < 1073741824; omega⟩
      · rw [List.map_append, hkey, take_next hy]
        unfold keyS
        rw [List.map_append]
        congr 1
        show [low a b] = [low y s0]
        rw [h2, low_low y s0 s1]
    · rintro acc O2 ⟨ns, rfl, hnl, hns, hkey, rfl⟩
      rw [List.length_map] at hnl hkey
      rw [List.take_length] at hkey
      refine .inl ?_
      have hnums : NumsOk ns ∧ ns.length = kk := ⟨⟨by rw [hnl, hrl.1]; exact k3, hns⟩, by rw [hnl, hrl.1]⟩
      rw [List.length_map, hrl.1]
      refine sc_cut (fun τ' O' => ∃ (zs : List (D × Raw)) (m' : Nat) (wt : Int) (x6 : Option D), (∀ z ∈ zs, IsRaw z.1 z.2 ∧ NumsOk z.2.2 ∧ z.2.2.length = kk) ∧ (∀ key, sumK (kR (zs.map (·.2))) key + (if keyS s0 r.2 = key then wt else 0) = sumK (kS s0 (L.take (i + 1))) key) ∧ zs.length ≤ 2 * i + 1 ∧ m' ≤ m + 9 + 2 ∧ O' = (p, oPen m') :: O0 ∧ τ' = [some (.adr p), some (bidD kk s0 L), some (.lst (zs.map (·.1))), some (.int wt), some (prD r.2), some (.lst (ns.map (·.1))), x6, none]) ?_ ?_
      · have hnext : ∀ key, sumK (kS s0 (L.take (i + 1))) key = sumK (kS s0 (L.take i)) key + (if keyS s0 r.2 = key then r.1 else 0) := fun key => by
          rw [take_next hr]
          unfold kS
          rw [List.map_append, sumK_app]
          congr 1
          exact sumK_one _ _
        repeat walk_at "g"
        refine ⟨p, m + 3 * kk, 4, O0, rfl, rfl, by decide, by decide, by omega, fun d d0 d1 => ?_⟩
        repeat walk_at "g"
        by_cases hd : d = 0
        · rw [decide_eq_true hd]
          repeat walk_at "g"
          refine ⟨p, m + 3 * kk + 1, 9, O0, rfl, rfl, by decide, by decide, by omega, fun e e0 e1 => ?_⟩
          repeat walk_at "g"
          refine ec_lst ?_
          repeat walk_at "g"
          refine ⟨by show 2 ≤ sizeLine; decide, ?_⟩
          repeat walk_at "g"
          refine ⟨by show 1 ≤ sizeLine; decide, ?_⟩
          refine rc_cat (sz_ok (by rw [List.length_map]; show zs.length + 1 ≤ _; omega)) (.inl ?_)
          repeat walk_at "g"
          refine ⟨zs ++ [(.tup [.int (e - 4), .lst (ns.map (·.1))], (e - 4, ns))], _, r.1 - (e - 4), some (.int (e - 4)), fun z hz' => ?_, fun key => ?_, by rw [List.length_append, List.length_singleton]; omega, by omega, rfl, ?_⟩
          · rcases List.mem_append.mp hz' with hz' | hz'
            · exact hz z hz'
            · rw [List.mem_singleton.mp hz']
              exact ⟨⟨_, .inr rfl, .inl rfl⟩, hnums.1, hnums.2⟩
          · have e1 : kR ((zs ++ [(D.tup [.int (e - 4), .lst (ns.map (·.1))], ((e - 4, ns) : Raw))]).map (·.2)) = kR (zs.map (·.2)) ++ [(keyS s0 r.2, e - 4)] := by
              unfold kR
              rw [List.map_append, List.map_append]
              congr 1
              show [(keyOf (e - 4, ns), e - 4)] = _
              unfold keyOf
              rw [hkey]
            rw [e1, sumK_app, sumK_one, hsum key, hnext key]
            show _ + (if keyS s0 r.2 = key then e - 4 else 0) + _ = _
            split <;> omega
          · rw [List.map_append]
            rfl
        · rw [decide_eq_false hd]
          refine iteF (sc_next ⟨zs, _, r.1, _, hz, fun key => ?_, by omega, by omega, rfl, rfl⟩)
          rw [hsum key, hnext key]
      · rintro τ' O' ⟨zs, m', wt, x6, hz, hsum, hzl, hm', rfl, rfl⟩
        repeat walk_at "g"
        refine ⟨p, m', 2, O0, rfl, rfl, by decide, by decide, by omega, fun d d0 d1 => ?_⟩
        have e1 : ∀ key, sumK (kR [((wt, ns) : Raw)]) key = if keyS s0 r.2 = key then wt else 0 := fun key => by
          show sumK [(keyOf (wt, ns), wt)] key = _
          rw [sumK_one]
          unfold keyOf
          rw [hkey]
        repeat walk_at "g"
        by_cases hd : d = 0
        · rw [decide_eq_true hd]
          refine iteT ?_
          repeat walk_at "g"
          refine ec_lst ?_
          repeat walk_at "g"
          refine ⟨by show 2 ≤ sizeLine; decide, ?_⟩
          repeat walk_at "g"
          refine ⟨by show 1 ≤ sizeLine; decide, ?_⟩
          repeat walk_at "g"
          refine rc_cat (sz_ok (by rw [List.length_map]; show 1 + zs.length ≤ _; omega)) (.inl ?_)
          refine ⟨(.tup [.int wt, .tup (ns.map (·.1))], (wt, ns)) :: zs, _, _, _, _, _, fun z hz' => ?_, fun key => ?_, by rw [List.length_cons]; omega, by omega, rfl, rfl⟩
          · rcases List.mem_cons.mp hz' with rfl | hz'
            · exact ⟨⟨_, .inl rfl, .inl rfl⟩, hnums.1, hnums.2⟩
            · exact hz z hz'
          · have e2 : kR (((D.tup [.int wt, .tup (ns.map (·.1))], ((wt, ns) : Raw)) :: zs).map (·.2)) = kR [((wt, ns) : Raw)] ++ kR (zs.map (·.2)) := rfl
            rw [e2, sumK_app, e1 key, ← hsum key]
            omega
        · rw [decide_eq_false hd]
          refine iteF ?_
          repeat walk_at "g"
          refine ec_lst ?_
          refine ac_cons (ec_lst ?_)
          repeat walk_at "g"
          refine ⟨by show 2 ≤ sizeLine; decide, ?_⟩
          repeat walk_at "g"
          refine ⟨by show 1 ≤ sizeLine; decide, ?_⟩
          refine rc_cat (sz_ok (by rw [List.length_map]; show zs.length + 1 ≤ _; omega)) (.inl ?_)
          refine ⟨zs ++ [(.lst [.int wt, .lst (ns.map (·.1))], (wt, ns))], m' + 1, some (.int wt), some (prD r.2), some (.lst (ns.map (·.1))), x6, fun z hz' => ?_, fun key => ?_, by rw [List.length_append, List.length_singleton]; omega, by omega, rfl, ?_⟩
          · rcases List.mem_append.mp hz' with hz' | hz'
            · exact hz z hz'
            · rw [List.mem_singleton.mp hz']
              exact ⟨⟨_, .inr rfl, .inr rfl⟩, hnums.1, hnums.2⟩
          · have e2 : kR ((zs ++ [(D.lst [.int wt, .lst (ns.map (·.1))], ((wt, ns) : Raw))]).map (·.2)) = kR (zs.map (·.2)) ++ kR [((wt, ns) : Raw)] := by
              rw [List.map_append]
              unfold kR
              rw [List.map_append]
              rfl
            rw [e2, sumK_app, e1 key, ← hsum key]
          · rw [List.map_append]
            rfl
  · rintro τ O1 ⟨zs, m, x3, x4, x5, x6, hz, hsum, hzl, hm, rfl, rfl⟩
    rw [List.length_map] at hsum hzl hm
    rw [List.take_length] at hsum
    refine sc_re (i := 0) (t' := oPen (n + 12 * L.length)) rfl (oPen_le hm) ?_
    repeat walk_at "g"
    refine ⟨_, gt_kinds, ?_⟩
    repeat walk_at "g"
    refine fun x => ⟨x, kk, _, zs, (p, oPen (n + 12 * L.length)) :: O0, rfl, ⟨k1, k3⟩, ⟨.inr rfl, by omega, hz⟩, rfl, fun R hR => ⟨rfl, _, _, rfl, ?_⟩⟩
    exact k (zs.map (·.2)) R ⟨fun r hr => by
      obtain ⟨z, hz', rfl⟩ := List.mem_map.mp hr
      exact (hz z hz').2, hsum⟩ hR
end Ab

/-! ## AbQ8 -/
set_option Elab.async false
set_option linter.all false
set_option maxRecDepth 100000
set_option maxHeartbeats 2000000
namespace Ab
open PySem L2
local macro_rules | `(tactic| walk_at "g") => `(tactic| first
  | with_reducible refine sc_seq ?_ | with_reducible refine sc_if ?_ | with_reducible refine sc_ret ?_ | with_reducible refine sc_asg ?_ | with_reducible refine sc_par ?_ | with_reducible refine sc_next ?_
  | ((with_reducible refine ec_var (d := ?dd) ?hv ?_); (case hv => exact rfl)) | with_reducible refine ec_int ?_ | with_reducible refine ec_bl ?_ | with_reducible refine ec_str ?_ | with_reducible refine ec_ty ?_ | with_reducible refine ec_non ?_
  | with_reducible refine ec_op ?_ | with_reducible refine ec_call ?_ | with_reducible refine ec_un ?_ | with_reducible refine ec_cb ?_ | with_reducible refine ec_if ?_ | with_reducible refine ec_andV ?_ | with_reducible refine ec_orV ?_ | with_reducible refine ec_notV ?_
  | with_reducible refine ac_cons ?_ | with_reducible refine ac_nil ?_ | (with_reducible refine ec_tup (ac_cons ?_)) | with_reducible refine ec_tup ?_
  | with_reducible refine tc_test ?_ | with_reducible refine tc_B ?_ | with_reducible refine tc_and ?_ | with_reducible refine tc_or ?_ | with_reducible refine tc_not ?_ | with_reducible refine tc_yes ?_
  | with_reducible refine rc_i0 ?_ | with_reducible refine rc_b0 ?_ | with_reducible refine rc_eqI ?_ | with_reducible refine rc_neI ?_ | with_reducible refine rc_eqS ?_ | with_reducible refine uc_neg ?_
  | with_reducible refine bc_int ?_ | with_reducible refine bc_abs ?_ | with_reducible refine bc_lenL ?_ | with_reducible refine bc_lenT ?_ | with_reducible refine bc_tupL ?_ | with_reducible refine bc_tupT ?_
  | with_reducible refine ec_chain ?_ | with_reducible refine ec_dget ?_ | with_reducible refine ec_dget2 ?_ | with_reducible refine ec_din ?_ | with_reducible refine ec_nget ?_ | with_reducible refine ec_nget2 ?_ | with_reducible refine ec_nnotin ?_ | with_reducible refine ec_app ?_ | with_reducible refine sc_nput ?_ | with_reducible refine sc_drop ?_ | with_reducible refine ec_setd ?_ | with_reducible refine ec_make ?_ | with_reducible refine ec_disp ?_ | with_reducible refine pc_cons ?_ | with_reducible refine pc_nil ?_ | with_reducible refine gc_sub ?_ | with_reducible refine sc_asgG ?_
  | with_reducible refine ⟨_, rfl, ?_⟩ | refine iteT ?_ | refine iteF ?_ | dsimp only )

def W__law_best (ds : List D) (O : Ow) (Φ : Cd) : Prop := ∃ ns ps : List Int, ds = [.lst (ns.map D.int), prD ps] ∧ ps.length ≤ 3 ∧ Φ (.int (bestW ns ps)) O
theorem sc__law_best : FnScope ["_law_numbers_here", "_law_prices", "_law_b", "_law_p"] ["_law_numbers_here", "_law_prices"] (defScope s__law_best) := ⟨rfl, rfl, rfl, by decide +kernel, rfl, by decide +kernel, by decide +kernel⟩
theorem kn__law_best {P : Program} {w : World} {K : PySem.W.Frag} {mg : Str → Option Value} {base : Heap} (T : Txt K mg) : Kn P w K mg base "_law_best" 1 ["_law_numbers_here", "_law_prices"] (spW (W__law_best)) := by
  have S := sc__law_best
  refine kn_mk T.d__law_best T.g__law_best S (fun _ _ _ _ _ _ us hl => match us, hl with | [_, _], _ => rfl) (fun ds O Φ h => ?_) (fun cdv A outer s H E hr => ?_)
  · obtain ⟨ns, ps, rfl, hl, k⟩ := h
    rfl
  have hu := hu_of hr
  have hu64 := hr.units
  have hu9 := hu9_of hr
  refine ⟨_, (pss_one (ps_ret (pe_callB (cr_maxK (K := K) rfl rfl) (by rfl) T.f_max (by decide +kernel) (pa_cons (pe_op op_cat (pe_lst (pa_cons pe_int pa_nil)) (pe_lc (own := [("_law_b", 2), ("_law_p", 3)]) rfl S.nd (pi_zipMK (K := K) rfl (by rfl) T.f_zip (pa_cons (pv 0) (pa_cons (pv 1) pa_nil))) (blkOk_by (own := [("_law_b", 2), ("_law_p", 3)]) (by kernel_rfl)) (fun _ _ _ _ _ => (pg_tupK (K := K) (n := 2) rfl rfl (pgs_cons (pg_name (i := 2) S.nd rfl (by first | exact Or.inl rfl | exact Or.inr rfl)) (pgs_cons (pg_name (i := 3) S.nd rfl (by first | exact Or.inl rfl | exact Or.inr rfl)) pgs_nil)))) (fun _ _ _ _ _ => (pts_one (pt_cmpR op_gt (pv 2) pe_int (nomark _)))) (fun _ _ _ _ _ => (pe_op op_sub (pv 2) (pv 3))))) pa_nil)))), fun ds O Φ h => ?_⟩
  obtain ⟨ns, ps, rfl, hl, k⟩ := h
  repeat walk_at "g"
  refine ec_lst (ac_cons (ec_int (ac_nil ⟨by show 1 ≤ sizeLine; decide, ?_⟩)))
  refine ec_lcp (ns.zip ps) (fun z => .tup [.int z.1, .int z.2]) (fun z => decide (0 < z.1)) (fun z => .int (z.1 - z.2)) (ic_zm (ac_cons (ec_var rfl (ac_cons (ec_var rfl (ac_nil ⟨_, _, rfl, ?_, rfl, trivial⟩)))))) (sz_ok ?_) (fun z hz => ?_) (.inl ?_)
  · unfold zipD
    rw [List.zip_map, List.map_map]
    rfl
  · rw [List.length_zip]
    omega
  · refine ⟨_, _, ?_, gc_tup (gcs_cons (gcs_cons gcs_nil)) rfl, ?_⟩
    · decide
    repeat walk_at "g"
    refine ⟨rfl, rfl, fun _ => ?_⟩
    repeat walk_at "g"
    exact ⟨rfl, rfl⟩
  have lz : ((ns.zip ps).filter fun z => decide (0 < z.1)).length ≤ 3 := Nat.le_trans (List.length_filter_le _ _) (by rw [List.length_zip]; omega)
  refine rc_cat (sz_ok (by rw [List.length_map]; show 1 + _ ≤ _; omega)) (.inl ?_)
  have e : ([D.int 0] ++ ((ns.zip ps).filter fun z => decide (0 < z.1)).map fun z => D.int (z.1 - z.2)) = (0 :: (((ns.zip ps).filter fun z => decide (0 < z.1)).map fun z => 1 * z.1 - z.2)).map D.int := by
    rw [List.map_cons, List.map_map]
    show D.int 0 :: _ = D.int 0 :: _
    congr 1
    refine List.map_congr_left fun z _ => ?_
    show D.int (z.1 - z.2) = D.int (1 * z.1 - z.2)
    rw [Int.one_mul]
  rw [e]
  repeat walk_at "g"
  exact bc_max (List.cons_ne_nil _ _) k
def times12 (ns : List Int) : List Int := ns.map fun x => 12 * x
def gainL (L : List WRow) (ps : List Int) : Int := (L.map fun r => r.1 * bestW (times12 r.2) ps).sum
def W__law_gain (ds : List D) (O : Ow) (Φ : Cd) : Prop := ∃ (k s : Int) (L : List WRow) (ps : List Int), ds = [bidD k s L, prD ps] ∧ L.length ≤ 1000 ∧ ps.length ≤ 3 ∧ (∀ x ∈ ps, 0 ≤ x) ∧ (∀ r ∈ L, r.2.length ≤ 3 ∧ ∀ x ∈ r.2, x ≤ 1000) ∧ Φ (.int (gainL L ps)) O
theorem sc__law_gain : FnScope ["_law_bids", "_law_prices", "_law_w", "_law_numbers_here", "_law_b"] ["_law_bids", "_law_prices"] (defScope s__law_gain) := ⟨rfl, rfl, rfl, by decide +kernel, rfl, by decide +kernel, by decide +kernel⟩
theorem kn__law_gain {P : Program} {w : World} {K : PySem.W.Frag} {mg : Str → Option Value} {base : Heap} (T : Txt K mg) : Kn P w K mg base "_law_gain" 2 ["_law_bids", "_law_prices"] (spW (W__law_gain)) := by
  have S := sc__law_gain
  have k__law_best := kn__law_best (P := P) (w := w) (base := base) T
  refine kn_mk T.d__law_gain T.g__law_gain S (fun _ _ _ _ _ _ us hl => match us, hl with | [_, _], _ => rfl) (fun ds O Φ h => ?_) (fun cdv A outer s H E hr => ?_)
  · obtain ⟨k0, s0, L, ps, rfl, hl, h3, hp, hL, k⟩ := h
    rfl
  have hu := hu_of hr
  have hu64 := hr.units
  have hu9 := hu9_of hr
  refine ⟨_, (pss_one (ps_ret (pe_callB (cr_sumK (K := K) rfl rfl) (by rfl) T.f_sum (by decide +kernel) (pa_cons (pe_lc (own := [("_law_w", 2), ("_law_numbers_here", 3)]) rfl S.nd (pi_listK (K := K) rfl (pe_dget hu (pv 0) pe_str (fun _ _ => rfl))) (blkOk_by (own := [("_law_w", 2), ("_law_numbers_here", 3)]) (by kernel_rfl)) (fun _ _ _ _ _ => (pg_tupK (K := K) (n := 2) rfl rfl (pgs_cons (pg_name (i := 2) S.nd rfl (by first | exact Or.inl rfl | exact Or.inr rfl)) (pgs_cons (pg_name (i := 3) S.nd rfl (by first | exact Or.inl rfl | exact Or.inr rfl)) pgs_nil)))) (fun _ _ _ _ _ => pts_nil) (fun _ _ _ _ _ => (pe_op op_mul (pv 2) (pe_kn k__law_best hr (by decide) (pa_cons (pe_lc (own := [("_law_b", 4)]) rfl S.nd (pi_tupK (K := K) rfl (pv 3)) (blkOk_by (own := [("_law_b", 4)]) (by kernel_rfl)) (fun _ _ _ _ _ => (pg_name (i := 4) S.nd rfl (by first | exact Or.inl rfl | exact Or.inr rfl))) (fun _ _ _ _ _ => pts_nil) (fun _ _ _ _ _ => (pe_op op_mul pe_int (pv 4)))) (pa_cons (pv 1) pa_nil)))))) pa_nil)))), fun ds O Φ h => ?_⟩
  obtain ⟨k0, s0, L, ps, rfl, hl, h3, hp, hL, k⟩ := h
  repeat walk_at "g"
  refine ec_lcp L lrowD (fun _ => true) (fun r => .int (r.1 * bestW (times12 r.2) ps)) (ic_list ?_) (sz_ok (by omega)) (fun r hr => ?_) (.inl ?_)
  · repeat walk_at "g"
    exact ⟨_, gt_rows, _, rfl, rfl, rfl, trivial⟩
  · obtain ⟨r3, rx⟩ := hL r hr
    have b1 := bestW_ge (times12 r.2) ps
    have b2 := bestW_le (M := 12000) (by decide) (n := times12 r.2) (p := ps) (fun x hx => by
      obtain ⟨y, hy, rfl⟩ := List.mem_map.mp hx
      have := rx y hy
      omega) hp
    refine ⟨_, _, ?_, gc_tup (gcs_cons (gcs_cons gcs_nil)) rfl, tc_yes ⟨rfl, rfl, fun _ => ?_⟩⟩
    · decide
    repeat walk_at "g"
    refine ec_lcp r.2 D.int (fun _ => true) (fun x => .int (12 * x)) (ic_tup (ec_var rfl ⟨_, rfl, rfl, rfl, trivial⟩)) (sz_ok (by omega)) (fun x hx => ?_) (.inl ?_)
    · refine ⟨_, _, ?_, gc_name, tc_yes ⟨rfl, rfl, fun _ => ?_⟩⟩
      · decide
      repeat walk_at "g"
      exact rc_i ⟨.inl ⟨by decide, by decide⟩, rfl, rfl⟩
    have e : ((r.2.filter fun _ => true).map fun x => D.int (12 * x)) = (times12 r.2).map D.int := by
      rw [filter_yes]
      unfold times12
      rw [List.map_map]
      rfl
    rw [e]
    repeat walk_at "g"
    refine ⟨_, _, rfl, h3, ?_⟩
    exact rc_i ⟨.inr ⟨by omega, by omega⟩, rfl, rfl⟩
  have e : ((L.filter fun _ => true).map fun r => D.int (r.1 * bestW (times12 r.2) ps)) = (L.map fun r => r.1 * bestW (times12 r.2) ps).map D.int := by
    rw [filter_yes, List.map_map]
    rfl
  rw [e]
  repeat walk_at "g"
  exact bc_sum k
/-! ### exact gains -/
/-- the ratio q in lowest terms is x / s -/
structure Rep (s : Int) (q : Int × Int) (x : Int) : Prop where
  pos : 0 < q.2
  low : gcdI q.1 q.2 = 1
  eq : q.1 * s = q.2 * x
theorem rep_low {s a b x : Int} (hb : 0 < b) (h : a * s = b * x) : Rep s (low a b) x := by
  have g := gcdI_pos a b hb
  refine ⟨low_snd_pos a b hb, gcdI_low a b hb, ?_⟩
  have e1 : (Ab.low a b).1 * gcdI a b = a := Int.ediv_mul_cancel (Int.gcd_dvd_left a b)
  have e2 : (Ab.low a b).2 * gcdI a b = b := Int.ediv_mul_cancel (Int.gcd_dvd_right a b)
  have h1 : (Ab.low a b).1 * gcdI a b * s = (Ab.low a b).2 * gcdI a b * x := by
    rw [e1, e2]
    exact h
  have h2 : (Ab.low a b).1 * s * gcdI a b = (Ab.low a b).2 * x * gcdI a b := by
    rw [Int.mul_right_comm, h1, Int.mul_right_comm]
  exact Int.eq_of_mul_eq_mul_right (by omega) h2
theorem Rep.dvd {s : Int} {q : Int × Int} {x : Int} (h : Rep s q x) : q.2 ∣ s := by
  have d : q.2 ∣ q.1 * s := ⟨x, h.eq⟩
  have d2 : q.2.natAbs ∣ q.1.natAbs * s.natAbs := by
    rw [← Int.natAbs_mul]
    exact Int.natAbs_dvd_natAbs.mpr d
  have c : Nat.Coprime q.2.natAbs q.1.natAbs := by
    have e := h.low
    unfold gcdI at e
    unfold Nat.Coprime
    rw [Nat.gcd_comm]
    have e : Int.gcd q.1 q.2 = 1 := by omega
    exact e
  exact Int.natAbs_dvd_natAbs.mp (c.dvd_of_dvd_mul_left d2)
theorem Rep.le {s : Int} {q : Int × Int} {x : Int} (h : Rep s q x) (hs : 0 < s) : q.2 ≤ s := Int.le_of_dvd hs h.dvd
theorem rep_lt {s : Int} {p q : Int × Int} {x y : Int} (hs : 0 < s) (h1 : Rep s p x) (h2 : Rep s q y) : (p.1 * q.2 < q.1 * p.2) ↔ x < y := by
  have hp := h1.pos
  have hq := h2.pos
  have e1 : p.1 * q.2 * s = (p.2 * q.2) * x := by
    rw [Int.mul_right_comm, h1.eq, Int.mul_right_comm]
  have e2 : q.1 * p.2 * s = (p.2 * q.2) * y := by
    rw [Int.mul_right_comm, h2.eq, Int.mul_right_comm, Int.mul_comm q.2 p.2]
  have hpq : 0 < p.2 * q.2 := Int.mul_pos hp hq
  constructor
  · intro h
    have h3 := Int.mul_lt_mul_of_pos_right h hs
    rw [e1, e2] at h3
    exact Int.lt_of_mul_lt_mul_left h3 (Int.le_of_lt hpq)
  · intro h
    have h3 := Int.mul_lt_mul_of_pos_left h hpq
    rw [← e1, ← e2] at h3
    exact Int.lt_of_mul_lt_mul_right h3 (Int.le_of_lt hs)
def gainX (L : List WRow) (xs : List Int) : Int := (L.map fun r => r.1 * bestW r.2 xs).sum
abbrev Reps (s : Int) (qs : List ((Int × Int) × Int)) : Prop := ∀ z ∈ qs, Rep s z.1 z.2
def bestT (zs : List (Int × Int)) : Int := zs.foldl (fun m z => if 0 < z.1 then (if m < z.1 - z.2 then z.1 - z.2 else m) else m) 0
theorem bestT_is (ns xs : List Int) : bestT (ns.zip xs) = bestW ns xs := by
  have key : ∀ (zs : List (Int × Int)) (m : Int), 0 ≤ m → zs.foldl (fun m z => if 0 < z.1 then (if m < z.1 - z.2 then z.1 - z.2 else m) else m) m = maxI (m :: ((zs.filter fun z => decide (0 < z.1)).map fun z => 1 * z.1 - z.2)) := by
    intro zs
    induction zs with
    | nil => exact fun m _ => rfl
    | cons z zs ih =>
      intro m hm
      rw [List.foldl_cons, List.filter_cons]
      by_cases h : 0 < z.1
      · rw [if_pos h, decide_eq_true h, if_pos rfl, List.map_cons]
        by_cases h2 : m < z.1 - z.2
        · rw [if_pos h2, ih _ (by omega)]
          show _ = max m (maxI (_ :: _))
          cases hz : ((zs.filter fun z => decide (0 < z.1)).map fun z => 1 * z.1 - z.2) with
          | nil =>
            show z.1 - z.2 = max m (1 * z.1 - z.2)
            omega
          | cons a r =>
            show max (z.1 - z.2) (maxI (a :: r)) = max m (max (1 * z.1 - z.2) (maxI (a :: r)))
            omega
        · rw [if_neg h2, ih _ hm]
          cases hz : ((zs.filter fun z => decide (0 < z.1)).map fun z => 1 * z.1 - z.2) with
          | nil =>
            show m = max m (1 * z.1 - z.2)
            omega
          | cons a r =>
            show max m (maxI (a :: r)) = max m (max (1 * z.1 - z.2) (maxI (a :: r)))
            omega
      · rw [if_neg h, decide_eq_false h, if_neg Bool.false_ne_true]
        exact ih m hm
  exact key _ 0 (Int.le_refl _)
def W__law_gain_at (ds : List D) (O : Ow) (Φ : Cd) : Prop := ∃ (k s : Int) (L : List WRow) (qs : List ((Int × Int) × Int)), ds = [bidD k s L, .tup ((qs.map (·.1)).map ratD)] ∧ (0 < s ∧ s ≤ 10) ∧ qs.length ≤ 3 ∧ Reps s qs ∧ (∀ z ∈ qs, 0 ≤ z.2) ∧ (∀ r ∈ L, ∀ x ∈ r.2, x ≤ 1000) ∧ ∀ g, Rep s g (gainX L (qs.map (·.2))) → Φ (ratD g) O
theorem sc__law_gain_at : FnScope ["_law_bids", "_law_prices", "_law_total", "_law_w", "_law_numbers_here", "_law_best_here", "_law_b", "_law_price", "_law_more"] ["_law_bids", "_law_prices"] (defScope s__law_gain_at) := ⟨rfl, rfl, rfl, by decide +kernel, rfl, by decide +kernel, by decide +kernel⟩
theorem kn__law_gain_at {P : Program} {w : World} {K : PySem.W.Frag} {mg : Str → Option Value} {base : Heap} (T : Txt K mg) : Kn P w K mg base "_law_gain_at" 4 ["_law_bids", "_law_prices"] (spW (W__law_gain_at)) := by
  have S := sc__law_gain_at
  have k__law_minus := kn__law_minus (P := P) (w := w) (base := base) T
  have k__law_q := kn__law_q (P := P) (w := w) (base := base) T
  have k__law_less := kn__law_less (P := P) (w := w) (base := base) T
  have k__law_plus := kn__law_plus (P := P) (w := w) (base := base) T
  refine kn_mk T.d__law_gain_at T.g__law_gain_at S (fun _ _ _ _ _ _ us hl => match us, hl with | [_, _], _ => rfl) (fun ds O Φ h => ?_) (fun cdv A outer s H E hr => ?_)
  · obtain ⟨k0, s0, L, qs, rfl, ⟨hs, hs2⟩, hl, hq, hq0, hL, k⟩ := h
    rfl
  have hu := hu_of hr
  have hu64 := hr.units
  have hu9 := hu9_of hr
  refine ⟨_, (pss_cons (ps_set (i := 2) S.nd rfl (Or.inl rfl) (pe_tup (pa_cons pe_int (pa_cons pe_int pa_nil))))
        (pss_cons (ps_for PassesOwn.never rfl (pi_listK (K := K) rfl (pe_dget hu (pv 0) pe_str (fun _ _ => rfl))) (pg_tupK (K := K) (n := 2) rfl rfl (pgs_cons (pg_name (i := 3) S.nd rfl (Or.inl rfl)) (pgs_cons (pg_name (i := 4) S.nd rfl (Or.inl rfl)) pgs_nil))) (pss_cons (ps_set (i := 5) S.nd rfl (Or.inl rfl) (pe_tup (pa_cons pe_int (pa_cons pe_int pa_nil))))
        (pss_cons (ps_for PassesOwn.never rfl (pi_zipAK (K := K) rfl (by rfl) T.f_zip (pa_cons (pv 4) (pa_cons (pv 1) pa_nil))) (pg_tupK (K := K) (n := 2) rfl rfl (pgs_cons (pg_name (i := 6) S.nd rfl (Or.inl rfl)) (pgs_cons (pg_name (i := 7) S.nd rfl (Or.inl rfl)) pgs_nil))) (pss_one (ps_if (pt_cmpR op_gt (pv 6) pe_int (nomark _)) (pss_cons (ps_set (i := 8) S.nd rfl (Or.inl rfl) (pe_kn k__law_minus hr (by decide) (pa_cons (pe_kn k__law_q hr (by decide) (pa_cons (pv 6) (pa_cons (pe_dget hu (pv 0) pe_str (fun _ _ => rfl)) pa_nil))) (pa_cons (pv 7) pa_nil))))
        (pss_one (ps_set (i := 5) S.nd rfl (Or.inl rfl) (pe_ifExp (pt_val (pe_kn k__law_less hr (by decide) (pa_cons (pv 5) (pa_cons (pv 8) pa_nil)))) (pv 8) (pv 5))))) pss_nil)))
        (pss_one (ps_set (i := 2) S.nd rfl (Or.inl rfl) (pe_kn k__law_plus hr (by decide) (pa_cons (pv 2) (pa_cons (pe_tup (pa_cons (pe_op op_mul (pv 3) (pe_ix (ix_seqK (K := K) rfl) (pv 5) pe_int (fun _ _ => rfl))) (pa_cons (pe_ix (ix_seqK (K := K) rfl) (pv 5) pe_int (fun _ _ => rfl)) pa_nil))) pa_nil))))))))
        (pss_one (ps_ret (pe_kn k__law_q hr (by decide) (pa_cons (pe_ix (ix_seqK (K := K) rfl) (pv 2) pe_int (fun _ _ => rfl)) (pa_cons (pe_ix (ix_seqK (K := K) rfl) (pv 2) pe_int (fun _ _ => rfl)) pa_nil))))))), fun ds O Φ h => ?_⟩
  obtain ⟨k0, s0, L, qs, rfl, ⟨hs, hs2⟩, hl, hq, hq0, hL, k⟩ := h
  have small : ∀ (q : Int × Int) (x : Int), Rep s0 q x → 0 < q.2 ∧ q.2 ≤ 10 := fun q x h => ⟨h.pos, Int.le_trans (h.le hs) hs2⟩
  repeat walk_at "g"
  refine ⟨by show 2 ≤ sizeLine; decide, ?_⟩
  repeat walk_at "g"
  have rep0 : Rep s0 (0, 1) 0 := ⟨by decide, by decide +kernel, by show 0 * s0 = 1 * 0; omega⟩
  refine sc_for (ic_list (ec_dget (ec_var rfl (ec_str ⟨_, gt_rows, _, rfl, fun i τ O' => O' = O ∧ ∃ (t : Int × Int) (x3 x4 x5 x6 x7 x8 : Option D), Rep s0 t (gainX (L.take i) (qs.map (·.2))) ∧ τ = [some (bidD k0 s0 L), some (.tup ((qs.map (·.1)).map ratD)), some (ratD t), x3, x4, x5, x6, x7, x8],
    ⟨rfl, (0, 1), _, _, _, _, _, _, rep0, rfl⟩, fun _ _ _ _ => trivial, ?_, ?_⟩))))
  · rintro i d τ O1 hd ⟨rfl, t, x3, x4, x5, x6, x7, x8, ht, rfl⟩
    obtain ⟨r, hr, rfl⟩ := map_get hd
    refine ⟨_, _, gc_tup (gcs_cons (gcs_cons gcs_nil)) rfl, ?_⟩
    repeat walk_at "g"
    refine ⟨by show 2 ≤ sizeLine; decide, ?_⟩
    have ez : zipD (r.2.map D.int) ((qs.map (·.1)).map ratD) = (r.2.zip qs).map fun z => .tup [.int z.1, ratD z.2.1] := by
      unfold zipD
      rw [List.map_map, List.zip_map, List.map_map]
      rfl
    refine sc_cut (fun τ' O' => O' = O1 ∧ ∃ (b : Int × Int) (x6 x7 x8 : Option D), Rep s0 b (bestW r.2 (qs.map (·.2))) ∧ τ' = [some (bidD k0 s0 L), some (.tup ((qs.map (·.1)).map ratD)), some (ratD t), some (.int r.1), some (prD r.2), some (ratD b), x6, x7, x8]) ?_ ?_
    · refine sc_for (ic_zt (ac_cons (ec_var rfl (ac_cons (ec_var rfl (ac_nil ⟨_, _, rfl, fun j τ O' => O' = O1 ∧ ∃ (b : Int × Int) (x6 x7 x8 : Option D), Rep s0 b (bestT ((r.2.zip (qs.map (·.2))).take j)) ∧ τ = [some (bidD k0 s0 L), some (.tup ((qs.map (·.1)).map ratD)), some (ratD t), some (.int r.1), some (prD r.2), some (ratD b), x6, x7, x8],
        ⟨rfl, (0, 1), _, _, _, rep0, rfl⟩, fun _ _ _ _ => trivial, ?_, ?_⟩))))))
      · rw [ez]
        rintro j x τ O2 hx ⟨rfl, b, x6, x7, x8, hb, rfl⟩
        obtain ⟨z, hz, rfl⟩ := map_get hx
        have hzq : z.2 ∈ qs := (List.of_mem_zip (List.mem_of_getElem? hz)).2
        have hrep := hq _ hzq
        have hz2 : (r.2.zip (qs.map (·.2)))[j]? = some (z.1, z.2.2) := by
          rw [List.zip_map_right, List.getElem?_map, hz]
          rfl
        have hnext : bestT ((r.2.zip (qs.map (·.2))).take (j + 1)) = if 0 < z.1 then (if bestT ((r.2.zip (qs.map (·.2))).take j) < z.1 - z.2.2 then z.1 - z.2.2 else bestT ((r.2.zip (qs.map (·.2))).take j)) else bestT ((r.2.zip (qs.map (·.2))).take j) := foldl_next hz2
        dsimp only
        rw [hnext]
        generalize bestT ((r.2.zip (qs.map (·.2))).take j) = m at hb ⊢
        refine ⟨_, _, gc_tup (gcs_cons (gcs_cons gcs_nil)) rfl, ?_⟩
        repeat walk_at "g"
        by_cases hz0 : 0 < z.1
        · rw [decide_eq_true hz0, if_pos hz0]
          repeat walk_at "g"
          refine ⟨_, gt_scale, ?_⟩
          repeat walk_at "g"
          refine ⟨_, _, rfl, hs, by omega, ?_⟩
          have r1 : Rep s0 (low z.1 s0) z.1 := rep_low hs (Int.mul_comm _ _)
          obtain ⟨q1, q2⟩ := small _ _ r1
          obtain ⟨q3, q4⟩ := small _ _ hrep
          repeat walk_at "g"
          refine ⟨_, _, rfl, q1, q3, by omega, by omega, ?_⟩
          have r2 : Rep s0 (low ((low z.1 s0).1 * z.2.1.2 - z.2.1.1 * (low z.1 s0).2) ((low z.1 s0).2 * z.2.1.2)) (z.1 - z.2.2) := by
            refine rep_low (Int.mul_pos q1 q3) ?_
            rw [Int.sub_mul, Int.mul_right_comm, r1.eq, Int.mul_right_comm z.2.1.1, hrep.eq, Int.mul_sub]
            congr 1
            · exact Int.mul_right_comm _ _ _
            · rw [Int.mul_right_comm, Int.mul_comm z.2.1.2]
          generalize low ((low z.1 s0).1 * z.2.1.2 - z.2.1.1 * (low z.1 s0).2) ((low z.1 s0).2 * z.2.1.2) = more at r2 ⊢
          obtain ⟨q5, q6⟩ := small _ _ r2
          obtain ⟨q7, q8⟩ := small _ _ hb
          repeat walk_at "g"
          refine ⟨_, _, rfl, q7, q5, by omega, by omega, ?_⟩
          repeat walk_at "g"
          have hlt := rep_lt hs hb r2
          by_cases hm : m < z.1 - z.2.2
          · rw [decide_eq_true (hlt.mpr hm), if_pos hm]
            refine iteT (ec_var rfl ⟨rfl, more, _, _, _, r2, rfl⟩)
          · rw [decide_eq_false fun h => hm (hlt.mp h), if_neg hm]
            refine iteF (ec_var rfl ⟨rfl, b, _, _, _, hb, rfl⟩)
        · rw [decide_eq_false hz0, if_neg hz0]
          exact iteF (sc_next ⟨rfl, b, _, _, _, hb, rfl⟩)
      · rw [ez]
        rintro τ O2 ⟨rfl, b, x6, x7, x8, hb, rfl⟩
        have el : ((r.2.zip qs).map fun z => D.tup [.int z.1, ratD z.2.1]).length = (r.2.zip (qs.map (·.2))).length := by
          rw [List.length_map, List.length_zip, List.length_zip, List.length_map]
        rw [el, List.take_length, bestT_is] at hb
        exact ⟨rfl, b, _, _, _, hb, rfl⟩
    · rintro τ' O' ⟨rfl, b, x6, x7, x8, hb, rfl⟩
      obtain ⟨q1, q2⟩ := small _ _ hb
      obtain ⟨q3, q4⟩ := small _ _ ht
      have d1 : b.1 * s0 = b.2 * bestW r.2 (qs.map (·.2)) := hb.eq
      have d2 : t.1 * s0 = t.2 * gainX (L.take i) (qs.map (·.2)) := ht.eq
      have hg : gainX (L.take (i + 1)) (qs.map (·.2)) = gainX (L.take i) (qs.map (·.2)) + r.1 * bestW r.2 (qs.map (·.2)) := by
        rw [take_next hr]
        unfold gainX
        rw [List.map_append, List.sum_append]
        show _ + (r.1 * bestW r.2 (qs.map (·.2)) + 0) = _
        omega
      have w1 := bestW_ge r.2 (qs.map (·.2))
      have w2 := bestW_le (M := 1000) (by decide) (n := r.2) (p := qs.map (·.2)) (fun x hx => hL r (List.mem_of_getElem? hr) x hx) fun x hx => by
        obtain ⟨z, hz, rfl⟩ := List.mem_map.mp hx
        exact hq0 z hz
      have hb1 : -(2 ^ 64) < b.1 ∧ b.1 < 2 ^ 64 := by
        have u1 : 0 ≤ b.2 * bestW r.2 (qs.map (·.2)) := Int.mul_nonneg (by omega) w1
        have u2 : b.2 * bestW r.2 (qs.map (·.2)) ≤ 10 * 1000 := Int.mul_le_mul q2 w2 w1 (by decide)
        rw [← d1] at u1 u2
        have u3 : 0 ≤ b.1 := by
          by_cases h : 0 ≤ b.1
          · exact h
          · have := Int.mul_neg_of_neg_of_pos (by omega : b.1 < 0) hs
            omega
        have u4 : b.1 * 1 ≤ b.1 * s0 := Int.mul_le_mul_of_nonneg_left (by omega) u3
        omega
      repeat walk_at "g"
      refine rc_ixT (d := .int b.1) rfl ?_
      refine rc_i ⟨.inr hb1, ?_⟩
      repeat walk_at "g"
      refine rc_ixT (d := .int b.2) rfl ?_
      repeat walk_at "g"
      refine ⟨by show 2 ≤ sizeLine; decide, ?_⟩
      repeat walk_at "g"
      refine ⟨t, (r.1 * b.1, b.2), rfl, q3, q1, by omega, by show b.2 ≤ 40; omega, ?_⟩
      dsimp only
      rw [hg]
      refine ⟨rfl, _, _, _, _, _, _, _, rep_low (Int.mul_pos q3 q1) ?_, rfl⟩
      show (t.1 * b.2 + r.1 * b.1 * t.2) * s0 = t.2 * b.2 * (gainX (L.take i) (qs.map (·.2)) + r.1 * bestW r.2 (qs.map (·.2)))
      rw [Int.add_mul, Int.mul_add]
      congr 1
      · rw [Int.mul_right_comm, d2, Int.mul_right_comm]
      · rw [Int.mul_right_comm, Int.mul_assoc r.1, d1, Int.mul_comm t.2 b.2, Int.mul_assoc b.2, Int.mul_left_comm r.1 b.2, Int.mul_assoc b.2, Int.mul_comm (r.1 * _) t.2]
  · rintro τ O1 ⟨rfl, t, x3, x4, x5, x6, x7, x8, ht, rfl⟩
    rw [List.length_map, List.take_length] at ht
    obtain ⟨q3, q4⟩ := small _ _ ht
    repeat walk_at "g"
    refine rc_ixT (d := .int t.1) rfl ?_
    repeat walk_at "g"
    refine rc_ixT (d := .int t.2) rfl ?_
    repeat walk_at "g"
    refine ⟨_, _, rfl, q3, by omega, ?_⟩
    exact k _ (rep_low q3 ht.eq)
end Ab

/-! ## AbQ9 -/
set_option Elab.async false
set_option linter.all false
set_option maxRecDepth 100000
set_option maxHeartbeats 2000000
namespace Ab
open PySem L2
local macro_rules | `(tactic| walk_at "g") => `(tactic| first
  | with_reducible refine sc_seq ?_ | with_reducible refine sc_if ?_ | with_reducible refine sc_ret ?_ | with_reducible refine sc_asg ?_ | with_reducible refine sc_par ?_ | with_reducible refine sc_next ?_
  | ((with_reducible refine ec_var (d := ?dd) ?hv ?_); (case hv => exact rfl)) | with_reducible refine ec_int ?_ | with_reducible refine ec_bl ?_ | with_reducible refine ec_str ?_ | with_reducible refine ec_ty ?_ | with_reducible refine ec_non ?_
  | with_reducible refine ec_op ?_ | with_reducible refine ec_call ?_ | with_reducible refine ec_un ?_ | with_reducible refine ec_cb ?_ | with_reducible refine ec_if ?_ | with_reducible refine ec_andV ?_ | with_reducible refine ec_orV ?_ | with_reducible refine ec_notV ?_
  | with_reducible refine ac_cons ?_ | with_reducible refine ac_nil ?_ | (with_reducible refine ec_tup (ac_cons ?_)) | with_reducible refine ec_tup ?_
  | with_reducible refine tc_test ?_ | with_reducible refine tc_B ?_ | with_reducible refine tc_and ?_ | with_reducible refine tc_or ?_ | with_reducible refine tc_not ?_ | with_reducible refine tc_yes ?_
  | with_reducible refine rc_i0 ?_ | with_reducible refine rc_b0 ?_ | with_reducible refine rc_eqI ?_ | with_reducible refine rc_neI ?_ | with_reducible refine rc_eqS ?_ | with_reducible refine uc_neg ?_
  | with_reducible refine bc_int ?_ | with_reducible refine bc_abs ?_ | with_reducible refine bc_lenL ?_ | with_reducible refine bc_lenT ?_ | with_reducible refine bc_tupL ?_ | with_reducible refine bc_tupT ?_
  | with_reducible refine ec_chain ?_ | with_reducible refine ec_dget ?_ | with_reducible refine ec_dget2 ?_ | with_reducible refine ec_din ?_ | with_reducible refine ec_nget ?_ | with_reducible refine ec_nget2 ?_ | with_reducible refine ec_nnotin ?_ | with_reducible refine ec_app ?_ | with_reducible refine sc_nput ?_ | with_reducible refine sc_drop ?_ | with_reducible refine ec_setd ?_ | with_reducible refine ec_make ?_ | with_reducible refine ec_disp ?_ | with_reducible refine pc_cons ?_ | with_reducible refine pc_nil ?_ | with_reducible refine gc_sub ?_ | with_reducible refine sc_asgG ?_
  | with_reducible refine ⟨_, rfl, ?_⟩ | refine iteT ?_ | refine iteF ?_ | dsimp only )

/-! ### tables that stand for sets -/
section
variable {α κ : Type} [DecidableEq α] [DecidableEq κ]
def insA (xs : List α) (x : α) : List α := if x ∈ xs then xs else xs ++ [x]
theorem mem_insA {xs : List α} {x y : α} : y ∈ insA xs x ↔ y = x ∨ y ∈ xs := by
  unfold insA
  split
  · rename_i h
    exact ⟨.inr, fun z => z.elim (fun e => e ▸ h) id⟩
  · rw [List.mem_append, List.mem_singleton]
    exact Or.comm
theorem insA_len (xs : List α) (x : α) : (insA xs x).length ≤ xs.length + 1 := by
  unfold insA
  split
  · exact Nat.le_succ _
  · rw [List.length_append]
    exact Nat.le_refl _
def setD (f : α → κ) (xs : List α) : List (κ × D) := xs.map fun a => (f a, D.bl true)
theorem valG_setD {f : α → κ} (inj : ∀ a b, f a = f b → a = b) (xs : List α) (x : α) : valG (setD f xs) (f x) = if x ∈ xs then some (.bl true) else none := by
  induction xs with
  | nil => rfl
  | cons q r ih =>
    by_cases e : q = x
    · subst e
      rw [if_pos List.mem_cons_self]
      exact valG_hit (p := (f q, D.bl true)) rfl
    · have h1 : valG (setD f (q :: r)) (f x) = valG (setD f r) (f x) := valG_miss (p := (f q, D.bl true)) fun z => e (inj _ _ z)
      rw [h1, ih]
      by_cases h : x ∈ r
      · rw [if_pos h, if_pos (List.mem_cons_of_mem _ h)]
      · rw [if_neg h, if_neg fun z => (List.mem_cons.mp z).elim (fun z => e z.symm) h]
theorem putG_setD {f : α → κ} (inj : ∀ a b, f a = f b → a = b) (xs : List α) (x : α) : putG (setD f xs) (f x) (.bl true) = setD f (insA xs x) := by
  unfold putG insA
  rw [valG_setD inj]
  by_cases h : x ∈ xs
  · rw [if_pos h, if_pos h]
    show List.map (fun kv => if kv.1 = f x then (kv.1, D.bl true) else kv) (setD f xs) = setD f xs
    unfold setD
    rw [List.map_map]
    refine List.map_congr_left fun q _ => ?_
    show (if f q = f x then (f q, D.bl true) else (f q, D.bl true)) = _
    split <;> rfl
  · rw [if_neg h, if_neg h, if_neg (by decide)]
    unfold setD
    rw [List.map_append]
    rfl
end
/-! ### planes -/
inductive Plane where
  | at_ (i : Nat) (n : Int)
  | as_ (i j : Nat) (d : Int)
  deriving DecidableEq
def encP : Plane → List L2.Key
  | .at_ i n => [.inr "at", .inl (i : Int), .inl n]
  | .as_ i j d => [.inr "as", .inl (i : Int), .inl (j : Int), .inl d]
theorem encP_inj : ∀ a b : Plane, encP a = encP b → a = b
  | .at_ i n, .at_ i' n', h => by
    unfold encP at h
    injection h with _ h
    injection h with h1 h
    injection h with h2 _
    have e1 : (i : Int) = i' := Sum.inl.inj h1
    have e2 : n = n' := Sum.inl.inj h2
    rw [show i = i' by omega, e2]
  | .as_ i j d, .as_ i' j' d', h => by
    unfold encP at h
    injection h with _ h
    injection h with h1 h
    injection h with h2 h
    injection h with h3 _
    have e1 : (i : Int) = i' := Sum.inl.inj h1
    have e2 : (j : Int) = j' := Sum.inl.inj h2
    have e3 : d = d' := Sum.inl.inj h3
    rw [show i = i' by omega, show j = j' by omega, e3]
  | .at_ i n, .as_ i' j' d', h => by
    have := congrArg List.length h
    cases this
  | .as_ i j d, .at_ i' n', h => by
    have := congrArg List.length h
    cases this
def planeD (p : Plane) : D := ksD (encP p)
def RowP (r : WRow) : Plane → Prop
  | .at_ i n => 0 < n ∧ r.2[i]? = some n
  | .as_ i j d => i < j ∧ gapAt r i j d
def PlaneOf (L : List WRow) (p : Plane) : Prop := ∃ r ∈ L, RowP r p
def pix : Plane → Nat
  | .at_ i _ => i
  | .as_ i _ _ => i
def pjx : Plane → Nat
  | .at_ _ _ => 0
  | .as_ _ j _ => j
theorem RowP.lt {r : WRow} {p : Plane} {k : Nat} (h : RowP r p) (hk : r.2.length = k) : pix p < k ∧ pjx p < k := by
  cases p with
  | at_ i n =>
    have := (List.getElem?_eq_some_iff.mp h.2).1
    exact ⟨by show i < k; omega, by show 0 < k; omega⟩
  | as_ i j d =>
    obtain ⟨_, _, u, v, e1, e2, _⟩ := h
    have h1 := (List.getElem?_eq_some_iff.mp e1).1
    have h2 := (List.getElem?_eq_some_iff.mp e2).1
    exact ⟨by show i < k; omega, by show j < k; omega⟩
def W__law_planes (ds : List D) (O : Ow) (Φ : Cd) : Prop := ∃ (k : Nat) (s : Int) (L : List WRow), ds = [bidD k s L] ∧ (1 ≤ k ∧ k ≤ 3) ∧ L.length ≤ 14 ∧ (∀ r ∈ L, r.2.length = k) ∧ ∀ PL : List Plane, PL.length ≤ 126 → (∀ p, p ∈ PL ↔ PlaneOf L p) → Φ (.lst (PL.map planeD)) O
theorem sc__law_planes : FnScope ["_law_bids", "_law_found", "_law_w", "_law_numbers_here", "_law_i", "_law_j"] ["_law_bids"] (defScope s__law_planes) := ⟨rfl, rfl, rfl, by decide +kernel, rfl, by decide +kernel, by decide +kernel⟩
theorem kn__law_planes {P : Program} {w : World} {K : PySem.W.Frag} {mg : Str → Option Value} {base : Heap} (T : Txt K mg) : Kn P w K mg base "_law_planes" 1 ["_law_bids"] (spW (W__law_planes)) := by
  have S := sc__law_planes
  refine kn_mk T.d__law_planes T.g__law_planes S (fun _ _ _ _ _ _ us hl => match us, hl with | [_], _ => rfl) (fun ds O Φ h => ?_) (fun cdv A outer s H E hr => ?_)
  · obtain ⟨k, s0, L, rfl, ⟨k1, k3⟩, hl, hL, fin⟩ := h
    rfl
  have hu := hu_of hr
  have hu64 := hr.units
  have hu9 := hu9_of hr
  refine ⟨_, (pss_cons (ps_set (i := 1) S.nd rfl (Or.inl rfl) pe_dnewT)
        (pss_cons (ps_for PassesOwn.never rfl (pi_listK (K := K) rfl (pe_dget hu (pv 0) pe_str (fun _ _ => rfl))) (pg_tupK (K := K) (n := 2) rfl rfl (pgs_cons (pg_name (i := 2) S.nd rfl (Or.inl rfl)) (pgs_cons (pg_name (i := 3) S.nd rfl (Or.inl rfl)) pgs_nil))) (pss_one (ps_for PassesOwn.never rfl (pi_range1 (by rfl) T.f_range (pa_cons (pe_dget hu (pv 0) pe_str (fun _ _ => rfl)) pa_nil)) (pg_name (i := 4) S.nd rfl (Or.inl rfl)) (pss_one (ps_if (pt_cmpR op_gt (pe_ix (ix_seqK (K := K) rfl) (pv 3) (pv 4) (fun _ _ => rfl)) pe_int (nomark _)) (pss_cons (ps_dput hu (pv 1) (pe_tup (pa_cons pe_str (pa_cons (pv 4) (pa_cons (pe_ix (ix_seqK (K := K) rfl) (pv 3) (pv 4) (fun _ _ => rfl)) pa_nil)))) pe_bl rfl)
        (pss_one (ps_for PassesOwn.never rfl (pi_range2 (by rfl) T.f_range (pa_cons (pe_op op_add (pv 4) pe_int) (pa_cons (pe_dget hu (pv 0) pe_str (fun _ _ => rfl)) pa_nil))) (pg_name (i := 5) S.nd rfl (Or.inl rfl)) (pss_one (ps_if (pt_cmpR op_gt (pe_ix (ix_seqK (K := K) rfl) (pv 3) (pv 5) (fun _ _ => rfl)) pe_int (nomark _)) (pss_one (ps_dput hu (pv 1) (pe_tup (pa_cons pe_str (pa_cons (pv 4) (pa_cons (pv 5) (pa_cons (pe_op op_sub (pe_ix (ix_seqK (K := K) rfl) (pv 3) (pv 4) (fun _ _ => rfl)) (pe_ix (ix_seqK (K := K) rfl) (pv 3) (pv 5) (fun _ _ => rfl))) pa_nil))))) pe_bl rfl)) pss_nil))))) pss_nil)))))
        (pss_one (ps_ret (pe_callTy (call_listT rfl) (by rfl) T.f_list (by decide +kernel) (pa_cons (pv 1) pa_nil)))))), fun ds O Φ h => ?_⟩
  obtain ⟨k, s0, L, rfl, ⟨k1, k3⟩, hl, hL, fin⟩ := h
  repeat walk_at "g"
  refine ec_dnewT fun f => ?_
  repeat walk_at "g"
  refine sc_for (ic_list (ec_dget (ec_var rfl (ec_str ⟨_, gt_rows, _, rfl, fun m τ O' => ∃ (PL : List Plane) (x2 x3 x4 x5 : Option D), O' = (f, oT (setD encP PL)) :: O ∧ (∀ p, p ∈ PL ↔ PlaneOf (L.take m) p) ∧ PL.length ≤ 9 * m ∧ τ = [some (bidD k s0 L), some (.adr f), x2, x3, x4, x5],
    ⟨[], _, _, _, _, rfl, fun p => ⟨fun h => absurd h List.not_mem_nil, fun ⟨r, hr, _⟩ => absurd hr (by simp)⟩, Nat.le_refl _, rfl⟩, fun _ _ _ _ => trivial, ?_, ?_⟩))))
  · rintro m d τ O1 hd ⟨PL, x2, x3, x4, x5, rfl, hP, hlen, rfl⟩
    obtain ⟨r, hr, rfl⟩ := map_get hd
    have hrk := hL r (List.mem_of_getElem? hr)
    have hml := (List.getElem?_eq_some_iff.mp hr).1
    refine ⟨_, _, gc_tup (gcs_cons (gcs_cons gcs_nil)) rfl, ?_⟩
    refine sc_for (ic_rng1 (ac_cons (ec_dget (ec_var rfl (ec_str ⟨_, gt_kinds, ac_nil ⟨(k : Int), rfl, by omega, by omega, fun c τ O' => ∃ (PL : List Plane) (x4 x5 : Option D), O' = (f, oT (setD encP PL)) :: O ∧ (∀ p, p ∈ PL ↔ PlaneOf (L.take m) p ∨ (RowP r p ∧ pix p < c)) ∧ PL.length ≤ 9 * m + 3 * c ∧ τ = [some (bidD k s0 L), some (.adr f), some (.int r.1), some (prD r.2), x4, x5],
      ⟨PL, _, _, rfl, fun p => (hP p).trans ⟨.inl, fun z => z.elim id fun z => absurd z.2 (Nat.not_lt_zero _)⟩, hlen, rfl⟩, fun _ _ _ _ => trivial, ?_, ?_⟩⟩)))))
    · rw [Int.toNat_natCast]
      rintro c x τ O1 hx ⟨PL, x4, x5, rfl, hP, hlen, rfl⟩
      obtain ⟨hc, rfl⟩ := rngD_get hx
      rw [Int.zero_add]
      obtain ⟨u, hu⟩ : ∃ u, r.2[c]? = some u := ⟨_, List.getElem?_eq_getElem (by omega)⟩
      have au : atI (r.2.map D.int) (c : Int) = some (.int u) := atI_nat (by rw [List.getElem?_map, hu]; rfl)
      refine ⟨_, _, gc_name, ?_⟩
      repeat walk_at "g"
      refine rc_ixT au ?_
      repeat walk_at "g"
      by_cases hpos : 0 < u
      · rw [decide_eq_true hpos]
        refine iteT (sc_seq (sc_dputT ?_))
        repeat walk_at "g"
        refine rc_ixT au ?_
        repeat walk_at "g"
        refine ⟨by show 3 ≤ sizeLine; decide, 0, f, setD encP PL, encP (.at_ c u), rfl, rfl, rfl, ?_, ?_⟩
        · unfold setD
          rw [List.length_map]
          exact Nat.lt_of_lt_of_le (by omega : _ < 2000) (sz_ok (by omega))
        rw [putG_setD encP_inj]
        have hP2 : ∀ p, p ∈ insA PL (.at_ c u) ↔ PlaneOf (L.take m) p ∨ (RowP r p ∧ (pix p < c ∨ (pix p = c ∧ pjx p < c + 1))) := fun p => by
          rw [mem_insA, hP p]
          constructor
          · rintro (rfl | z | ⟨z1, z2⟩)
            · exact .inr ⟨⟨hpos, hu⟩, .inr ⟨rfl, Nat.succ_pos _⟩⟩
            · exact .inl z
            · exact .inr ⟨z1, .inl z2⟩
          · rintro (z | ⟨z1, z2 | ⟨z2, z3⟩⟩)
            · exact .inr (.inl z)
            · exact .inr (.inr ⟨z1, z2⟩)
            · cases p with
              | at_ i n =>
                have z2 : i = c := z2
                subst z2
                obtain ⟨_, z4⟩ := z1
                rw [hu] at z4
                rw [Option.some.inj z4]
                exact .inl rfl
              | as_ i j d =>
                have z2 : i = c := z2
                have z3 : j < c + 1 := z3
                have := z1.1
                omega
        have hlen2 := insA_len PL (.at_ c u)
        generalize insA PL (.at_ c u) = PL at hP2 hlen2 ⊢
        refine sc_for (ic_rng2 (ac_cons (ec_op (ec_var rfl (ec_int (rc_i0 (ac_cons (ec_dget (ec_var rfl (ec_str ⟨_, gt_kinds, ac_nil ⟨(c : Int) + 1, (k : Int), rfl, ⟨by omega, by omega, by omega, by omega⟩, fun o τ O' => ∃ (PL : List Plane) (x5 : Option D), O' = (f, oT (setD encP PL)) :: O ∧ (∀ p, p ∈ PL ↔ PlaneOf (L.take m) p ∨ (RowP r p ∧ (pix p < c ∨ (pix p = c ∧ pjx p < c + 1 + o)))) ∧ PL.length ≤ 9 * m + 3 * c + 1 + o ∧ τ = [some (bidD k s0 L), some (.adr f), some (.int r.1), some (prD r.2), some (.int c), x5],
          ⟨PL, _, rfl, hP2, by omega, rfl⟩, fun _ _ _ _ => trivial, ?_, ?_⟩⟩))))))))))
        · rintro o x τ O1 hx ⟨PL, x5, rfl, hP, hlen, rfl⟩
          obtain ⟨ho, rfl⟩ := rngD_get hx
          obtain ⟨j, hj⟩ : ∃ j : Nat, (c : Int) + 1 + (o : Int) = (j : Int) := ⟨c + 1 + o, by omega⟩
          rw [hj]
          have hjk : j < k ∧ j = c + 1 + o := by omega
          obtain ⟨v, hv⟩ : ∃ v, r.2[j]? = some v := ⟨_, List.getElem?_eq_getElem (by omega)⟩
          have av : atI (r.2.map D.int) (j : Int) = some (.int v) := atI_nat (by rw [List.getElem?_map, hv]; rfl)
          refine ⟨_, _, gc_name, ?_⟩
          repeat walk_at "g"
          refine rc_ixT av ?_
          repeat walk_at "g"
          by_cases hvp : 0 < v
          · rw [decide_eq_true hvp]
            refine iteT (sc_dputT ?_)
            repeat walk_at "g"
            refine rc_ixT au ?_
            repeat walk_at "g"
            refine rc_ixT av ?_
            repeat walk_at "g"
            refine ⟨by show 4 ≤ sizeLine; decide, 0, f, setD encP PL, encP (.as_ c j (u - v)), rfl, rfl, rfl, ?_, ?_⟩
            · unfold setD
              rw [List.length_map]
              exact Nat.lt_of_lt_of_le (by omega : _ < 2000) (sz_ok (by omega))
            rw [putG_setD encP_inj]
            refine ⟨insA PL (.as_ c j (u - v)), _, rfl, fun p => ?_, by have := insA_len PL (.as_ c j (u - v)); omega, rfl⟩
            rw [mem_insA, hP p]
            constructor
            · rintro (rfl | z | ⟨z1, z2⟩)
              · exact .inr ⟨⟨by omega, by omega, u, v, hu, hv, hpos, hvp, rfl⟩, .inr ⟨rfl, by show j < c + 1 + (o + 1); omega⟩⟩
              · exact .inl z
              · exact .inr ⟨z1, z2.imp id fun z => ⟨z.1, by omega⟩⟩
            · rintro (z | ⟨z1, z2 | ⟨z2, z3⟩⟩)
              · exact .inr (.inl z)
              · exact .inr (.inr ⟨z1, .inl z2⟩)
              · by_cases e : pjx p = j
                · cases p with
                  | at_ i n =>
                    have e : 0 = j := e
                    omega
                  | as_ i j' d =>
                    have z2 : i = c := z2
                    have e : j' = j := e
                    subst z2 e
                    obtain ⟨_, _, u', v', y1, y2, _, _, y3⟩ := z1
                    rw [hu] at y1
                    rw [hv] at y2
                    rw [y3, Option.some.inj y1, Option.some.inj y2]
                    exact .inl rfl
                · exact .inr (.inr ⟨z1, .inr ⟨z2, by omega⟩⟩)
          · rw [decide_eq_false hvp]
            refine iteF (sc_next ⟨PL, _, rfl, fun p => (hP p).trans (or_congr Iff.rfl ⟨fun z => ⟨z.1, z.2.imp id fun y => ⟨y.1, by omega⟩⟩, fun z => ⟨z.1, ?_⟩⟩), by omega, rfl⟩)
            rcases z.2 with y | ⟨y1, y2⟩
            · exact .inl y
            · refine .inr ⟨y1, ?_⟩
              by_cases e : pjx p = j
              · cases p with
                | at_ i n =>
                  have e : 0 = j := e
                  omega
                | as_ i j' d =>
                  have e : j' = j := e
                  subst e
                  obtain ⟨_, _, u', v', w1, w2, _, w3, _⟩ := z.1
                  rw [hv] at w2
                  obtain rfl := Option.some.inj w2
                  exact absurd w3 hvp
              · omega
        · rw [rngD_len]
          rintro τ O1 ⟨PL, x5, rfl, hP, hlen, rfl⟩
          refine ⟨PL, _, _, rfl, fun p => (hP p).trans (or_congr Iff.rfl ⟨fun z => ⟨z.1, ?_⟩, fun z => ⟨z.1, ?_⟩⟩), by omega, rfl⟩
          · rcases z.2 with y | ⟨y, _⟩ <;> omega
          · have hlt := z.1.lt hrk
            have := z.2
            by_cases e : pix p < c
            · exact .inl e
            · exact .inr ⟨by omega, by omega⟩
      · rw [decide_eq_false hpos]
        refine iteF (sc_next ⟨PL, _, _, rfl, fun p => (hP p).trans (or_congr Iff.rfl ⟨fun z => ⟨z.1, by omega⟩, fun z => ⟨z.1, ?_⟩⟩), by omega, rfl⟩)
        by_cases e : pix p = c
        · cases p with
          | at_ i n =>
            have e : i = c := e
            subst e
            obtain ⟨z1, z2⟩ := z.1
            rw [hu] at z2
            obtain rfl := Option.some.inj z2
            exact absurd z1 hpos
          | as_ i j' d =>
            have e : i = c := e
            subst e
            obtain ⟨_, _, u', v', w1, w2, w3, _⟩ := z.1
            rw [hu] at w1
            obtain rfl := Option.some.inj w1
            exact absurd w3 hpos
        · have := z.2
          omega
    · rw [Int.toNat_natCast, rngD_len]
      rintro τ O1 ⟨PL, x4, x5, rfl, hP, hlen, rfl⟩
      refine ⟨PL, _, _, _, _, rfl, fun p => (hP p).trans ?_, by omega, rfl⟩
      rw [take_next hr]
      unfold PlaneOf
      constructor
      · rintro (⟨q, hq, z⟩ | ⟨z, _⟩)
        · exact ⟨q, List.mem_append.mpr (.inl hq), z⟩
        · exact ⟨r, List.mem_append.mpr (.inr (List.mem_singleton.mpr rfl)), z⟩
      · rintro ⟨q, hq, z⟩
        rcases List.mem_append.mp hq with hq | hq
        · exact .inl ⟨q, hq, z⟩
        · rw [List.mem_singleton.mp hq] at z
          exact .inr ⟨z, (z.lt hrk).1⟩
  · rintro τ O1 ⟨PL, x2, x3, x4, x5, rfl, hP, hlen, rfl⟩
    rw [List.length_map] at hP hlen
    rw [List.take_length] at hP
    refine sc_fz (j := 0) (i := 1) rfl fz_T rfl ?_
    repeat walk_at "g"
    refine bc_listdT (.inl ?_)
    unfold setD
    rw [List.map_map]
    exact fin PL (by omega) hP
end Ab

/-! ## AbQ10 -/
set_option Elab.async false
set_option linter.all false
set_option maxRecDepth 100000
set_option maxHeartbeats 2000000
namespace Ab
open PySem L2
local macro_rules | `(tactic| walk_at "g") => `(tactic| first
  | with_reducible refine sc_seq ?_ | with_reducible refine sc_if ?_ | with_reducible refine sc_ret ?_ | with_reducible refine sc_asg ?_ | with_reducible refine sc_par ?_ | with_reducible refine sc_next ?_
  | ((with_reducible refine ec_var (d := ?dd) ?hv ?_); (case hv => exact rfl)) | with_reducible refine ec_int ?_ | with_reducible refine ec_bl ?_ | with_reducible refine ec_str ?_ | with_reducible refine ec_ty ?_ | with_reducible refine ec_non ?_
  | with_reducible refine ec_op ?_ | with_reducible refine ec_call ?_ | with_reducible refine ec_un ?_ | with_reducible refine ec_cb ?_ | with_reducible refine ec_if ?_ | with_reducible refine ec_andV ?_ | with_reducible refine ec_orV ?_ | with_reducible refine ec_notV ?_
  | with_reducible refine ac_cons ?_ | with_reducible refine ac_nil ?_ | (with_reducible refine ec_tup (ac_cons ?_)) | with_reducible refine ec_tup ?_
  | with_reducible refine tc_test ?_ | with_reducible refine tc_B ?_ | with_reducible refine tc_and ?_ | with_reducible refine tc_or ?_ | with_reducible refine tc_not ?_ | with_reducible refine tc_yes ?_
  | with_reducible refine rc_i0 ?_ | with_reducible refine rc_b0 ?_ | with_reducible refine rc_eqI ?_ | with_reducible refine rc_neI ?_ | with_reducible refine rc_eqS ?_ | with_reducible refine uc_neg ?_
  | with_reducible refine bc_int ?_ | with_reducible refine bc_abs ?_ | with_reducible refine bc_lenL ?_ | with_reducible refine bc_lenT ?_ | with_reducible refine bc_tupL ?_ | with_reducible refine bc_tupT ?_
  | with_reducible refine ec_chain ?_ | with_reducible refine ec_dget ?_ | with_reducible refine ec_dget2 ?_ | with_reducible refine ec_din ?_ | with_reducible refine ec_nget ?_ | with_reducible refine ec_nget2 ?_ | with_reducible refine ec_nnotin ?_ | with_reducible refine ec_app ?_ | with_reducible refine sc_nput ?_ | with_reducible refine sc_drop ?_ | with_reducible refine ec_setd ?_ | with_reducible refine ec_make ?_ | with_reducible refine ec_disp ?_ | with_reducible refine pc_cons ?_ | with_reducible refine pc_nil ?_ | with_reducible refine gc_sub ?_ | with_reducible refine sc_asgG ?_
  | with_reducible refine ⟨_, rfl, ?_⟩ | refine iteT ?_ | refine iteF ?_ | dsimp only )

def rowK (row : Key2) : List (L2.Key × D) := row.map fun q => (.inl q.1, .int q.2)
abbrev rowKD (row : Key2) : D := .dK (rowK row)
theorem valG_rowK (row : Key2) (x : Int) : valG (rowK row) (.inl x) = (valG row x).map D.int := by
  induction row with
  | nil => rfl
  | cons q r ih =>
    by_cases e : q.1 = x
    · rw [valG_hit e]
      exact valG_hit (p := ((.inl q.1 : L2.Key), D.int q.2)) (congrArg Sum.inl e)
    · rw [valG_miss e, ← ih]
      exact valG_miss (p := ((.inl q.1 : L2.Key), D.int q.2)) fun z => e (Sum.inl.inj z)
theorem putG_rowK {row : Key2} {c : Int} (s : Int) (h : c ∉ row.map (·.1)) : putG (rowK row) (.inl c) (.int s) = rowK (row ++ [(c, s)]) := by
  have e : valG (rowK row) (.inl c) = none := by
    rw [valG_rowK]
    have : valG row c = none := valG_none.mpr fun p hp z => h (z ▸ List.mem_map_of_mem hp)
    rw [this]
    rfl
  rw [putG_new _ e]
  unfold rowK
  rw [List.map_append]
  rfl
/-- where a plane is met, the price of the kind c sought -/
def planeStop (row : Key2) (c : Int) : Plane → List Int
  | .at_ i n => if (i : Int) = c then [12 * n] else []
  | .as_ i j d => (if (i : Int) = c then (match valG row (j : Int) with | some v => [v + 12 * d] | none => []) else []) ++ (if (j : Int) = c then (match valG row (i : Int) with | some v => [v - 12 * d] | none => []) else [])
def stopsQ (PL : List Plane) (row : Key2) (c : Int) : List Int := 0 :: PL.flatMap (planeStop row c)
def widerQ (PL : List Plane) (c : Int) (rows : List Key2) : List Key2 := rows.flatMap fun row => ((stopsQ PL row c).filter fun s => decide (0 ≤ s)).map fun s => row ++ [(c, s)]
theorem optLen (o : Option Int) (f : Int → Int) : (match o with | some v => [f v] | none => []).length ≤ 1 := by
  cases o
  · exact Nat.zero_le _
  · exact Nat.le_refl _
theorem planeStop_len {row : Key2} {c : Int} {p : Plane} (h : ∀ i j d, p = .as_ i j d → i ≠ j) : (planeStop row c p).length ≤ 1 := by
  cases p with
  | at_ i n =>
    show (if (i : Int) = c then [12 * n] else []).length ≤ 1
    split
    · exact Nat.le_refl _
    · exact Nat.zero_le _
  | as_ i j d =>
    have ne := h i j d rfl
    show ((if (i : Int) = c then (match valG row (j : Int) with | some v => [v + 12 * d] | none => []) else []) ++ (if (j : Int) = c then (match valG row (i : Int) with | some v => [v - 12 * d] | none => []) else [])).length ≤ 1
    by_cases e : (i : Int) = c
    · rw [if_pos e, if_neg (by omega : ¬ (j : Int) = c), List.append_nil]
      exact optLen _ _
    · rw [if_neg e, List.nil_append]
      split
      · exact optLen _ _
      · exact Nat.zero_le _
def Ne_ (PL : List Plane) : Prop := ∀ i j d, Plane.as_ i j d ∈ PL → i ≠ j
theorem stopsQ_len {PL : List Plane} {row : Key2} {c : Int} (h : Ne_ PL) (hl : PL.length ≤ 126) : (stopsQ PL row c).length ≤ 127 := by
  have := flatMap_len (m := 1) (xs := PL) (f := planeStop row c) fun p hp => planeStop_len fun i j d e => h i j d (e ▸ hp)
  unfold stopsQ
  rw [List.length_cons]
  omega
def sortQ (m : Key2) : Key2 := m.mergeSort (PySem.W.dataLe false pdq)
theorem perm_keys : ∀ {a b : Key2}, a.Perm b → a.map (·.1) = b.map (·.1) → (a.map (·.1)).Nodup → a = b
  | [], b, p, _, _ => p.nil_eq
  | x :: a, [], p, _, _ => by have := p.length_eq; cases this
  | x :: a, y :: b, p, h, nd => by
    rw [List.map_cons, List.map_cons] at h
    injection h with h1 h2
    rw [List.map_cons] at nd
    obtain ⟨n1, n2⟩ := List.nodup_cons.mp nd
    have hx : x = y := by
      rcases List.mem_cons.mp (p.mem_iff.mp List.mem_cons_self) with e | e
      · exact e
      · have := List.mem_map_of_mem (f := (·.1)) e
        rw [← h2] at this
        exact absurd this n1
    subst hx
    rw [perm_keys p.cons_inv h2 n2]
theorem sortQ_inj {a b : Key2} {o : List Int} (ha : a.map (·.1) = o) (hb : b.map (·.1) = o) (nd : o.Nodup) (h : sortQ a = sortQ b) : a = b := by
  have p : a.Perm b := ((List.mergeSort_perm a (PySem.W.dataLe false pdq)).symm.trans (by
    have : a.mergeSort (PySem.W.dataLe false pdq) = b.mergeSort (PySem.W.dataLe false pdq) := h
    rw [this])).trans (List.mergeSort_perm b (PySem.W.dataLe false pdq))
  exact perm_keys p (ha.trans hb.symm) (ha ▸ nd)
theorem seenV {FR : List Key2} {m : Key2} (h : ∀ x ∈ FR, sortQ x = sortQ m → x = m) : (valG (FR.map fun m => (sortQ m, V.bl true)) (sortQ m)).isSome = decide (m ∈ FR) := by
  induction FR with
  | nil => rfl
  | cons q r ih =>
    by_cases e : sortQ q = sortQ m
    · have := h q List.mem_cons_self e
      subst this
      rw [decide_eq_true List.mem_cons_self]
      rw [show valG ((q :: r).map fun m => (sortQ m, V.bl true)) (sortQ q) = some (V.bl true) from valG_hit (p := (sortQ q, V.bl true)) rfl]
      rfl
    · have h1 : valG ((q :: r).map fun m => (sortQ m, V.bl true)) (sortQ m) = valG (r.map fun m => (sortQ m, V.bl true)) (sortQ m) := valG_miss (p := (sortQ q, V.bl true)) e
      rw [h1, ih fun x hx => h x (List.mem_cons_of_mem _ hx)]
      congr 1
      exact propext ⟨fun z => List.mem_cons_of_mem _ z, fun z => (List.mem_cons.mp z).elim (fun z => absurd (z ▸ rfl) e) id⟩
def W__law_wider (ds : List D) (O : Ow) (Φ : Cd) : Prop := ∃ (PL : List Plane) (rows : List Key2) (c : Int) (o : List Int), ds = [.lst (PL.map planeD), .lst (rows.map rowKD), .int c] ∧ Ne_ PL ∧ PL.length ≤ 126 ∧ (∀ row ∈ rows, row.map (·.1) = o) ∧ o.Nodup ∧ c ∉ o ∧ o.length ≤ 2 ∧ rows.length ≤ 16129 ∧
  ∀ FR : List Key2, FR.length ≤ rows.length * 127 → (∀ m, m ∈ FR ↔ m ∈ widerQ PL c rows) → Φ (.lst (FR.map rowKD)) O
theorem sc__law_wider : FnScope ["_law_planes_here", "_law_rows", "_law_kind", "_law_found", "_law_known", "_law_row", "_law_stops", "_law_plane", "_law_stop", "_law_more", "_law_name"] ["_law_planes_here", "_law_rows", "_law_kind"] (defScope s__law_wider) := ⟨rfl, rfl, rfl, by decide +kernel, rfl, by decide +kernel, by decide +kernel⟩
theorem kn__law_wider {P : Program} {w : World} {K : PySem.W.Frag} {mg : Str → Option Value} {base : Heap} (T : Txt K mg) : Kn P w K mg base "_law_wider" 1 ["_law_planes_here", "_law_rows", "_law_kind"] (spW (W__law_wider)) := by
  have S := sc__law_wider
  refine kn_mk T.d__law_wider T.g__law_wider S (fun _ _ _ _ _ _ us hl => match us, hl with | [_, _, _], _ => rfl) (fun ds O Φ h => ?_) (fun cdv A outer s H E hr => ?_)
  · obtain ⟨PL, rows, c, o, rfl, hne, hPL, hrow, hnd, hco, ho2, hrl, fin⟩ := h
    rfl
  have hu := hu_of hr
  have hu64 := hr.units
  have hu9 := hu9_of hr
  refine ⟨_, (pss_cons (ps_par (i := 3) (j := 4) rfl S.nd rfl rfl (by decide) rfl rfl (pa_cons (pe_lst pa_nil) (pa_cons (pe_nnew (P := P) (w := w) rfl rfl) pa_nil)) (by rfl))
        (pss_cons (ps_for PassesOwn.never rfl (pi_listK (K := K) rfl (pv 1)) (pg_name (i := 5) S.nd rfl (Or.inl rfl)) (pss_cons (ps_set (i := 6) S.nd rfl (Or.inl rfl) (pe_lst (pa_cons pe_int pa_nil)))
        (pss_cons (ps_for PassesOwn.never rfl (pi_listK (K := K) rfl (pv 0)) (pg_name (i := 7) S.nd rfl (Or.inl rfl)) (pss_cons (ps_if (PW.pt (pw_and (pt_cmpR op_eq (pe_ix (ix_seqK (K := K) rfl) (pv 7) pe_int (fun _ _ => rfl)) pe_str (nomark _)) (pw_and1 (pt_cmpR op_eq (pe_ix (ix_seqK (K := K) rfl) (pv 7) pe_int (fun _ _ => rfl)) (pv 2) (nomark _))))) (pss_one (ps_expr (pe_bm PySem.F.plainAttrs_list PySem.F.slot_list_append PySem.F.type_list_append mt_append (pv 6) (pa_cons (pe_op op_mul pe_int (pe_ix (ix_seqK (K := K) rfl) (pv 7) pe_int (fun _ _ => rfl))) pa_nil)))) pss_nil)
        (pss_cons (ps_if (PW.pt (pw_and (pt_cmpR op_eq (pe_ix (ix_seqK (K := K) rfl) (pv 7) pe_int (fun _ _ => rfl)) pe_str (nomark _)) (pw_and (pt_cmpR op_eq (pe_ix (ix_seqK (K := K) rfl) (pv 7) pe_int (fun _ _ => rfl)) (pv 2) (nomark _)) (pw_and1 (pt_cmp (pc_din hu (pe_ix (ix_seqK (K := K) rfl) (pv 7) pe_int (fun _ _ => rfl)) (pv 5))))))) (pss_one (ps_expr (pe_bm PySem.F.plainAttrs_list PySem.F.slot_list_append PySem.F.type_list_append mt_append (pv 6) (pa_cons (pe_op op_add (pe_dget hu (pv 5) (pe_ix (ix_seqK (K := K) rfl) (pv 7) pe_int (fun _ _ => rfl)) (fun _ _ => rfl)) (pe_op op_mul pe_int (pe_ix (ix_seqK (K := K) rfl) (pv 7) pe_int (fun _ _ => rfl)))) pa_nil)))) pss_nil)
        (pss_one (ps_if (PW.pt (pw_and (pt_cmpR op_eq (pe_ix (ix_seqK (K := K) rfl) (pv 7) pe_int (fun _ _ => rfl)) pe_str (nomark _)) (pw_and (pt_cmpR op_eq (pe_ix (ix_seqK (K := K) rfl) (pv 7) pe_int (fun _ _ => rfl)) (pv 2) (nomark _)) (pw_and1 (pt_cmp (pc_din hu (pe_ix (ix_seqK (K := K) rfl) (pv 7) pe_int (fun _ _ => rfl)) (pv 5))))))) (pss_one (ps_expr (pe_bm PySem.F.plainAttrs_list PySem.F.slot_list_append PySem.F.type_list_append mt_append (pv 6) (pa_cons (pe_op op_sub (pe_dget hu (pv 5) (pe_ix (ix_seqK (K := K) rfl) (pv 7) pe_int (fun _ _ => rfl)) (fun _ _ => rfl)) (pe_op op_mul pe_int (pe_ix (ix_seqK (K := K) rfl) (pv 7) pe_int (fun _ _ => rfl)))) pa_nil)))) pss_nil)))))
        (pss_one (ps_for PassesOwn.never rfl (pi_listK (K := K) rfl (pv 6)) (pg_name (i := 8) S.nd rfl (Or.inl rfl)) (pss_cons (ps_set (i := 9) S.nd rfl (Or.inl rfl) (pe_callTy call_dictC (by rfl) T.f_dict (by decide +kernel) (pa_cons (pv 5) pa_nil)))
        (pss_cons (ps_dput hu (pv 9) (pv 2) (pv 8) rfl)
        (pss_cons (ps_set (i := 10) S.nd rfl (Or.inl rfl) (pe_callTy (call_tupK (K := K) rfl) (by rfl) T.f_tuple (by decide +kernel) (pa_cons (pe_callB (cr_sortedD (K := K) rfl hu64) (by rfl) T.f_sorted (by decide +kernel) (pa_cons (LiI.pe_listItems rfl (pv 9) (by rfl) T.f_list (by decide +kernel)) pa_nil)) pa_nil)))
        (pss_one (ps_if (PW.pt (pw_and (pt_cmpR op_ge (pv 8) pe_int (nomark _)) (pw_and1 (pt_cmp (pc_nnotin (P := P) (w := w) rfl rfl hu9 (pv 10) (pv 4)))))) (pss_cons (ps_nput (P := P) (w := w) rfl rfl hu9 (pv 4) (pv 10) pe_bl rfl)
        (pss_one (ps_expr (pe_bm PySem.F.plainAttrs_list PySem.F.slot_list_append PySem.F.type_list_append mt_append (pv 3) (pa_cons (pv 9) pa_nil))))) pss_nil))))))))))
        (pss_one (ps_ret (pv 3))))), fun ds O Φ h => ?_⟩
  obtain ⟨PL, rows, c, o, rfl, hne, hPL, hrow, hnd, hco, ho2, hrl, fin⟩ := h
  repeat walk_at "g"
  refine ec_lstO (ac_nil ⟨by show 0 ≤ sizeLine; decide, fun f => ?_⟩)
  repeat walk_at "g"
  refine ec_nnew fun kn => ?_
  repeat walk_at "g"
  refine ⟨_, _, rfl, ?_⟩
  repeat walk_at "g"
  refine sc_for (ic_list (ec_var rfl ⟨_, rfl, fun m τ O' => ∃ (FR : List Key2) (x5 x6 x7 x8 x9 x10 : Option D), O' = (kn, oN P w kn (FR.map fun m => (sortQ m, V.bl true))) :: (f, oLst (FR.map rowKD)) :: O ∧ FR.length ≤ m * 127 ∧ (∀ q ∈ FR, q.map (·.1) = o ++ [c]) ∧ (∀ q, q ∈ FR ↔ q ∈ widerQ PL c (rows.take m)) ∧ τ = [some (.lst (PL.map planeD)), some (.lst (rows.map rowKD)), some (.int c), some (.adr f), some (.adr kn), x5, x6, x7, x8, x9, x10],
    ⟨[], _, _, _, _, _, _, rfl, Nat.zero_le _, fun q hq => absurd hq List.not_mem_nil, fun q => Iff.rfl, rfl⟩, fun _ _ _ _ => trivial, ?_, ?_⟩))
  · rintro m d τ O1 hd ⟨FR, x5, x6, x7, x8, x9, x10, rfl, hlen, hkeys, hmem, rfl⟩
    obtain ⟨row, hr, rfl⟩ := map_get hd
    refine ⟨_, _, gc_name, ?_⟩
    repeat walk_at "g"
    refine ec_lstO (ac_cons ?_)
    repeat walk_at "g"
    refine ⟨by show 1 ≤ sizeLine; decide, fun st => ?_⟩
    refine sc_seq (sc_for (ic_list (ec_var rfl ⟨_, rfl, fun i τ O' => ∃ x7 x8 x9 x10, O' = (st, oLst (((0 : Int) :: (PL.take i).flatMap (planeStop row c)).map D.int)) :: (kn, oN P w kn (FR.map fun m => (sortQ m, V.bl true))) :: (f, oLst (FR.map rowKD)) :: O ∧ τ = [some (.lst (PL.map planeD)), some (.lst (rows.map rowKD)), some (.int c), some (.adr f), some (.adr kn), some (rowKD row), some (.adr st), x7, x8, x9, x10],
      ⟨_, _, _, _, rfl, rfl⟩, fun _ _ _ _ => trivial, ?_, ?_⟩)))
    · rintro i d τ O1 hd ⟨x7, x8, x9, x10, rfl, rfl⟩
      obtain ⟨p, hp, rfl⟩ := map_get hd
      have hlt := (List.getElem?_eq_some_iff.mp hp).1
      have hacc : ((0 : Int) :: (PL.take i).flatMap (planeStop row c)).length ≤ 127 := by
        have h1 := flatMap_len (m := 1) (xs := PL.take i) (f := planeStop row c) fun p hp => planeStop_len fun i j d e => hne i j d (e ▸ List.mem_of_mem_take hp)
        have h2 : (PL.take i).length ≤ PL.length := by rw [List.length_take]; omega
        rw [List.length_cons]
        omega
      have step : ((0 : Int) :: (PL.take (i + 1)).flatMap (planeStop row c)) = ((0 : Int) :: (PL.take i).flatMap (planeStop row c)) ++ planeStop row c p := by
        rw [take_next hp, List.flatMap_append, List.cons_append, List.flatMap_cons, List.flatMap_nil, List.append_nil]
      have fin0 : ∀ es, planeStop row c p = es → ((0 : Int) :: (PL.take i).flatMap (planeStop row c)).map D.int ++ es.map D.int = ((0 : Int) :: (PL.take (i + 1)).flatMap (planeStop row c)).map D.int := fun es h => by rw [step, h, List.map_append]
      have fin1 : planeStop row c p = [] → ((0 : Int) :: (PL.take i).flatMap (planeStop row c)).map D.int = ((0 : Int) :: (PL.take (i + 1)).flatMap (planeStop row c)).map D.int := fun h => by rw [step, h, List.append_nil]
      have hz : (((0 : Int) :: (PL.take i).flatMap (planeStop row c)).map D.int).length < sizeLine := by
        rw [List.length_map]
        exact Nat.lt_of_lt_of_le (by omega : _ < 2000) (sz_ok (by omega))
      generalize ((0 : Int) :: (PL.take i).flatMap (planeStop row c)).map D.int = acc at fin0 fin1 hz ⊢
      refine ⟨_, _, gc_name, ?_⟩
      have hne' : ∀ i j d, p = .as_ i j d → i ≠ j := fun i j d e => hne i j d (e ▸ List.mem_of_getElem? hp)
      cases p with
      | at_ q n =>
        have h0 : atI ((encP (.at_ q n)).map kD) 0 = some (.str (Str.ofString "at")) := rfl
        have h1 : atI ((encP (.at_ q n)).map kD) 1 = some (.int (q : Int)) := rfl
        have h2 : atI ((encP (.at_ q n)).map kD) 2 = some (.int n) := rfl
        have na : decide (Str.ofString "at" = Str.ofString "as") = false := by decide
        repeat walk_at "g"
        refine rc_ixT h0 ?_
        repeat walk_at "g"
        refine rc_ixT h1 ?_
        repeat walk_at "g"
        by_cases e : (q : Int) = c
        · rw [decide_eq_true e]
          refine iteT (sc_drop (ec_app ?_))
          repeat walk_at "g"
          refine ⟨0, st, _, rfl, rfl, ?_⟩
          repeat walk_at "g"
          refine rc_ixT h2 (rc_i ⟨.inl ⟨by decide, by decide⟩, 0, _, rfl, hz, ?_⟩)
          repeat walk_at "g"
          refine rc_ixT h0 ?_
          repeat walk_at "g"
          refine rc_ixT h0 ?_
          repeat walk_at "g"
          refine ⟨_, _, _, _, ?_, rfl⟩
          rw [← fin0 [12 * n] (if_pos e)]
          rfl
        · rw [decide_eq_false e]
          refine iteF (sc_next ?_)
          repeat walk_at "g"
          refine rc_ixT h0 ?_
          repeat walk_at "g"
          refine rc_ixT h0 ?_
          repeat walk_at "g"
          refine ⟨_, _, _, _, ?_, rfl⟩
          rw [← fin1 (if_neg e)]
      | as_ q j d =>
        have ne := hne' q j d rfl
        have h0 : atI ((encP (.as_ q j d)).map kD) 0 = some (.str (Str.ofString "as")) := rfl
        have h1 : atI ((encP (.as_ q j d)).map kD) 1 = some (.int (q : Int)) := rfl
        have h2 : atI ((encP (.as_ q j d)).map kD) 2 = some (.int (j : Int)) := rfl
        have h3 : atI ((encP (.as_ q j d)).map kD) 3 = some (.int d) := rfl
        have na : decide (Str.ofString "as" = Str.ofString "at") = false := by decide
        have pS : planeStop row c (.as_ q j d) = (if (q : Int) = c then (match valG row (j : Int) with | some v => [v + 12 * d] | none => []) else []) ++ (if (j : Int) = c then (match valG row (q : Int) with | some v => [v - 12 * d] | none => []) else []) := rfl
        have vJ := valG_rowK row (j : Int)
        have vQ := valG_rowK row (q : Int)
        repeat walk_at "g"
        refine rc_ixT h0 ?_
        repeat walk_at "g"
        refine rc_ixT h0 ?_
        repeat walk_at "g"
        refine rc_ixT h1 ?_
        repeat walk_at "g"
        by_cases e : (q : Int) = c
        · rw [decide_eq_true e]
          rw [if_pos e, if_neg (by omega : ¬ (j : Int) = c), List.append_nil] at pS
          refine iteT ?_
          repeat walk_at "g"
          refine rc_ixT h2 ?_
          repeat walk_at "g"
          refine ⟨_, gt_K (k := .inl (j : Int)) rfl, _, rfl, ?_⟩
          rw [vJ]
          have third : ¬ (j : Int) = c := by omega
          cases hv : valG row (j : Int) with
          | none =>
            rw [hv] at pS
            refine iteF (sc_next ?_)
            repeat walk_at "g"
            refine rc_ixT h0 ?_
            repeat walk_at "g"
            refine rc_ixT h2 ?_
            repeat walk_at "g"
            rw [decide_eq_false third]
            refine iteF (iteF (sc_next ⟨_, _, _, _, ?_, rfl⟩))
            rw [← fin1 pS]
          | some v =>
            rw [hv] at pS
            have gJ : ∀ O, Gt (rowKD row) (.int (j : Int)) O (some (.int v)) := fun O => by
              have := gt_K (O := O) (kvs := rowK row) (k := .inl (j : Int)) (y := .int (j : Int)) rfl
              rw [vJ, hv] at this
              exact this
            refine iteT (sc_drop (ec_app ?_))
            repeat walk_at "g"
            refine ⟨0, st, _, rfl, rfl, ?_⟩
            repeat walk_at "g"
            refine rc_ixT h2 ⟨_, gJ _, ?_⟩
            repeat walk_at "g"
            refine rc_ixT h3 (rc_i ⟨.inl ⟨by decide, by decide⟩, rc_i0 ⟨0, _, rfl, hz, ?_⟩⟩)
            repeat walk_at "g"
            refine rc_ixT h0 ?_
            repeat walk_at "g"
            refine rc_ixT h2 ?_
            repeat walk_at "g"
            rw [decide_eq_false third]
            refine iteF (iteF (sc_next ⟨_, _, _, _, ?_, rfl⟩))
            rw [← fin0 _ pS]
            rfl
        · rw [decide_eq_false e]
          rw [if_neg e, List.nil_append] at pS
          refine iteF (iteF (sc_next ?_))
          repeat walk_at "g"
          refine rc_ixT h0 ?_
          repeat walk_at "g"
          refine rc_ixT h2 ?_
          repeat walk_at "g"
          by_cases e2 : (j : Int) = c
          · rw [decide_eq_true e2]
            rw [if_pos e2] at pS
            refine iteT ?_
            repeat walk_at "g"
            refine rc_ixT h1 ?_
            repeat walk_at "g"
            refine ⟨_, gt_K (k := .inl (q : Int)) rfl, _, rfl, ?_⟩
            rw [vQ]
            cases hv : valG row (q : Int) with
            | none =>
              rw [hv] at pS
              refine iteF (sc_next ⟨_, _, _, _, ?_, rfl⟩)
              rw [← fin1 pS]
            | some v =>
              rw [hv] at pS
              have gQ : ∀ O, Gt (rowKD row) (.int (q : Int)) O (some (.int v)) := fun O => by
                have := gt_K (O := O) (kvs := rowK row) (k := .inl (q : Int)) (y := .int (q : Int)) rfl
                rw [vQ, hv] at this
                exact this
              refine iteT (sc_drop (ec_app ?_))
              repeat walk_at "g"
              refine ⟨0, st, _, rfl, rfl, ?_⟩
              repeat walk_at "g"
              refine rc_ixT h1 ⟨_, gQ _, ?_⟩
              repeat walk_at "g"
              refine rc_ixT h3 (rc_i ⟨.inl ⟨by decide, by decide⟩, rc_i0 ⟨0, _, rfl, hz, ?_⟩⟩)
              refine ⟨_, _, _, _, ?_, rfl⟩
              rw [← fin0 _ pS]
              rfl
          · rw [decide_eq_false e2]
            rw [if_neg e2] at pS
            refine iteF (iteF (sc_next ⟨_, _, _, _, ?_, rfl⟩))
            rw [← fin1 pS]
    · rintro τ O1 ⟨x7, x8, x9, x10, rfl, rfl⟩
      rw [List.length_map, List.take_length]
      have hst : (stopsQ PL row c).length ≤ 127 := stopsQ_len hne hPL
      refine sc_fz (j := 0) (i := 6) rfl fz_L rfl ?_
      have est : (D.lst (((0 : Int) :: PL.flatMap (planeStop row c)).map D.int)) = .lst ((stopsQ PL row c).map D.int) := rfl
      rw [est]
      have hmr : row ∈ rows := List.mem_of_getElem? hr
      have hro := hrow row hmr
      have hml := (List.getElem?_eq_some_iff.mp hr).1
      have hrlen : row.length ≤ 2 := by
        have := congrArg List.length hro
        rw [List.length_map] at this
        omega
      have hcr : c ∉ row.map (·.1) := hro ▸ hco
      have hnd2 : (o ++ [c]).Nodup := by
        rw [List.nodup_append]
        refine ⟨hnd, List.nodup_cons.mpr ⟨List.not_mem_nil, List.nodup_nil⟩, fun a ha b hb e => ?_⟩
        rw [List.mem_singleton] at hb
        exact hco (hb ▸ e ▸ ha)
      clear est
      have hwid : widerQ PL c (rows.take (m + 1)) = widerQ PL c (rows.take m) ++ ((stopsQ PL row c).filter fun s => decide (0 ≤ s)).map fun s => row ++ [(c, s)] := by
        unfold widerQ
        rw [take_next hr, List.flatMap_append, List.flatMap_cons, List.flatMap_nil, List.append_nil]
      generalize stopsQ PL row c = S at hst hwid ⊢
      refine sc_for (ic_list (ec_var rfl ⟨_, rfl, fun i τ O' => ∃ (FR : List Key2) (x8 x9 x10 : Option D), O' = (kn, oN P w kn (FR.map fun m => (sortQ m, V.bl true))) :: (f, oLst (FR.map rowKD)) :: O ∧ FR.length ≤ m * 127 + i ∧ (∀ q ∈ FR, q.map (·.1) = o ++ [c]) ∧ (∀ q, q ∈ FR ↔ q ∈ widerQ PL c (rows.take m) ∨ q ∈ ((S.take i).filter fun s => decide (0 ≤ s)).map fun s => row ++ [(c, s)]) ∧ τ = [some (.lst (PL.map planeD)), some (.lst (rows.map rowKD)), some (.int c), some (.adr f), some (.adr kn), some (rowKD row), some (.lst (S.map D.int)), x7, x8, x9, x10],
        ⟨FR, _, _, _, rfl, hlen, hkeys, fun q => (hmem q).trans ⟨.inl, fun z => z.elim id fun z => absurd z (by simp)⟩, rfl⟩, fun _ _ _ _ => trivial, ?_, ?_⟩))
      · rintro i d τ O1 hd ⟨FR, x8, x9, x10, rfl, hlen, hkeys, hmem, rfl⟩
        obtain ⟨s, hs, rfl⟩ := map_get hd
        have hil := (List.getElem?_eq_some_iff.mp hs).1
        refine ⟨_, _, gc_name, ?_⟩
        repeat walk_at "g"
        refine bc_dictC (.inr fun mo => ?_)
        repeat walk_at "g"
        refine sc_dputK ?_
        repeat walk_at "g"
        have hz : (rowK row).length < sizeLine := by
          unfold rowK
          rw [List.length_map]
          exact Nat.lt_of_lt_of_le (by omega : _ < 2000) (sz_ok (by omega))
        refine ⟨0, mo, rowK row, .inl c, rfl, rfl, rfl, hz, ?_⟩
        rw [putG_rowK s hcr]
        have hkeyN : (row ++ [(c, s)]).map (·.1) = o ++ [c] := by
          rw [List.map_append, hro]
          rfl
        have hNlen : (row ++ [(c, s)]).length ≤ 3 := by
          rw [List.length_append]
          show _ + 1 ≤ 3
          omega
        have hstep : ((S.take (i + 1)).filter fun s => decide (0 ≤ s)).map (fun s => row ++ [(c, s)]) = ((S.take i).filter fun s => decide (0 ≤ s)).map (fun s => row ++ [(c, s)]) ++ (if 0 ≤ s then [row ++ [(c, s)]] else []) := by
          rw [take_next hs, List.filter_append, List.map_append]
          congr 1
          by_cases e : 0 ≤ s
          · simp only [e, decide_true, List.filter_cons, List.filter_nil, if_true, List.map_cons, List.map_nil]
          · simp only [e, decide_false, List.filter_cons, List.filter_nil, if_false, List.map_nil, Bool.false_eq_true]
        rw [hstep]
        generalize row ++ [(c, s)] = m2 at hkeyN hNlen ⊢
        refine sc_fz (j := 0) (i := 9) rfl fz_K rfl ?_
        repeat walk_at "g"
        refine ec_items (ec_var rfl ⟨rowK m2, rfl, ?_⟩)
        have eit : ((rowK m2).map fun kv => D.tup [kD kv.1, kv.2]) = m2.map ratD := by
          unfold rowK
          rw [List.map_map]
          rfl
        rw [eit]
        repeat walk_at "g"
        refine bc_sort (xs := m2) ratD pdq (fun q _ => .tup (.cons (.int _) (.cons (.int _) .nil))) (fun _ _ _ _ => rfl) (PySem.W.Sortable.tuples fun q => ⟨_, _, rfl⟩) (fun _ _ => by show 1 ≤ 8; decide) ?_
        have eso : (m2.mergeSort (PySem.W.dataLe false pdq)).map ratD = (sortQ m2).map ratD := rfl
        rw [eso]
        repeat walk_at "g"
        have stay : ∀ q, (q ∈ FR ↔ q ∈ widerQ PL c (rows.take m) ∨ q ∈ ((S.take i).filter fun s => decide (0 ≤ s)).map fun s => row ++ [(c, s)]) := hmem
        by_cases e : 0 ≤ s
        · rw [decide_eq_true e, if_pos e]
          refine iteT ?_
          repeat walk_at "g"
          refine ⟨0, kn, _, sortQ m2, rfl, rfl, rfl, _, rfl, ?_⟩
          rw [seenV fun x hx => sortQ_inj (hkeys x hx) hkeyN hnd2]
          by_cases hin : m2 ∈ FR
          · rw [decide_eq_true hin]
            refine iteF (sc_next ⟨FR, _, _, _, rfl, by omega, hkeys, fun q => ?_, rfl⟩)
            rw [hmem q, List.mem_append, List.mem_singleton]
            constructor
            · rintro (z | z)
              · exact .inl z
              · exact .inr (.inl z)
            · rintro (z | z | z)
              · exact .inl z
              · exact .inr z
              · exact (hmem q).mp (z ▸ hin)
          · rw [decide_eq_false hin]
            refine iteT (sc_seq (sc_nput ?_))
            repeat walk_at "g"
            have hz2 : (FR.map fun m => (sortQ m, V.bl true)).length < sizeLine := by
              rw [List.length_map]
              exact Nat.lt_of_lt_of_le (by omega : _ < 3000000) (sz_ok (by omega))
            refine ⟨0, kn, _, sortQ m2, V.bl true, fun B u h => by cases h; rfl, rfl, rfl, rfl, hz2, ?_⟩
            refine sc_drop (ec_app ?_)
            repeat walk_at "g"
            refine ⟨1, f, _, rfl, rfl, ?_⟩
            repeat walk_at "g"
            refine ⟨1, _, rfl, by rw [List.length_map] at hz2 ⊢; exact hz2, ?_⟩
            refine ⟨FR ++ [m2], _, _, _, ?_, by rw [List.length_append, List.length_singleton]; omega, fun q hq => ?_, fun q => ?_, rfl⟩
            · have vn : valG (FR.map fun m => (sortQ m, V.bl true)) (sortQ m2) = none := by
                have := seenV (FR := FR) (m := m2) fun x hx => sortQ_inj (hkeys x hx) hkeyN hnd2
                rw [decide_eq_false hin] at this
                exact Option.isNone_iff_eq_none.mp (by rw [← Option.not_isSome, this]; rfl)
              rw [putG_new _ vn, List.map_append, List.map_append]
              rfl
            · rcases List.mem_append.mp hq with z | z
              · exact hkeys q z
              · rw [List.mem_singleton.mp z]
                exact hkeyN
            · rw [List.mem_append, List.mem_singleton, hmem q, List.mem_append, List.mem_singleton, or_assoc]
        · rw [decide_eq_false e, if_neg e, List.append_nil]
          exact iteF (iteF (sc_next ⟨FR, _, _, _, rfl, by omega, hkeys, hmem, rfl⟩))
      · rw [List.length_map]
        rintro τ O1 ⟨FR, x8, x9, x10, rfl, hlen, hkeys, hmem, rfl⟩
        rw [List.take_length] at hmem
        refine ⟨FR, _, _, _, _, _, _, rfl, by rw [Nat.add_mul]; omega, hkeys, fun q => ?_, rfl⟩
        rw [hwid, List.mem_append]
        exact hmem q
  · rintro τ O1 ⟨FR, x5, x6, x7, x8, x9, x10, rfl, hlen, hkeys, hmem, rfl⟩
    rw [List.length_map, List.take_length] at hmem
    rw [List.length_map] at hlen
    refine sc_dropO (List.sublist_cons_self _ _) ?_
    refine sc_fz (j := 0) (i := 3) rfl fz_L rfl ?_
    repeat walk_at "g"
    exact fin FR hlen hmem
end Ab

/-! ## AbQ11 -/
set_option Elab.async false
set_option linter.all false
set_option maxRecDepth 100000
set_option maxHeartbeats 2000000
namespace Ab
open PySem L2
local macro_rules | `(tactic| walk_at "g") => `(tactic| first
  | with_reducible refine sc_seq ?_ | with_reducible refine sc_if ?_ | with_reducible refine sc_ret ?_ | with_reducible refine sc_asg ?_ | with_reducible refine sc_par ?_ | with_reducible refine sc_next ?_
  | ((with_reducible refine ec_var (d := ?dd) ?hv ?_); (case hv => exact rfl)) | with_reducible refine ec_int ?_ | with_reducible refine ec_bl ?_ | with_reducible refine ec_str ?_ | with_reducible refine ec_ty ?_ | with_reducible refine ec_non ?_
  | with_reducible refine ec_op ?_ | with_reducible refine ec_call ?_ | with_reducible refine ec_un ?_ | with_reducible refine ec_cb ?_ | with_reducible refine ec_if ?_ | with_reducible refine ec_andV ?_ | with_reducible refine ec_orV ?_ | with_reducible refine ec_notV ?_
  | with_reducible refine ac_cons ?_ | with_reducible refine ac_nil ?_ | (with_reducible refine ec_tup (ac_cons ?_)) | with_reducible refine ec_tup ?_
  | with_reducible refine tc_test ?_ | with_reducible refine tc_B ?_ | with_reducible refine tc_and ?_ | with_reducible refine tc_or ?_ | with_reducible refine tc_not ?_ | with_reducible refine tc_yes ?_
  | with_reducible refine rc_i0 ?_ | with_reducible refine rc_b0 ?_ | with_reducible refine rc_eqI ?_ | with_reducible refine rc_neI ?_ | with_reducible refine rc_eqS ?_ | with_reducible refine uc_neg ?_
  | with_reducible refine bc_int ?_ | with_reducible refine bc_abs ?_ | with_reducible refine bc_lenL ?_ | with_reducible refine bc_lenT ?_ | with_reducible refine bc_tupL ?_ | with_reducible refine bc_tupT ?_
  | with_reducible refine ec_chain ?_ | with_reducible refine ec_dget ?_ | with_reducible refine ec_dget2 ?_ | with_reducible refine ec_din ?_ | with_reducible refine ec_nget ?_ | with_reducible refine ec_nget2 ?_ | with_reducible refine ec_nnotin ?_ | with_reducible refine ec_app ?_ | with_reducible refine sc_nput ?_ | with_reducible refine sc_drop ?_ | with_reducible refine ec_setd ?_ | with_reducible refine ec_make ?_ | with_reducible refine ec_disp ?_ | with_reducible refine pc_cons ?_ | with_reducible refine pc_nil ?_ | with_reducible refine gc_sub ?_ | with_reducible refine sc_asgG ?_
  | with_reducible refine ⟨_, rfl, ?_⟩ | refine iteT ?_ | refine iteF ?_ | dsimp only )

theorem widerQ_mem {PL : List Plane} {c : Int} {a b : List Key2} (h : ∀ m, m ∈ a ↔ m ∈ b) (m : Key2) : m ∈ widerQ PL c a ↔ m ∈ widerQ PL c b := by
  unfold widerQ
  rw [List.mem_flatMap, List.mem_flatMap]
  exact ⟨fun ⟨r, hr, z⟩ => ⟨r, (h r).mp hr, z⟩, fun ⟨r, hr, z⟩ => ⟨r, (h r).mpr hr, z⟩⟩
theorem widerQ_keys {PL : List Plane} {c : Int} {rows : List Key2} {o : List Int} (h : ∀ row ∈ rows, row.map (·.1) = o) : ∀ row ∈ widerQ PL c rows, row.map (·.1) = o ++ [c] := fun row hr => by
  obtain ⟨r, h1, z⟩ := List.mem_flatMap.mp hr
  obtain ⟨s, _, rfl⟩ := List.mem_map.mp z
  rw [List.map_append, h r h1]
  rfl
def knownQ (PL : List Plane) (order : List Int) : List Key2 := order.foldl (fun rows c => widerQ PL c rows) [[]]
theorem knownQ_snoc (PL : List Plane) (o : List Int) (c : Int) : knownQ PL (o ++ [c]) = widerQ PL c (knownQ PL o) := by
  unfold knownQ
  rw [List.foldl_append]
  rfl
def priceQ (k : Nat) (row : Key2) : List Int := (List.range k).map fun (i : Nat) => (valG row (i : Int)).getD 0
def CornerQ (PL : List Plane) (k : Nat) (orders : List (List Int)) (p : List Int) : Prop := ∃ o ∈ orders, ∃ row ∈ knownQ PL o, p = priceQ k row
theorem orders3_ok : ∀ k : Nat, k ≤ 3 → ∀ o ∈ orders3 k, o.length = k ∧ o.Nodup ∧ (∀ i : Nat, i < k → (i : Int) ∈ o) ∧ ∀ c ∈ o, 0 ≤ c ∧ c < (k : Int) := fun k h => by
  rcases (by omega : k = 0 ∨ k = 1 ∨ k = 2 ∨ k = 3) with rfl | rfl | rfl | rfl <;> decide +kernel
theorem orders3_is : orders3 1 = [[0]] ∧ orders3 2 = [[0, 1], [1, 0]] ∧ orders3 3 = [[0, 1, 2], [0, 2, 1], [1, 0, 2], [1, 2, 0], [2, 0, 1], [2, 1, 0]] := by decide +kernel
def ordT : List (L2.Key × D) := [(.inl 1, .lst [intsD [0]]), (.inl 2, .lst [intsD [0, 1], intsD [1, 0]]), (.inl 3, .lst [intsD [0, 1, 2], intsD [0, 2, 1], intsD [1, 0, 2], intsD [1, 2, 0], intsD [2, 0, 1], intsD [2, 1, 0]])]
theorem valG_ordT {k : Nat} (h1 : 1 ≤ k) (h3 : k ≤ 3) : valG ordT (.inl (k : Int)) = some (.lst ((orders3 k).map intsD)) := by
  obtain ⟨e1, e2, e3⟩ := orders3_is
  rcases (by omega : k = 1 ∨ k = 2 ∨ k = 3) with rfl | rfl | rfl
  · rw [e1]
    rfl
  · rw [e2]
    rfl
  · rw [e3]
    rfl
def W__law_corners (ds : List D) (O : Ow) (Φ : Cd) : Prop := ∃ (k : Nat) (s : Int) (L : List WRow), ds = [bidD k s L] ∧ (1 ≤ k ∧ k ≤ 3) ∧ L.length ≤ 14 ∧ (∀ r ∈ L, r.2.length = k) ∧ ∀ (PL : List Plane) (ps : List (List Int)), (∀ p, p ∈ PL ↔ PlaneOf L p) → (∀ p, p ∈ ps ↔ CornerQ PL k (orders3 k) p) → ps.length ≤ 12300000 → Φ (.lst (ps.map prD)) O
theorem sc__law_corners : FnScope ["_law_bids", "_law_kinds", "_law_planes_here", "_law_found", "_law_orders", "_law_order", "_law_rows", "_law_kind", "_law_row"] ["_law_bids"] (defScope s__law_corners) := ⟨rfl, rfl, rfl, by decide +kernel, rfl, by decide +kernel, by decide +kernel⟩
theorem kn__law_corners {P : Program} {w : World} {K : PySem.W.Frag} {mg : Str → Option Value} {base : Heap} (T : Txt K mg) : Kn P w K mg base "_law_corners" 2 ["_law_bids"] (spW (W__law_corners)) := by
  have S := sc__law_corners
  have k__law_planes := kn__law_planes (P := P) (w := w) (base := base) T
  have k__law_wider := kn__law_wider (P := P) (w := w) (base := base) T
  refine kn_mk T.d__law_corners T.g__law_corners S (fun _ _ _ _ _ _ us hl => match us, hl with | [_], _ => rfl) (fun ds O Φ h => ?_) (fun cdv A outer s H E hr => ?_)
  · obtain ⟨k, s0, L, rfl, ⟨k1, k3⟩, hl, hL, fin⟩ := h
    rfl
  have hu := hu_of hr
  have hu64 := hr.units
  have hu9 := hu9_of hr
  refine ⟨_, (pss_cons (ps_par3 (i := 1) (j := 2) (l := 3) rfl S.nd rfl rfl rfl (by decide) (by decide) (by decide) rfl rfl rfl (pa_cons (pe_dget hu (pv 0) pe_str (fun _ _ => rfl)) (pa_cons (pe_kn k__law_planes hr (by decide) (pa_cons (pv 0) pa_nil)) (pa_cons pe_dnewT pa_nil))) (by rfl))
        (pss_cons (ps_set (i := 4) S.nd rfl (Or.inl rfl) (pe_disp (pps_cons pe_int (pe_lst (pa_cons (pe_lst (pa_cons pe_int pa_nil)) pa_nil)) (pps_cons pe_int (pe_lst (pa_cons (pe_lst (pa_cons pe_int (pa_cons pe_int pa_nil))) (pa_cons (pe_lst (pa_cons pe_int (pa_cons pe_int pa_nil))) pa_nil))) (pps_cons pe_int (pe_lst (pa_cons (pe_lst (pa_cons pe_int (pa_cons pe_int (pa_cons pe_int pa_nil)))) (pa_cons (pe_lst (pa_cons pe_int (pa_cons pe_int (pa_cons pe_int pa_nil)))) (pa_cons (pe_lst (pa_cons pe_int (pa_cons pe_int (pa_cons pe_int pa_nil)))) (pa_cons (pe_lst (pa_cons pe_int (pa_cons pe_int (pa_cons pe_int pa_nil)))) (pa_cons (pe_lst (pa_cons pe_int (pa_cons pe_int (pa_cons pe_int pa_nil)))) (pa_cons (pe_lst (pa_cons pe_int (pa_cons pe_int (pa_cons pe_int pa_nil)))) pa_nil))))))) pps_nil))) (by rfl) (by rfl) (fun z => by cases z) (by decide)))
        (pss_cons (ps_for PassesOwn.never rfl (pi_listK (K := K) rfl (pe_dget hu (pv 4) (pv 1) (fun _ _ => rfl))) (pg_name (i := 5) S.nd rfl (Or.inl rfl)) (pss_cons (ps_set (i := 6) S.nd rfl (Or.inl rfl) (pe_lst (pa_cons pe_dnewK pa_nil)))
        (pss_cons (ps_for PassesOwn.never rfl (pi_listK (K := K) rfl (pv 5)) (pg_name (i := 7) S.nd rfl (Or.inl rfl)) (pss_one (ps_set (i := 6) S.nd rfl (Or.inl rfl) (pe_kn k__law_wider hr (by decide) (pa_cons (pv 2) (pa_cons (pv 6) (pa_cons (pv 7) pa_nil)))))))
        (pss_one (ps_for PassesOwn.never rfl (pi_listK (K := K) rfl (pv 6)) (pg_name (i := 8) S.nd rfl (Or.inr rfl)) (pss_one (ps_dput hu (pv 3) (pe_callTy (call_tupK (K := K) rfl) (by rfl) T.f_tuple (by decide +kernel) (pa_cons (pe_lc (own := [("_law_kind", 7)]) rfl S.nd (pi_range1 (by rfl) T.f_range (pa_cons (pv 1) pa_nil)) (blkOk_by (own := [("_law_kind", 7)]) (by kernel_rfl)) (fun _ _ _ _ _ => (pg_name (i := 7) S.nd rfl (by first | exact Or.inl rfl | exact Or.inr rfl))) (fun _ _ _ _ _ => pts_nil) (fun _ _ _ _ _ => (pe_dget hu (pv 8) (pv 7) (fun _ _ => rfl)))) pa_nil)) pe_bl rfl)))))))
        (pss_one (ps_ret (pe_callTy (call_listT rfl) (by rfl) T.f_list (by decide +kernel) (pa_cons (pv 3) pa_nil))))))), fun ds O Φ h => ?_⟩
  obtain ⟨k, s0, L, rfl, ⟨k1, k3⟩, hl, hL, fin⟩ := h
  refine sc_seq (sc_par3 ?_)
  repeat walk_at "g"
  refine ⟨_, gt_kinds, ?_⟩
  repeat walk_at "g"
  refine ⟨k, s0, L, rfl, ⟨k1, k3⟩, hl, hL, fun PL hPL hP => ?_⟩
  repeat walk_at "g"
  refine ec_dnewT fun f => ?_
  repeat walk_at "g"
  refine ⟨_, _, _, rfl, sc_seq (sc_asg (ec_disp ?_))⟩
  repeat (first | with_reducible refine ec_lst ?_ | refine ⟨sz_ok (by decide), ?_⟩ | walk_at "g")
  refine ⟨ordT, rfl, by decide, by decide, .inl ?_⟩
  repeat walk_at "g"
  have hne : Ne_ PL := fun i j d h => by
    obtain ⟨r, _, z⟩ := (hP _).mp h
    have := z.1
    omega
  have gO : ∀ O, Gt (.dK ordT) (.int (k : Int)) O (some (.lst ((orders3 k).map intsD))) := fun O => by
    have := gt_K (O := O) (kvs := ordT) (k := .inl (k : Int)) (y := .int (k : Int)) rfl
    rw [valG_ordT k1 k3] at this
    exact this
  have ord_ok := orders3_ok k k3
  have ord_len := orders3_len k k3
  refine sc_for (ic_list (ec_dget (ec_var rfl (ec_var rfl ⟨_, gO _, _, rfl, fun i τ O' => ∃ (ps : List (List Int)) (x5 x6 x7 x8 : Option D), O' = (f, oT (ps.map kp)) :: O ∧ (∀ p, p ∈ ps ↔ CornerQ PL k ((orders3 k).take i) p) ∧ ps.length ≤ i * 2048383 ∧ τ = [some (bidD k s0 L), some (.int k), some (.lst (PL.map planeD)), some (.adr f), some (.dK ordT), x5, x6, x7, x8],
    ⟨[], _, _, _, _, rfl, fun p => ⟨fun h => absurd h List.not_mem_nil, fun ⟨o, ho, _⟩ => absurd ho (by simp)⟩, Nat.le_refl _, rfl⟩, fun _ _ _ _ => trivial, ?_, ?_⟩))))
  · rintro i x τ O1 hx ⟨ps, x5, x6, x7, x8, rfl, hps, hlen, rfl⟩
    obtain ⟨order, hord, rfl⟩ := map_get hx
    obtain ⟨ho1, ho2, ho3, ho4⟩ := ord_ok order (List.mem_of_getElem? hord)
    have hi6 := (List.getElem?_eq_some_iff.mp hord).1
    refine ⟨_, _, gc_name, ?_⟩
    repeat walk_at "g"
    refine ec_lst (ac_cons (ec_dnewK (.inl (ac_nil ⟨sz_ok (by show 1 ≤ _; decide), ?_⟩))))
    repeat walk_at "g"
    refine sc_for (ic_list (ec_var rfl ⟨_, rfl, fun j τ O' => ∃ (R : List Key2) (x7 : Option D), O' = (f, oT (ps.map kp)) :: O ∧ (∀ m, m ∈ R ↔ m ∈ knownQ PL (order.take j)) ∧ (∀ m ∈ R, m.map (·.1) = order.take j) ∧ R.length ≤ 127 ^ j ∧ τ = [some (bidD k s0 L), some (.int k), some (.lst (PL.map planeD)), some (.adr f), some (.dK ordT), some (intsD order), some (.lst (R.map rowKD)), x7, x8],
      ⟨[[]], _, rfl, fun m => Iff.rfl, fun m hm => by rw [List.mem_singleton.mp hm]; rfl, Nat.le_refl _, rfl⟩, fun _ _ _ _ => trivial, ?_, ?_⟩))
    · rintro j x τ O1 hx ⟨R, x7, rfl, hR, hRk, hRl, rfl⟩
      obtain ⟨c, hc, rfl⟩ := map_get hx
      have hjl := (List.getElem?_eq_some_iff.mp hc).1
      refine ⟨_, _, gc_name, ?_⟩
      repeat walk_at "g"
      have hsp : order.take (j + 1) = order.take j ++ [c] := take_next hc
      have hnd : (order.take j ++ [c]).Nodup := hsp ▸ (List.take_sublist _ _).nodup ho2
      have hcn : c ∉ order.take j := fun z => (List.nodup_append.mp hnd).2.2 c z c List.mem_cons_self rfl
      have hpow : 127 ^ j ≤ 127 ^ 2 := Nat.pow_le_pow_right (by decide) (by omega)
      refine ⟨PL, R, c, order.take j, rfl, hne, hPL, hRk, (List.take_sublist _ _).nodup ho2, hcn, by rw [List.length_take]; omega, by omega, fun FR hl hm => ?_⟩
      repeat walk_at "g"
      refine ⟨FR, _, rfl, fun m => ?_, fun m hmm => ?_, ?_, rfl⟩
      · rw [hm m, hsp, knownQ_snoc]
        exact widerQ_mem hR m
      · rw [hsp]
        exact widerQ_keys hRk m ((hm m).mp hmm)
      · rw [Nat.pow_succ]
        exact Nat.le_trans hl (Nat.mul_le_mul_right _ hRl)
    · rw [List.length_map]
      rintro τ O1 ⟨R, x7, rfl, hR, hRk, hRl, rfl⟩
      rw [List.take_length] at hR hRk
      have hpow : 127 ^ order.length ≤ 127 ^ 3 := Nat.pow_le_pow_right (by decide) (by omega)
      have etake : ∀ p, CornerQ PL k ((orders3 k).take (i + 1)) p ↔ CornerQ PL k ((orders3 k).take i) p ∨ ∃ row ∈ R, p = priceQ k row := fun p => by
        unfold CornerQ
        rw [take_next hord]
        constructor
        · rintro ⟨o, ho, row, h1, h2⟩
          rcases List.mem_append.mp ho with ho | ho
          · exact .inl ⟨o, ho, row, h1, h2⟩
          · rw [List.mem_singleton.mp ho] at h1
            exact .inr ⟨row, (hR row).mpr h1, h2⟩
        · rintro (⟨o, ho, h⟩ | ⟨row, h1, h2⟩)
          · exact ⟨o, List.mem_append.mpr (.inl ho), h⟩
          · exact ⟨order, List.mem_append.mpr (.inr (List.mem_singleton.mpr rfl)), row, (hR row).mp h1, h2⟩
      refine sc_for (ic_list (ec_var rfl ⟨_, rfl, fun m τ O' => ∃ (ps : List (List Int)) (x7 x8 : Option D), O' = (f, oT (ps.map kp)) :: O ∧ (∀ p, p ∈ ps ↔ CornerQ PL k ((orders3 k).take i) p ∨ ∃ row ∈ R.take m, p = priceQ k row) ∧ ps.length ≤ i * 2048383 + m ∧ τ = [some (bidD k s0 L), some (.int k), some (.lst (PL.map planeD)), some (.adr f), some (.dK ordT), some (intsD order), some (.lst (R.map rowKD)), x7, x8],
        ⟨ps, _, _, rfl, fun p => (hps p).trans ⟨.inl, fun z => z.elim id fun ⟨_, h, _⟩ => absurd h (by simp)⟩, Nat.le_add_right_of_le hlen, rfl⟩, fun _ _ _ _ => trivial, ?_, ?_⟩))
      · rintro m x τ O1 hx ⟨ps, x7, x8, rfl, hps, hlen, rfl⟩
        obtain ⟨row, hm, rfl⟩ := map_get hx
        have hml := (List.getElem?_eq_some_iff.mp hm).1
        have hrk := hRk row (List.mem_of_getElem? hm)
        refine ⟨_, _, gc_name, sc_dputT ?_⟩
        repeat walk_at "g"
        refine ec_lcp (List.range k) (fun i => .int (0 + (i : Int))) (fun _ => true) (fun i => .int ((valG row (i : Int)).getD 0)) (ic_rng1 (ac_cons (ec_var rfl (ac_nil ⟨(k : Int), rfl, by omega, by omega, by rw [Int.toNat_natCast]; rfl, rfl, trivial⟩)))) (sz_ok (by rw [List.length_range]; omega)) (fun q hq => ?_) (.inl ?_)
        · have hqk := List.mem_range.mp hq
          refine ⟨_, _, ?_, gc_name, tc_yes ⟨rfl, rfl, fun _ => ?_⟩⟩
          · decide
          rw [Int.zero_add]
          repeat walk_at "g"
          have hin : (q : Int) ∈ row.map (·.1) := hrk ▸ ho3 q hqk
          have gR : ∀ O, Gt (rowKD row) (.int (q : Int)) O (some (.int ((valG row (q : Int)).getD 0))) := fun O => by
            have := gt_K (O := O) (kvs := rowK row) (k := .inl (q : Int)) (y := .int (q : Int)) rfl
            rw [valG_rowK] at this
            cases hv : valG row (q : Int) with
            | none =>
              obtain ⟨u, hu, he⟩ := List.mem_map.mp hin
              exact absurd he (valG_none.mp hv u hu)
            | some v =>
              rw [hv] at this
              exact this
          exact ⟨_, gR _, rfl, rfl⟩
        have es : ((List.range k).filter fun _ => true).map (fun (q : Nat) => D.int ((valG row (q : Int)).getD 0)) = (priceQ k row).map D.int := by
          rw [filter_yes]
          unfold priceQ
          rw [List.map_map]
          rfl
        rw [es]
        repeat walk_at "g"
        refine ⟨0, f, ps.map kp, (priceQ k row).map Sum.inl, rfl, ?_, rfl, ?_, ?_⟩
        · unfold ksD
          rw [List.map_map]
          rfl
        · rw [List.length_map]
          have : i * 2048383 ≤ 5 * 2048383 := Nat.mul_le_mul_right _ (by omega)
          exact Nat.lt_of_lt_of_le (by omega : _ < 13000000) (sz_ok (by omega))
        rw [putG_kp]
        refine ⟨insP ps (priceQ k row), _, _, rfl, fun p => ?_, by have := insP_len ps (priceQ k row); omega, rfl⟩
        rw [mem_insP, hps p, take_next hm]
        constructor
        · rintro (e | e | ⟨r, hr, e⟩)
          · exact .inr ⟨row, List.mem_append.mpr (.inr (List.mem_singleton.mpr rfl)), e⟩
          · exact .inl e
          · exact .inr ⟨r, List.mem_append.mpr (.inl hr), e⟩
        · rintro (e | ⟨r, hr, e⟩)
          · exact .inr (.inl e)
          · rcases List.mem_append.mp hr with hr | hr
            · exact .inr (.inr ⟨r, hr, e⟩)
            · rw [List.mem_singleton.mp hr] at e
              exact .inl e
      · rw [List.length_map]
        rintro τ O1 ⟨ps, x7, x8, rfl, hps, hlen, rfl⟩
        rw [List.take_length] at hps
        exact ⟨ps, _, _, _, _, rfl, fun p => (hps p).trans (etake p).symm, by omega, rfl⟩
  · rw [List.length_map]
    rintro τ O1 ⟨ps, x5, x6, x7, x8, rfl, hps, hlen, rfl⟩
    rw [List.take_length] at hps
    have : (orders3 k).length * 2048383 ≤ 6 * 2048383 := Nat.mul_le_mul_right _ ord_len
    refine sc_fz (j := 0) (i := 3) rfl fz_T rfl ?_
    repeat walk_at "g"
    refine bc_listdT (.inl ?_)
    rw [List.map_map]
    have e : ps.map ((fun kv => ksD kv.1) ∘ kp) = ps.map prD := List.map_congr_left fun p _ => by
      show D.tup ((p.map Sum.inl).map kD) = D.tup (p.map D.int)
      rw [List.map_map]
      rfl
    rw [e]
    exact fin PL ps hP hps (by omega)
end Ab

/-! ## AbQ12 -/
set_option Elab.async false
set_option linter.all false
set_option maxRecDepth 100000
set_option maxHeartbeats 2000000
namespace Ab
open PySem L2
local macro_rules | `(tactic| walk_at "g") => `(tactic| first
  | with_reducible refine sc_seq ?_ | with_reducible refine sc_if ?_ | with_reducible refine sc_ret ?_ | with_reducible refine sc_asg ?_ | with_reducible refine sc_par ?_ | with_reducible refine sc_next ?_
  | ((with_reducible refine ec_var (d := ?dd) ?hv ?_); (case hv => exact rfl)) | with_reducible refine ec_int ?_ | with_reducible refine ec_bl ?_ | with_reducible refine ec_str ?_ | with_reducible refine ec_ty ?_ | with_reducible refine ec_non ?_
  | with_reducible refine ec_op ?_ | with_reducible refine ec_call ?_ | with_reducible refine ec_un ?_ | with_reducible refine ec_cb ?_ | with_reducible refine ec_if ?_ | with_reducible refine ec_andV ?_ | with_reducible refine ec_orV ?_ | with_reducible refine ec_notV ?_
  | with_reducible refine ac_cons ?_ | with_reducible refine ac_nil ?_ | (with_reducible refine ec_tup (ac_cons ?_)) | with_reducible refine ec_tup ?_
  | with_reducible refine tc_test ?_ | with_reducible refine tc_B ?_ | with_reducible refine tc_and ?_ | with_reducible refine tc_or ?_ | with_reducible refine tc_not ?_ | with_reducible refine tc_yes ?_
  | with_reducible refine rc_i0 ?_ | with_reducible refine rc_b0 ?_ | with_reducible refine rc_eqI ?_ | with_reducible refine rc_neI ?_ | with_reducible refine rc_eqS ?_ | with_reducible refine uc_neg ?_
  | with_reducible refine bc_int ?_ | with_reducible refine bc_abs ?_ | with_reducible refine bc_lenL ?_ | with_reducible refine bc_lenT ?_ | with_reducible refine bc_tupL ?_ | with_reducible refine bc_tupT ?_
  | with_reducible refine ec_chain ?_ | with_reducible refine ec_dget ?_ | with_reducible refine ec_dget2 ?_ | with_reducible refine ec_din ?_ | with_reducible refine ec_nget ?_ | with_reducible refine ec_nget2 ?_ | with_reducible refine ec_nnotin ?_ | with_reducible refine ec_app ?_ | with_reducible refine sc_nput ?_ | with_reducible refine sc_drop ?_ | with_reducible refine ec_setd ?_ | with_reducible refine ec_make ?_ | with_reducible refine ec_disp ?_ | with_reducible refine pc_cons ?_ | with_reducible refine pc_nil ?_ | with_reducible refine gc_sub ?_ | with_reducible refine sc_asgG ?_
  | with_reducible refine ⟨_, rfl, ?_⟩ | refine iteT ?_ | refine iteF ?_ | dsimp only )

section
variable {τ : Tau} {O : Ow} {Φ : Cd} {wi : TI} {g : TG} {tt : TT} {te : TE}
/-- a comprehension that maps and filters, what it goes through told by its source -/
theorem ec_lcx {vs : List Nat} {α : Type} (enc : α → D) (b : α → Bool) (e : α → D) (hI : Ic wi τ O fun ds need O1 => ∃ xs : List α, ds = xs.map enc ∧ O1 = O ∧ need O ∧ xs.length ≤ sizeLine ∧
    (∀ x ∈ xs, ∃ js τ2, (∀ j ∈ js, j ∈ vs) ∧ Gc g js (enc x) (wipeT τ vs) τ2 ∧ Tc tt τ2 O fun c O' => O' = O ∧ c = b x ∧ (c = true → Ec te τ2 O fun y O' => y = e x ∧ O' = O)) ∧
    (Φ (.lst ((xs.filter b).map e)) O ∨ ∀ p, Φ (.adr p) ((p, oLst ((xs.filter b).map e)) :: O))) : Ec (tLc wi g tt te vs) τ O Φ := by
  refine ec_lc fun σ B C s o R f => hI σ B C s o R fun J ds need B' C' O' ⟨xs, h1, h2, h3, hz, hs, hΦ⟩ l w => f J ds need B' C' O' ?_ l w
  subst h1 h2
  refine ⟨by rw [List.length_map]; exact hz, fun i acc O2 => O2 = O' ∧ acc = (((xs.take i).filter b).map e), ⟨rfl, rfl⟩, ?_, ?_, ?_⟩
  · rintro i acc O2 ⟨rfl, rfl⟩
    refine ⟨h3, ?_⟩
    rw [List.length_map]
    exact Nat.le_trans (List.length_filter_le _ _) (by rw [List.length_take]; exact Nat.min_le_left _ _)
  · rintro i d acc O2 hd ⟨rfl, rfl⟩
    rw [List.getElem?_map] at hd
    cases hx : xs[i]? with
    | none => rw [hx] at hd; cases hd
    | some x =>
      rw [hx] at hd
      obtain rfl := Option.some.inj hd
      obtain ⟨js, τ2, hj, hg, ht⟩ := hs x (List.mem_of_getElem? hx)
      refine ⟨js, τ2, hj, hg, ht.imp fun c O3 ⟨e1, e2, e3⟩ => ?_⟩
      subst e1
      have tk : xs.take (i + 1) = xs.take i ++ [x] := by rw [List.take_add_one, hx]; rfl
      cases c with
      | true =>
        show Ec te τ2 O3 _
        refine (e3 rfl).imp fun y O4 ⟨a1, a2⟩ => ⟨a2, ?_⟩
        rw [tk, List.filter_append, List.map_append, a1]
        congr 1
        rw [List.filter_cons, ← e2]
        rfl
      | false =>
        show _ ∧ _
        refine ⟨rfl, ?_⟩
        rw [tk, List.filter_append, List.map_append, List.filter_cons, ← e2]
        simp
  · rintro acc O2 ⟨rfl, rfl⟩
    rw [List.length_map, List.take_length]
    exact hΦ
end
theorem widerQ_nn {PL : List Plane} {c : Int} {rows : List Key2} (h : ∀ row ∈ rows, ∀ q ∈ row, 0 ≤ q.2) : ∀ row ∈ widerQ PL c rows, ∀ q ∈ row, 0 ≤ q.2 := fun row hr q hq => by
  obtain ⟨r, h1, z⟩ := List.mem_flatMap.mp hr
  obtain ⟨s, hs, rfl⟩ := List.mem_map.mp z
  rcases List.mem_append.mp hq with y | y
  · exact h r h1 q y
  · rw [List.mem_singleton.mp y]
    exact of_decide_eq_true (List.mem_filter.mp hs).2
theorem knownQ_nn (PL : List Plane) : ∀ (m : Nat) (o : List Int), o.length = m → ∀ row ∈ knownQ PL o, ∀ q ∈ row, 0 ≤ q.2
  | 0, o, h => by
    rw [List.length_eq_zero_iff.mp h]
    intro row hr
    rw [List.mem_singleton.mp hr]
    exact fun q hq => absurd hq List.not_mem_nil
  | m + 1, o, h => by
    obtain ⟨p, c, rfl⟩ : ∃ p c, o = p ++ [c] := ⟨o.dropLast, o.getLast (fun e => by rw [e] at h; cases h), (List.dropLast_concat_getLast _).symm⟩
    rw [List.length_append, List.length_singleton] at h
    rw [knownQ_snoc]
    exact widerQ_nn (knownQ_nn PL m p (by omega))
theorem CornerQ.nn {PL : List Plane} {k : Nat} {os : List (List Int)} {p : List Int} (h : CornerQ PL k os p) : p.length = k ∧ ∀ x ∈ p, 0 ≤ x := by
  obtain ⟨o, _, row, hr, rfl⟩ := h
  refine ⟨by unfold priceQ; rw [List.length_map, List.length_range], fun x hx => ?_⟩
  obtain ⟨i, _, rfl⟩ := List.mem_map.mp hx
  cases hv : valG row (i : Int) with
  | none => exact Int.le_refl _
  | some v => exact knownQ_nn PL _ o rfl row hr (i, v) (valG_mem hv)
def W__law_highest (ds : List D) (O : Ow) (Φ : Cd) : Prop := ∃ (k : Nat) (s : Int) (L : List WRow), ds = [bidD k s L] ∧ (1 ≤ k ∧ k ≤ 3) ∧ L.length ≤ 14 ∧ (∀ r ∈ L, r.2.length = k ∧ ∀ x ∈ r.2, x ≤ 1000) ∧ ∀ (PL : List Plane) (ps : List (List Int)), (∀ p, p ∈ PL ↔ PlaneOf L p) → (∀ p, p ∈ ps ↔ CornerQ PL k (orders3 k) p) → Φ (.int (maxI (0 :: ps.map fun p => gainL L p))) O
theorem sc__law_highest : FnScope ["_law_bids", "_law_corner"] ["_law_bids"] (defScope s__law_highest) := ⟨rfl, rfl, rfl, by decide +kernel, rfl, by decide +kernel, by decide +kernel⟩
theorem kn__law_highest {P : Program} {w : World} {K : PySem.W.Frag} {mg : Str → Option Value} {base : Heap} (T : Txt K mg) : Kn P w K mg base "_law_highest" 3 ["_law_bids"] (spW (W__law_highest)) := by
  have S := sc__law_highest
  have k__law_gain := kn__law_gain (P := P) (w := w) (base := base) T
  have k__law_corners := kn__law_corners (P := P) (w := w) (base := base) T
  refine kn_mk T.d__law_highest T.g__law_highest S (fun _ _ _ _ _ _ us hl => match us, hl with | [_], _ => rfl) (fun ds O Φ h => ?_) (fun cdv A outer s H E hr => ?_)
  · obtain ⟨k, s0, L, rfl, ⟨k1, k3⟩, hl, hL, fin⟩ := h
    rfl
  have hu := hu_of hr
  have hu64 := hr.units
  have hu9 := hu9_of hr
  refine ⟨_, (pss_one (ps_ret (pe_callB (cr_maxK (K := K) rfl rfl) (by rfl) T.f_max (by decide +kernel) (pa_cons (pe_op op_cat (pe_lst (pa_cons pe_int pa_nil)) (pe_lc (own := [("_law_corner", 1)]) rfl S.nd (pi_listK (K := K) rfl (pe_kn k__law_corners hr (by decide) (pa_cons (pv 0) pa_nil))) (blkOk_by (own := [("_law_corner", 1)]) (by kernel_rfl)) (fun _ _ _ _ _ => (pg_name (i := 1) S.nd rfl (by first | exact Or.inl rfl | exact Or.inr rfl))) (fun _ _ _ _ _ => pts_nil) (fun _ _ _ _ _ => (pe_kn k__law_gain hr (by decide) (pa_cons (pv 0) (pa_cons (pv 1) pa_nil)))))) pa_nil)))), fun ds O Φ h => ?_⟩
  obtain ⟨k, s0, L, rfl, ⟨k1, k3⟩, hl, hL, fin⟩ := h
  repeat walk_at "g"
  refine ec_lst (ac_cons ?_)
  repeat walk_at "g"
  refine ⟨sz_ok (by show 1 ≤ _; decide), ?_⟩
  refine ec_lcx prD (fun _ => true) (fun p => .int (gainL L p)) (ic_list (ec_call (ac_cons (ec_var rfl (ac_nil ⟨k, s0, L, rfl, ⟨k1, k3⟩, hl, fun r hr => (hL r hr).1, fun PL ps hP hps hlen => ⟨_, rfl, ps, rfl, rfl, trivial, sz_ok (by omega), fun p hp => ?_, .inl ?_⟩⟩)))))
  · refine ⟨_, _, ?_, gc_name, tc_yes ⟨rfl, rfl, fun _ => ?_⟩⟩
    · decide
    repeat walk_at "g"
    obtain ⟨h1, h2⟩ := ((hps p).mp hp).nn
    exact ⟨k, s0, L, p, rfl, by omega, by omega, h2, fun r hr => ⟨by have := (hL r hr).1; omega, (hL r hr).2⟩, rfl, rfl⟩
  rw [filter_yes]
  have e : ∀ (qs : List (List Int)), [D.int 0] ++ qs.map (fun p => D.int (gainL L p)) = ((0 : Int) :: qs.map fun p => gainL L p).map D.int := fun qs => by
    rw [List.map_cons, List.map_map]
    rfl
  refine rc_cat (by rw [List.length_map]; exact sz_ok (by show 1 + _ ≤ _; omega)) (.inl ?_)
  rw [e]
  repeat walk_at "g"
  exact bc_max (List.cons_ne_nil _ _) (fin PL ps hP hps)
end Ab

/-! ## AbR1 -/
set_option Elab.async false
set_option linter.all false
set_option maxRecDepth 100000
set_option maxHeartbeats 2000000
namespace Ab
open PySem L2
/-! ### the corners of both sides, as sets -/
theorem mem_endsI {W : List WRow} {k : Nat} {E : List (List Int)} {G : GpQ} (h : StopsOk W k E G) {a : Nat} (ha : a < k) (x : Int) : x ∈ endsI E (a : Int) ↔ x = 0 ∨ peF W a x := by
  have hl := h.len
  obtain ⟨ns, hn⟩ : ∃ ns, E[a]? = some ns := ⟨_, List.getElem?_eq_getElem (by omega)⟩
  have e : endsI E (a : Int) = ns := by
    unfold endsI
    rw [Int.toNat_natCast, List.getD_eq_getElem?_getD, hn]
    rfl
  rw [e]
  exact (h.e a ns hn).2 x
theorem mem_gapsI {W : List WRow} {k : Nat} {E : List (List Int)} {G : GpQ} (h : StopsOk W k E G) (a b : Nat) (x : Int) : x ∈ gapsI G (a : Int) (b : Int) ↔ pgF W a b x := by
  unfold gapsI
  cases hf : G.find? fun e => decide ((e.1.1 : Int) = (a : Int) ∧ (e.1.2 : Int) = (b : Int)) with
  | none =>
    rw [List.find?_eq_none] at hf
    constructor
    · exact fun z => absurd z List.not_mem_nil
    · intro z
      obtain ⟨ns, hn⟩ := h.gg a b x z
      exact absurd (decide_eq_true ⟨rfl, rfl⟩) (hf _ hn)
  | some e =>
    obtain ⟨p, ns⟩ := e
    have h0 := List.find?_some hf
    have h1 : (p.1 : Int) = (a : Int) ∧ (p.2 : Int) = (b : Int) := of_decide_eq_true h0
    have h2 := List.mem_of_find?_eq_some hf
    have e1 : p.1 = a := Int.ofNat.inj h1.1
    have e2 : p.2 = b := Int.ofNat.inj h1.2
    subst e1 e2
    exact (h.g p ns h2).2 x
theorem mem_stopsP {W : List WRow} {k : Nat} {E : List (List Int)} {G : GpQ} (h : StopsOk W k E G) {c : Nat} (hc : c < k) (row : Key2) (hr : ∀ q ∈ row, ∃ j : Nat, q.1 = (j : Int)) (s : Int) :
    s ∈ stopsP E G (c : Int) row ↔ s = 0 ∨ peF W c s ∨ ∃ (j : Nat) (v d : Int), ((j : Int), v) ∈ row ∧ pgF W c j d ∧ s = v + d := by
  unfold stopsP
  rw [List.mem_append, mem_endsI h hc, List.mem_flatMap, or_assoc]
  refine or_congr Iff.rfl (or_congr Iff.rfl ⟨?_, ?_⟩)
  · rintro ⟨⟨q1, q2⟩, hq, z⟩
    obtain ⟨j, e⟩ := hr _ hq
    have e : q1 = (j : Int) := e
    subst e
    obtain ⟨d, hd, rfl⟩ := List.mem_map.mp z
    exact ⟨j, q2, d, hq, (mem_gapsI h c j d).mp hd, rfl⟩
  · rintro ⟨j, v, d, hq, hd, rfl⟩
    exact ⟨_, hq, List.mem_map.mpr ⟨d, (mem_gapsI h c j d).mpr hd, rfl⟩⟩
theorem gapAt_swap {r : WRow} {i j : Nat} {d : Int} : gapAt r i j d ↔ gapAt r j i (-d) := by
  constructor
  · rintro ⟨h, u, v, a, b, c, e, rfl⟩
    exact ⟨fun z => h z.symm, v, u, b, a, e, c, by omega⟩
  · rintro ⟨h, u, v, a, b, c, e, z⟩
    exact ⟨fun z => h z.symm, v, u, b, a, e, c, by omega⟩
theorem mem_stopsQ {L : List WRow} {PL : List Plane} (hP : ∀ p, p ∈ PL ↔ PlaneOf L p) (c : Nat) (row : Key2) (s : Int) :
    s ∈ stopsQ PL row (c : Int) ↔ s = 0 ∨ (∃ n, peF L c n ∧ s = 12 * n) ∨ ∃ (j : Nat) (v d : Int), valG row (j : Int) = some v ∧ pgF L c j d ∧ s = v + 12 * d := by
  unfold stopsQ
  rw [List.mem_cons, List.mem_flatMap]
  refine or_congr Iff.rfl ⟨?_, ?_⟩
  · rintro ⟨p, hp, z⟩
    obtain ⟨r, hr, hrp⟩ := (hP p).mp hp
    cases p with
    | at_ i n =>
      have y : s ∈ (if (i : Int) = (c : Int) then [12 * n] else []) := z
      clear z
      by_cases e : (i : Int) = c
      · rw [if_pos e, List.mem_singleton] at y
        have e : i = c := by omega
        subst e
        exact .inl ⟨n, ⟨hrp.1, r, hr, hrp.2⟩, y⟩
      · rw [if_neg e] at y
        exact absurd y List.not_mem_nil
    | as_ i j d =>
      have y : s ∈ (if (i : Int) = (c : Int) then (match valG row (j : Int) with | some v => [v + 12 * d] | none => []) else []) ++ (if (j : Int) = (c : Int) then (match valG row (i : Int) with | some v => [v - 12 * d] | none => []) else []) := z
      clear z
      have y2 := List.mem_append.mp y
      clear y
      rcases y2 with y | y
      · by_cases e : (i : Int) = c
        · rw [if_pos e] at y
          have e : i = c := by omega
          subst e
          cases hv : valG row (j : Int) with
          | none =>
            rw [hv] at y
            exact absurd y List.not_mem_nil
          | some v =>
            rw [hv] at y
            exact .inr ⟨j, v, d, hv, ⟨r, hr, hrp.2⟩, List.mem_singleton.mp y⟩
        · rw [if_neg e] at y
          exact absurd y List.not_mem_nil
      · by_cases e : (j : Int) = c
        · rw [if_pos e] at y
          have e : j = c := by omega
          subst e
          cases hv : valG row (i : Int) with
          | none =>
            rw [hv] at y
            exact absurd y List.not_mem_nil
          | some v =>
            rw [hv] at y
            have := List.mem_singleton.mp y
            exact .inr ⟨i, v, -d, hv, ⟨r, hr, gapAt_swap.mp hrp.2⟩, by omega⟩
        · rw [if_neg e] at y
          exact absurd y List.not_mem_nil
  · rintro (⟨n, ⟨h0, r, hr, hn⟩, rfl⟩ | ⟨j, v, d, hv, ⟨r, hr, hg⟩, rfl⟩)
    · refine ⟨.at_ c n, (hP _).mpr ⟨r, hr, h0, hn⟩, ?_⟩
      show _ ∈ (if (c : Int) = (c : Int) then [12 * n] else [])
      rw [if_pos rfl]
      exact List.mem_singleton.mpr rfl
    · have ne := hg.1
      by_cases h : c < j
      · refine ⟨.as_ c j d, (hP _).mpr ⟨r, hr, h, hg⟩, ?_⟩
        show _ ∈ (if (c : Int) = (c : Int) then (match valG row (j : Int) with | some v => [v + 12 * d] | none => []) else []) ++ _
        rw [if_pos rfl, hv]
        exact List.mem_append.mpr (.inl (List.mem_singleton.mpr rfl))
      · refine ⟨.as_ j c (-d), (hP _).mpr ⟨r, hr, by omega, gapAt_swap.mp hg⟩, ?_⟩
        show _ ∈ _ ++ (if (c : Int) = (c : Int) then (match valG row (j : Int) with | some v => [v - 12 * (-d)] | none => []) else [])
        rw [if_pos rfl, hv]
        exact List.mem_append.mpr (.inr (List.mem_singleton.mpr (by omega)))
end Ab

/-! ## AbR2 -/
set_option Elab.async false
set_option linter.all false
set_option maxRecDepth 100000
set_option maxHeartbeats 2000000
namespace Ab
open PySem L2
/-! ### the law's rows are the program's, each number times K over 12 -/
def ScRow (K : Int) (r w : WRow) : Prop := r.2.map (fun x => 12 * x) = w.2.map (fun x => K * x)
structure Scl (K : Int) (L W : List WRow) : Prop where
  pos : 0 < K
  to : ∀ r ∈ L, ∃ w ∈ W, ScRow K r w
  from_ : ∀ w ∈ W, ∃ r ∈ L, ScRow K r w
theorem ScRow.get {K : Int} {r w : WRow} (h : ScRow K r w) {i : Nat} {n : Int} (hn : r.2[i]? = some n) : ∃ m, w.2[i]? = some m ∧ 12 * n = K * m := by
  have e := congrArg (fun l => l[i]?) h
  rw [List.getElem?_map, List.getElem?_map, hn] at e
  cases hm : w.2[i]? with
  | none => rw [hm] at e; cases e
  | some m =>
    rw [hm] at e
    exact ⟨m, rfl, Option.some.inj e⟩
theorem ScRow.get' {K : Int} {r w : WRow} (h : ScRow K r w) {i : Nat} {m : Int} (hm : w.2[i]? = some m) : ∃ n, r.2[i]? = some n ∧ 12 * n = K * m := by
  have e := congrArg (fun l => l[i]?) h
  rw [List.getElem?_map, List.getElem?_map, hm] at e
  cases hn : r.2[i]? with
  | none => rw [hn] at e; cases e
  | some n =>
    rw [hn] at e
    exact ⟨n, rfl, Option.some.inj e⟩
theorem sgn_of {K n m : Int} (hK : 0 < K) (h : 12 * n = K * m) : 0 < n ↔ 0 < m := by
  constructor
  · intro z
    have y : 0 < K * m := by omega
    rw [Int.mul_comm] at y
    exact Int.pos_of_mul_pos_left y hK
  · intro z
    have := Int.mul_pos hK z
    omega
theorem Scl.pe {K : Int} {L W : List WRow} (h : Scl K L W) {c : Nat} {n : Int} (z : peF L c n) : ∃ m, peF W c m ∧ 12 * n = K * m := by
  obtain ⟨h0, r, hr, hn⟩ := z
  obtain ⟨w, hw, s⟩ := h.to r hr
  obtain ⟨m, hm, e⟩ := s.get hn
  exact ⟨m, ⟨(sgn_of h.pos e).mp h0, w, hw, hm⟩, e⟩
theorem Scl.pe' {K : Int} {L W : List WRow} (h : Scl K L W) {c : Nat} {m : Int} (z : peF W c m) : ∃ n, peF L c n ∧ 12 * n = K * m := by
  obtain ⟨h0, w, hw, hm⟩ := z
  obtain ⟨r, hr, s⟩ := h.from_ w hw
  obtain ⟨n, hn, e⟩ := s.get' hm
  exact ⟨n, ⟨(sgn_of h.pos e).mpr h0, r, hr, hn⟩, e⟩
theorem Scl.pg {K : Int} {L W : List WRow} (h : Scl K L W) {i j : Nat} {d : Int} (z : pgF L i j d) : ∃ e, pgF W i j e ∧ 12 * d = K * e := by
  obtain ⟨r, hr, ne, u, v, hu, hv, u0, v0, rfl⟩ := z
  obtain ⟨w, hw, s⟩ := h.to r hr
  obtain ⟨a, ha, e1⟩ := s.get hu
  obtain ⟨b, hb, e2⟩ := s.get hv
  exact ⟨a - b, ⟨w, hw, ne, a, b, ha, hb, (sgn_of h.pos e1).mp u0, (sgn_of h.pos e2).mp v0, rfl⟩, by rw [Int.mul_sub, Int.mul_sub, e1, e2]⟩
theorem Scl.pg' {K : Int} {L W : List WRow} (h : Scl K L W) {i j : Nat} {e : Int} (z : pgF W i j e) : ∃ d, pgF L i j d ∧ 12 * d = K * e := by
  obtain ⟨w, hw, ne, a, b, ha, hb, a0, b0, rfl⟩ := z
  obtain ⟨r, hr, s⟩ := h.from_ w hw
  obtain ⟨u, hu, e1⟩ := s.get' ha
  obtain ⟨v, hv, e2⟩ := s.get' hb
  exact ⟨u - v, ⟨r, hr, ne, u, v, hu, hv, (sgn_of h.pos e1).mpr a0, (sgn_of h.pos e2).mpr b0, rfl⟩, by rw [Int.mul_sub, Int.mul_sub, e1, e2]⟩
def scR (K : Int) (row : Key2) : Key2 := row.map fun q => (q.1, K * q.2)
theorem valG_scR (K : Int) (row : Key2) (x : Int) : valG (scR K row) x = (valG row x).map fun v => K * v := by
  induction row with
  | nil => rfl
  | cons q r ih =>
    by_cases e : q.1 = x
    · rw [valG_hit e]
      exact valG_hit (p := (q.1, K * q.2)) e
    · rw [valG_miss e, ← ih]
      exact valG_miss (p := (q.1, K * q.2)) e
theorem scR_keys (K : Int) (row : Key2) : (scR K row).map (·.1) = row.map (·.1) := by
  unfold scR
  rw [List.map_map]
  rfl
section
variable {K : Int} {L W : List WRow} {PL : List Plane} {k : Nat} {E : List (List Int)} {G : GpQ}
theorem stops_sc (h : Scl K L W) (hP : ∀ p, p ∈ PL ↔ PlaneOf L p) (hS : StopsOk W k E G) {c : Nat} (hc : c < k) {row : Key2} (hr : ∀ q ∈ row, ∃ j : Nat, q.1 = (j : Int)) (nd : (row.map (·.1)).Nodup) (s : Int) :
    s ∈ stopsQ PL (scR K row) (c : Int) ↔ ∃ t ∈ stopsP E G (c : Int) row, s = K * t := by
  rw [mem_stopsQ hP]
  constructor
  · rintro (rfl | ⟨n, hn, rfl⟩ | ⟨j, v, d, hv, hd, rfl⟩)
    · exact ⟨0, (mem_stopsP hS hc row hr 0).mpr (.inl rfl), (Int.mul_zero K).symm⟩
    · obtain ⟨m, hm, e⟩ := h.pe hn
      exact ⟨m, (mem_stopsP hS hc row hr m).mpr (.inr (.inl hm)), e⟩
    · rw [valG_scR] at hv
      cases hw : valG row (j : Int) with
      | none => rw [hw] at hv; cases hv
      | some u =>
        rw [hw] at hv
        obtain rfl := Option.some.inj hv
        obtain ⟨e, he, ee⟩ := h.pg hd
        exact ⟨u + e, (mem_stopsP hS hc row hr _).mpr (.inr (.inr ⟨j, u, e, valG_mem hw, he, rfl⟩)), by rw [Int.mul_add, ee]⟩
  · rintro ⟨t, ht, rfl⟩
    rcases (mem_stopsP hS hc row hr t).mp ht with rfl | hm | ⟨j, v, d, hv, hd, rfl⟩
    · exact .inl (Int.mul_zero K)
    · obtain ⟨n, hn, e⟩ := h.pe' hm
      exact .inr (.inl ⟨n, hn, e.symm⟩)
    · obtain ⟨e, he, ee⟩ := h.pg' hd
      exact .inr (.inr ⟨j, K * v, e, by rw [valG_scR, valG_of nd hv]; rfl, he, by rw [Int.mul_add, ee]⟩)
theorem wider_sc (h : Scl K L W) (hP : ∀ p, p ∈ PL ↔ PlaneOf L p) (hS : StopsOk W k E G) {c : Nat} (hc : c < k) {R T : List Key2} (hr : ∀ row ∈ T, (∀ q ∈ row, ∃ j : Nat, q.1 = (j : Int)) ∧ (row.map (·.1)).Nodup)
    (hm : ∀ m, m ∈ R ↔ ∃ t ∈ T, m = scR K t) (m : Key2) : m ∈ widerQ PL (c : Int) R ↔ ∃ t ∈ widerP E G (c : Int) T, m = scR K t := by
  unfold widerQ widerP
  rw [List.mem_flatMap]
  constructor
  · rintro ⟨row, h1, z⟩
    obtain ⟨t, ht, rfl⟩ := (hm row).mp h1
    obtain ⟨s, hs, rfl⟩ := List.mem_map.mp z
    obtain ⟨y1, y2⟩ := List.mem_filter.mp hs
    obtain ⟨u, hu, rfl⟩ := (stops_sc h hP hS hc (hr t ht).1 (hr t ht).2 s).mp y1
    have y2 : 0 ≤ K * u := of_decide_eq_true y2
    have u0 : 0 ≤ u := by
      by_cases e : 0 ≤ u
      · exact e
      · have := Int.mul_neg_of_pos_of_neg h.pos (by omega : u < 0)
        omega
    refine ⟨t ++ [((c : Int), u)], List.mem_flatMap.mpr ⟨t, ht, List.mem_map.mpr ⟨u, List.mem_filter.mpr ⟨hu, decide_eq_true u0⟩, rfl⟩⟩, ?_⟩
    unfold scR
    rw [List.map_append]
    rfl
  · rintro ⟨t2, h2, rfl⟩
    obtain ⟨t, ht, z⟩ := List.mem_flatMap.mp h2
    obtain ⟨u, hu, rfl⟩ := List.mem_map.mp z
    obtain ⟨y1, y2⟩ := List.mem_filter.mp hu
    have u0 : 0 ≤ u := of_decide_eq_true y2
    refine ⟨scR K t, (hm _).mpr ⟨t, ht, rfl⟩, List.mem_map.mpr ⟨K * u, List.mem_filter.mpr ⟨(stops_sc h hP hS hc (hr t ht).1 (hr t ht).2 _).mpr ⟨u, y1, rfl⟩, decide_eq_true (Int.mul_nonneg (by have := h.pos; omega) u0)⟩, ?_⟩⟩
    unfold scR
    rw [List.map_append]
    rfl
end
end Ab

/-! ## AbR3 -/
set_option Elab.async false
set_option linter.all false
set_option maxRecDepth 100000
set_option maxHeartbeats 2000000
namespace Ab
open PySem L2
section
variable {K : Int} {L W : List WRow} {PL : List Plane} {k : Nat} {E : List (List Int)} {G : GpQ}
theorem widerP_keys {c : Int} {rows : List Key2} {o : List Int} (h : ∀ row ∈ rows, row.map (·.1) = o) : ∀ row ∈ widerP E G c rows, row.map (·.1) = o ++ [c] := fun row hr => by
  obtain ⟨r, h1, z⟩ := List.mem_flatMap.mp hr
  obtain ⟨s, _, rfl⟩ := List.mem_map.mp z
  rw [List.map_append, h r h1]
  rfl
theorem known_sc (h : Scl K L W) (hP : ∀ p, p ∈ PL ↔ PlaneOf L p) (hS : StopsOk W k E G) : ∀ (m : Nat) (o : List Int), o.length = m → o.Nodup → (∀ c ∈ o, 0 ≤ c ∧ c < (k : Int)) →
    (∀ t ∈ knownP E G o, t.map (·.1) = o) ∧ ∀ r, r ∈ knownQ PL o ↔ ∃ t ∈ knownP E G o, r = scR K t
  | 0, o, hl, _, _ => by
    rw [List.length_eq_zero_iff.mp hl]
    refine ⟨fun t ht => by rw [List.mem_singleton.mp ht]; rfl, fun r => ⟨fun hr => ⟨[], List.mem_singleton.mpr rfl, List.mem_singleton.mp hr⟩, fun ⟨t, ht, e⟩ => ?_⟩⟩
    rw [List.mem_singleton.mp ht] at e
    rw [e]
    exact List.mem_singleton.mpr rfl
  | m + 1, o, hl, nd, ho => by
    obtain ⟨p, c, rfl⟩ : ∃ p c, o = p ++ [c] := ⟨o.dropLast, o.getLast (fun e => by rw [e] at hl; cases hl), (List.dropLast_concat_getLast _).symm⟩
    rw [List.length_append, List.length_singleton] at hl
    have ndp := (List.nodup_append.mp nd).1
    obtain ⟨h1, h2⟩ := known_sc h hP hS m p (by omega) ndp fun c hc => ho c (List.mem_append.mpr (.inl hc))
    obtain ⟨c0, ck⟩ := ho c (List.mem_append.mpr (.inr (List.mem_singleton.mpr rfl)))
    obtain ⟨n, rfl⟩ : ∃ n : Nat, c = (n : Int) := ⟨c.toNat, by omega⟩
    rw [knownQ_snoc, knownP_snoc]
    refine ⟨widerP_keys h1, wider_sc h hP hS (by omega) (fun row hr => ⟨fun q hq => ?_, (h1 row hr).symm ▸ ndp⟩) h2⟩
    have : q.1 ∈ p := h1 row hr ▸ List.mem_map_of_mem hq
    have := (ho q.1 (List.mem_append.mpr (.inl this))).1
    exact ⟨q.1.toNat, by omega⟩
end
/-! ### prices by kind -/
theorem dataLe_pdq (a b : Int × Int) : PySem.W.dataLe false pdq a b = decide (a.1 < b.1 ∨ (a.1 = b.1 ∧ a.2 ≤ b.2)) := congrFun (congrFun (PySem.W.dataLe_ii (fun q : Int × Int => q.1) (fun q => q.2)) a) b
theorem sorted_eq : ∀ {a b : List Int}, a.Perm b → a.Pairwise (· ≤ ·) → b.Pairwise (· ≤ ·) → a = b
  | [], b, p, _, _ => p.nil_eq
  | x :: a, [], p, _, _ => by have := p.length_eq; cases this
  | x :: a, y :: b, p, pa, pb => by
    obtain ⟨a1, a2⟩ := List.pairwise_cons.mp pa
    obtain ⟨b1, b2⟩ := List.pairwise_cons.mp pb
    have h1 : x ≤ y := by
      rcases List.mem_cons.mp (p.mem_iff.mpr List.mem_cons_self) with e | e
      · omega
      · exact a1 y e
    have h2 : y ≤ x := by
      rcases List.mem_cons.mp (p.mem_iff.mp List.mem_cons_self) with e | e
      · omega
      · exact b1 x e
    have e : x = y := by omega
    subst e
    rw [sorted_eq p.cons_inv a2 b2]
theorem range_sorted (k : Nat) : ((List.range k).map fun (i : Nat) => (i : Int)).Pairwise (· ≤ ·) := by
  rw [List.pairwise_map]
  exact List.pairwise_lt_range.imp fun h => by omega
theorem perm_range {k : Nat} {o : List Int} (hl : o.length = k) (nd : o.Nodup) (h : ∀ i : Nat, i < k → (i : Int) ∈ o) (h2 : ∀ c ∈ o, 0 ≤ c ∧ c < (k : Int)) : o.Perm ((List.range k).map fun (i : Nat) => (i : Int)) := by
  refine (List.perm_ext_iff_of_nodup nd ?_).mpr fun c => ⟨fun hc => ?_, fun hc => ?_⟩
  · refine List.Pairwise.map _ (fun a b (h : a < b) => ?_) List.pairwise_lt_range
    omega
  · obtain ⟨c0, ck⟩ := h2 c hc
    exact List.mem_map.mpr ⟨c.toNat, List.mem_range.mpr (by omega), by omega⟩
  · obtain ⟨i, hi, rfl⟩ := List.mem_map.mp hc
    exact h i (List.mem_range.mp hi)
theorem sortP_price {k : Nat} {row : Key2} {o : List Int} (hr : row.map (·.1) = o) (nd : o.Nodup) (hp : o.Perm ((List.range k).map fun (i : Nat) => (i : Int))) : sortP row = priceQ k row := by
  have perm := List.mergeSort_perm row (PySem.W.dataLe false pdq)
  have srt : (row.mergeSort (PySem.W.dataLe false pdq)).Pairwise fun a b => PySem.W.dataLe false pdq a b = true := by
    refine List.pairwise_mergeSort (fun a b c h1 h2 => ?_) (fun a b => ?_) row
    · rw [dataLe_pdq] at h1 h2 ⊢
      have h1 := of_decide_eq_true h1
      have h2 := of_decide_eq_true h2
      exact decide_eq_true (by omega)
    · rw [dataLe_pdq, dataLe_pdq]
      by_cases e : a.1 < b.1 ∨ (a.1 = b.1 ∧ a.2 ≤ b.2)
      · rw [decide_eq_true e]
        rfl
      · rw [decide_eq_true (by omega : b.1 < a.1 ∨ (b.1 = a.1 ∧ b.2 ≤ a.2)), Bool.or_true]
  unfold sortP
  generalize row.mergeSort (PySem.W.dataLe false pdq) = M at perm srt ⊢
  have keys : M.map (·.1) = (List.range k).map fun (i : Nat) => (i : Int) := by
    refine sorted_eq ((perm.map _).trans (hr ▸ hp)) ?_ (range_sorted k)
    rw [List.pairwise_map]
    refine srt.imp fun {a b} h => ?_
    rw [dataLe_pdq] at h
    have h := of_decide_eq_true h
    omega
  have vals : M.map (·.2) = (M.map (·.1)).map fun i => (valG row i).getD 0 := by
    rw [List.map_map]
    refine List.map_congr_left fun q hq => ?_
    show q.2 = (valG row q.1).getD 0
    rw [valG_of (hr.symm ▸ nd) (perm.mem_iff.mp hq)]
    rfl
  rw [vals, keys, List.map_map]
  rfl
theorem priceQ_scR (K : Int) (k : Nat) (row : Key2) : priceQ k (scR K row) = (priceQ k row).map fun x => K * x := by
  unfold priceQ
  rw [List.map_map]
  refine List.map_congr_left fun i _ => ?_
  show (valG (scR K row) (i : Int)).getD 0 = K * (valG row (i : Int)).getD 0
  rw [valG_scR]
  cases valG row (i : Int) with
  | none => exact (Int.mul_zero K).symm
  | some v => rfl
/-- the corners of both sides -/
theorem corner_sc {K : Int} {L W : List WRow} {PL : List Plane} {k : Nat} {E : List (List Int)} {G : GpQ} (h : Scl K L W) (hP : ∀ p, p ∈ PL ↔ PlaneOf L p) (hS : StopsOk W k E G) (hk : k ≤ 3) (p : List Int) :
    CornerQ PL k (orders3 k) p ↔ ∃ q, CornerP E G (orders3 k) q ∧ p = q.map fun x => K * x := by
  constructor
  · rintro ⟨o, ho, row, hr, rfl⟩
    obtain ⟨o1, o2, o3, o4⟩ := orders3_ok k hk o ho
    obtain ⟨h1, h2⟩ := known_sc h hP hS k o o1 o2 o4
    obtain ⟨t, ht, rfl⟩ := (h2 row).mp hr
    exact ⟨sortP t, ⟨o, ho, t, ht, rfl⟩, by rw [sortP_price (h1 t ht) o2 (perm_range o1 o2 o3 o4), priceQ_scR]⟩
  · rintro ⟨q, ⟨o, ho, t, ht, rfl⟩, rfl⟩
    obtain ⟨o1, o2, o3, o4⟩ := orders3_ok k hk o ho
    obtain ⟨h1, h2⟩ := known_sc h hP hS k o o1 o2 o4
    exact ⟨o, ho, scR K t, (h2 _).mpr ⟨t, ht, rfl⟩, by rw [sortP_price (h1 t ht) o2 (perm_range o1 o2 o3 o4), priceQ_scR]⟩
end Ab

/-! ## AbR4 -/
set_option Elab.async false
set_option linter.all false
set_option maxRecDepth 100000
set_option maxHeartbeats 2000000
namespace Ab
open PySem L2
theorem maxI_sc {K : Int} (hK : 0 < K) {xs : List Int} (h : xs ≠ []) : maxI (xs.map fun x => K * x) = K * maxI xs := by
  have h2 : (xs.map fun x => K * x) ≠ [] := fun e => h (List.map_eq_nil_iff.mp e)
  have a := maxI_mem _ h2
  obtain ⟨x, hx, e⟩ := List.mem_map.mp a
  have b := le_maxI _ _ hx
  have c := le_maxI _ _ (List.mem_map_of_mem (f := fun x => K * x) (maxI_mem xs h))
  have d := Int.mul_le_mul_of_nonneg_left b (Int.le_of_lt hK)
  have c' : K * maxI xs ≤ maxI (xs.map fun x => K * x) := c
  have e' : K * x = maxI (xs.map fun x => K * x) := e
  omega
theorem zip_sc (K : Int) : ∀ n p : List Int, (n.map fun x => K * x).zip (p.map fun x => K * x) = (n.zip p).map fun z => (K * z.1, K * z.2)
  | [], p => rfl
  | x :: n, [] => rfl
  | x :: n, y :: p => by
    rw [List.map_cons, List.map_cons, List.zip_cons_cons, List.zip_cons_cons, List.map_cons, zip_sc K n p]
theorem bestW_sc {K : Int} (hK : 0 < K) (n p : List Int) : bestW (n.map fun x => K * x) (p.map fun x => K * x) = K * bestW n p := by
  unfold bestW
  rw [zip_sc, ← maxI_sc hK (List.cons_ne_nil _ _), List.map_cons, Int.mul_zero, List.filter_map, List.map_map, List.map_map]
  congr 2
  have e : ((fun z : Int × Int => decide (0 < z.1)) ∘ fun z : Int × Int => (K * z.1, K * z.2)) = fun z : Int × Int => decide (0 < z.1) := funext fun z => by
    show decide (0 < K * z.1) = decide (0 < z.1)
    congr 1
    refine propext ⟨fun h => ?_, fun h => Int.mul_pos hK h⟩
    rw [Int.mul_comm] at h
    exact Int.pos_of_mul_pos_left h hK
  rw [e]
  refine List.map_congr_left fun z _ => ?_
  show 1 * (K * z.1) - K * z.2 = K * (1 * z.1 - z.2)
  rw [Int.one_mul, Int.one_mul, Int.mul_sub]
theorem sum_sc (K : Int) {α : Type} (f g : α → Int) : ∀ {xs : List α}, (∀ x ∈ xs, f x = K * g x) → (xs.map f).sum = K * (xs.map g).sum
  | [], _ => (Int.mul_zero K).symm
  | x :: xs, h => by
    rw [List.map_cons, List.map_cons, List.sum_cons, List.sum_cons, h x List.mem_cons_self, sum_sc K f g fun y hy => h y (List.mem_cons_of_mem _ hy), Int.mul_add]
theorem gainW_sum (W : List WRow) (q : List Int) : gainW W q = (W.map fun r => r.1 * bestW r.2 q).sum := by
  have key : ∀ (W : List WRow) (t : Int), W.foldl (fun t r => t + r.1 * bestW r.2 q) t = t + (W.map fun r => r.1 * bestW r.2 q).sum := by
    intro W
    induction W with
    | nil => exact fun t => (Int.add_zero t).symm
    | cons r W ih =>
      intro t
      rw [List.foldl_cons, ih, List.map_cons, List.sum_cons, Int.add_assoc]
  unfold gainW
  rw [key, Int.zero_add]
/-- the law's gain is K times the program's -/
theorem gain_sc {K : Int} (hK : 0 < K) {α : Type} {xs : List α} {f g : α → WRow} (h : ∀ x ∈ xs, (f x).1 = (g x).1 ∧ ScRow K (f x) (g x)) (q : List Int) :
    gainL (xs.map f) (q.map fun x => K * x) = K * gainW (xs.map g) q := by
  rw [gainW_sum]
  unfold gainL
  rw [List.map_map, List.map_map]
  refine sum_sc K _ _ fun x hx => ?_
  obtain ⟨h1, h2⟩ := h x hx
  show (f x).1 * bestW (times12 (f x).2) (q.map fun x => K * x) = K * ((g x).1 * bestW (g x).2 q)
  have e : times12 (f x).2 = (g x).2.map fun x => K * x := h2
  rw [e, bestW_sc hK, h1, Int.mul_left_comm]
end Ab

/-! ## AbR5 -/
set_option Elab.async false
set_option linter.all false
set_option maxRecDepth 100000
set_option maxHeartbeats 2000000
namespace Ab
open PySem L2
def posK (key : Key2) : Prop := ∃ q ∈ key, 0 < q.1
theorem foundOf_acc (rs : List Raw) : foundOf rs = accF (kR rs) := by
  unfold foundOf accF kR
  rw [List.foldl_map]
section
variable {κ : Type} [DecidableEq κ]
theorem mem_accF {xs : List (κ × Int)} {k : κ} {v : Int} : ((k, v) ∈ accF xs ∧ v ≠ 0) ↔ (v = sumK xs k ∧ v ≠ 0) := by
  obtain ⟨h1, h2, h3, _⟩ := accF_val xs k
  constructor
  · rintro ⟨h, h0⟩
    rw [valG_of h3 h] at h1
    exact ⟨h1, h0⟩
  · rintro ⟨h, h0⟩
    cases hv : valG (accF xs) k with
    | none =>
      rw [hv] at h1
      exact absurd (h.trans h1.symm) h0
    | some u =>
      rw [hv] at h1
      have h1 : u = sumK xs k := h1
      rw [h, ← h1]
      exact ⟨valG_mem hv, by rw [h1, ← h]; exact h0⟩
end
theorem mem_plainR (rs : List Raw) (r : Row) : r ∈ plainR rs ↔ posK r.2 ∧ r.1 ≠ 0 ∧ r.1 = sumK (kR rs) r.2 := by
  unfold plainR
  rw [foundOf_acc, List.mem_map]
  constructor
  · rintro ⟨kv, h, rfl⟩
    obtain ⟨h1, h2⟩ := List.mem_filter.mp h
    unfold keepK at h2
    rw [Bool.and_eq_true, Bool.not_eq_true', decide_eq_false_iff_not, List.any_eq_true] at h2
    obtain ⟨h3, q, hq, h4⟩ := h2
    obtain ⟨h5, _⟩ := mem_accF.mp ⟨h1, h3⟩
    exact ⟨⟨q, hq, of_decide_eq_true h4⟩, h3, h5⟩
  · rintro ⟨⟨q, hq, h1⟩, h2, h3⟩
    obtain ⟨h4, _⟩ := mem_accF.mpr ⟨h3, h2⟩
    refine ⟨(r.2, r.1), List.mem_filter.mpr ⟨h4, ?_⟩, rfl⟩
    unfold keepK
    rw [Bool.and_eq_true, Bool.not_eq_true', decide_eq_false_iff_not, List.any_eq_true]
    exact ⟨h2, q, hq, decide_eq_true h1⟩
theorem plainR_nodup (rs : List Raw) : ((plainR rs).map (·.2)).Nodup := by
  unfold plainR
  rw [foundOf_acc, List.map_map]
  obtain ⟨_, _, h3, _⟩ := accF_val (kR rs) []
  exact (List.filter_sublist.map _).nodup h3
theorem mem_mergedL (X : List WRow) (r : WRow) : r ∈ mergedL X ↔ 0 < maxI r.2 ∧ r.1 ≠ 0 ∧ r.1 = sumK (kwL X) r.2 := by
  unfold mergedL
  rw [List.mem_map]
  constructor
  · rintro ⟨p, h, rfl⟩
    obtain ⟨h1, h2⟩ := List.mem_filter.mp h
    unfold keepW at h2
    rw [Bool.and_eq_true, Bool.not_eq_true', decide_eq_false_iff_not, decide_eq_true_iff] at h2
    exact ⟨h2.2, h2.1, rfl⟩
  · rintro ⟨h1, h2, h3⟩
    obtain ⟨h4, _⟩ := mem_accF.mpr ⟨h3, h2⟩
    refine ⟨r.2, List.mem_filter.mpr ⟨List.mem_map_of_mem h4, ?_⟩, by rw [← h3]⟩
    unfold keepW
    rw [Bool.and_eq_true, Bool.not_eq_true', decide_eq_false_iff_not, decide_eq_true_iff]
    exact ⟨h3 ▸ h2, h1⟩
theorem mergedL_nodup (X : List WRow) : ((mergedL X).map (·.2)).Nodup := by
  unfold mergedL
  rw [List.map_map]
  obtain ⟨_, _, h3, _⟩ := accF_val (kwL X) []
  have e : ((fun x : WRow => x.2) ∘ fun p => (sumK (kwL X) p, p)) = id := rfl
  rw [e, List.map_id]
  exact List.filter_sublist.nodup h3
end Ab

/-! ## AbR6 -/
set_option Elab.async false
set_option linter.all false
set_option maxRecDepth 100000
set_option maxHeartbeats 2000000
namespace Ab
open PySem L2
theorem low_inj {s x y : Int} (hs : 0 < s) (h : low x s = low y s) : x = y := by
  have gx := gcdI_pos x s hs
  have gy := gcdI_pos y s hs
  have dx : gcdI x s ∣ x := Int.gcd_dvd_left x s
  have dxs : gcdI x s ∣ s := Int.gcd_dvd_right x s
  have dy : gcdI y s ∣ y := Int.gcd_dvd_left y s
  have dys : gcdI y s ∣ s := Int.gcd_dvd_right y s
  have h1 : x / gcdI x s = y / gcdI y s := congrArg (·.1) h
  have h2 : s / gcdI x s = s / gcdI y s := congrArg (·.2) h
  have e1 := Int.ediv_mul_cancel dxs
  have e2 := Int.ediv_mul_cancel dys
  have e3 := Int.ediv_mul_cancel dx
  have e4 := Int.ediv_mul_cancel dy
  rw [h2] at e1
  have ne : s / gcdI y s ≠ 0 := fun z => by
    rw [z, Int.zero_mul] at e2
    omega
  have eg : gcdI x s = gcdI y s := Int.eq_of_mul_eq_mul_left ne (e1.trans e2.symm)
  rw [← e3, ← e4, h1, eg]
theorem keyS_inj {s : Int} (hs : 0 < s) : ∀ {m n : List Int}, keyS s m = keyS s n → m = n
  | [], [], _ => rfl
  | [], _ :: _, h => by cases h
  | _ :: _, [], h => by cases h
  | x :: m, y :: n, h => by
    unfold keyS at h
    rw [List.map_cons, List.map_cons] at h
    injection h with h1 h2
    rw [low_inj hs h1, keyS_inj hs (m := m) (n := n) h2]
theorem low_pos {s x : Int} (hs : 0 < s) : 0 < (low x s).1 ↔ 0 < x := by
  have gx := gcdI_pos x s hs
  have e3 : (low x s).1 * gcdI x s = x := Int.ediv_mul_cancel (Int.gcd_dvd_left x s)
  constructor
  · intro h
    rw [← e3]
    exact Int.mul_pos h gx
  · intro h
    rw [← e3] at h
    exact Int.pos_of_mul_pos_left h gx
theorem posK_keyS {s : Int} (hs : 0 < s) (n : List Int) : posK (keyS s n) ↔ 0 < maxI n := by
  unfold posK keyS
  constructor
  · rintro ⟨q, hq, h⟩
    obtain ⟨x, hx, rfl⟩ := List.mem_map.mp hq
    have := le_maxI n x hx
    have := (low_pos hs).mp h
    omega
  · intro h
    have ne : n ≠ [] := fun e => by
      rw [e] at h
      exact absurd h (by decide)
    exact ⟨_, List.mem_map_of_mem (maxI_mem n ne), (low_pos hs).mpr h⟩
theorem sumK_keyS {s : Int} (hs : 0 < s) (X : List WRow) (n : List Int) : sumK (kS s X) (keyS s n) = sumK (kwL X) n := by
  induction X using snoc_ind with
  | h0 => rfl
  | h1 X r ih =>
    unfold kS kwL at ih ⊢
    rw [List.map_append, List.map_append]
    show sumK (_ ++ [(keyS s r.2, r.1)]) _ = sumK (_ ++ [(r.2, r.1)]) _
    rw [sumK_snoc, sumK_snoc, ih]
    by_cases e : r.2 = n
    · rw [if_pos e, if_pos (by show keyS s r.2 = _; rw [e])]
    · rw [if_neg e, if_neg fun z => e (keyS_inj hs z)]
/-- a key with a sum other than 0 is a key of some row -/
theorem sumK_none {κ : Type} [DecidableEq κ] (xs : List (κ × Int)) (k : κ) (h : sumK xs k ≠ 0) : ∃ x ∈ xs, x.1 = k := by
  obtain ⟨h1, h2, h3, _⟩ := accF_val xs k
  cases hv : valG (accF xs) k with
  | none =>
    rw [hv] at h1
    exact absurd h1.symm h
  | some u =>
    have := h2.mp (List.mem_map_of_mem (f := (·.1)) (valG_mem hv))
    obtain ⟨x, hx, e⟩ := List.mem_map.mp this
    exact ⟨x, hx, e⟩
theorem nodup_of_map {α β : Type} (f : α → β) {xs : List α} (h : (xs.map f).Nodup) : xs.Nodup := List.Pairwise.of_map f (fun _ _ h e => h (congrArg f e)) h
/-- the rows of a plain list are those of the merged rows, each number as a ratio in lowest terms -/
theorem rows_perm {s : Int} (hs : 0 < s) {X D : List WRow} {rs : List Raw} {R : List Row} (hR : R.Perm (plainR rs)) (hD : D.Perm (mergedL X)) (hsum : ∀ key, posK key → sumK (kR rs) key = sumK (kS s X) key) :
    R.Perm (D.map fun r => (r.1, keyS s r.2)) := by
  refine (hR.trans ?_).trans ((hD.map _).symm)
  have n1 : (plainR rs).Nodup := by
    have := plainR_nodup rs
    exact nodup_of_map _ this
  have n2 : ((mergedL X).map fun r => (r.1, keyS s r.2)).Nodup := by
    have := mergedL_nodup X
    refine nodup_of_map (fun x : Int × Key2 => x.2) ?_
    rw [List.map_map]
    have e : ((fun x : Int × Key2 => x.2) ∘ fun r : WRow => (r.1, keyS s r.2)) = keyS s ∘ fun r => r.2 := rfl
    rw [e, ← List.map_map]
    exact List.Pairwise.map _ (fun a b (h : a ≠ b) z => h (keyS_inj hs z)) this
  refine (List.perm_ext_iff_of_nodup n1 n2).mpr fun r => ?_
  rw [mem_plainR, List.mem_map]
  constructor
  · rintro ⟨h1, h2, h3⟩
    rw [hsum r.2 h1] at h3
    obtain ⟨x, hx, e⟩ := sumK_none (kS s X) r.2 (h3 ▸ h2)
    obtain ⟨w, hw, rfl⟩ := List.mem_map.mp hx
    have e : keyS s w.2 = r.2 := e
    rw [← e, sumK_keyS hs] at h3
    rw [← e] at h1
    refine ⟨(r.1, w.2), (mem_mergedL X _).mpr ⟨(posK_keyS hs _).mp h1, h2, h3⟩, ?_⟩
    show (r.1, keyS s w.2) = r
    rw [e]
  · rintro ⟨w, hw, rfl⟩
    obtain ⟨h1, h2, h3⟩ := (mem_mergedL X w).mp hw
    have p := (posK_keyS hs w.2).mpr h1
    exact ⟨p, h2, by rw [hsum _ p, sumK_keyS hs]; exact h3⟩
end Ab

/-! ## AbR7 -/
set_option Elab.async false
set_option linter.all false
set_option maxRecDepth 100000
set_option maxHeartbeats 2000000
namespace Ab
open PySem L2
theorem sumK_nodup {κ : Type} [DecidableEq κ] (xs : List (κ × Int)) (nd : (xs.map (·.1)).Nodup) (k : κ) : sumK xs k = (valG xs k).getD 0 := by
  induction xs using snoc_ind with
  | h0 => rfl
  | h1 xs x ih =>
    rw [List.map_append, List.nodup_append] at nd
    obtain ⟨n1, _, n2⟩ := nd
    have hv : valG xs x.1 = none := valG_none.mpr fun p hp e => n2 p.1 (List.mem_map_of_mem hp) x.1 List.mem_cons_self e
    have e : valG (xs ++ [x]) k = if k = x.1 then some x.2 else valG xs k := valG_snoc xs x.1 k x.2 hv
    rw [sumK_snoc, e, ih n1]
    by_cases h : x.1 = k
    · subst h
      rw [if_pos rfl, if_pos rfl, hv]
      show 0 + x.2 = x.2
      omega
    · rw [if_neg h, if_neg fun z => h z.symm]
def Lows (R : List Row) : Prop := ∀ r ∈ R, keyOf (rawOf r) = r.2
theorem kR_lows {R : List Row} (h : Lows R) : kR (R.map rawOf) = R.map fun r => (r.2, r.1) := by
  unfold kR
  rw [List.map_map]
  refine List.map_congr_left fun r hr => ?_
  show (keyOf (rawOf r), (rawOf r).1) = (r.2, r.1)
  rw [h r hr]
  rfl
theorem plain_sum {rs : List Raw} {R : List Row} (hR : R.Perm (plainR rs)) (hl : Lows R) (key : Key2) (hp : posK key) : sumK (kR (R.map rawOf)) key = sumK (kR rs) key := by
  rw [kR_lows hl]
  have nd : ((R.map fun r => (r.2, r.1)).map (·.1)).Nodup := by
    rw [List.map_map]
    exact (hR.map (fun r : Row => r.2)).nodup_iff.mpr (plainR_nodup rs)
  rw [sumK_nodup _ nd]
  by_cases h : sumK (kR rs) key = 0
  · rw [h]
    cases hv : valG (R.map fun r => (r.2, r.1)) key with
    | none => rfl
    | some v =>
      obtain ⟨r, hr, e⟩ := List.mem_map.mp (valG_mem hv)
      obtain ⟨_, h2, h3⟩ := (mem_plainR rs r).mp (hR.mem_iff.mp hr)
      have e1 : r.2 = key := congrArg (·.1) e
      rw [e1] at h3
      exact absurd (h3.trans h) h2
  · have hm : (sumK (kR rs) key, key) ∈ R := hR.mem_iff.mpr ((mem_plainR rs _).mpr ⟨hp, h, rfl⟩)
    rw [valG_of nd (List.mem_map.mpr ⟨_, hm, rfl⟩)]
    rfl
theorem keyOf_lows {z : Raw} (h : NumsOk z.2) : (keyOf z).map (fun q => low q.1 q.2) = keyOf z := by
  unfold keyOf
  rw [List.map_map]
  refine List.map_congr_left fun x hx => ?_
  exact low_low _ _ (h.2 x hx).1.pos
theorem keyOf_raw (r : Row) : keyOf (rawOf r) = r.2.map fun q => low q.1 q.2 := by
  unfold keyOf rawOf
  rw [List.map_map]
  rfl
theorem plain_lows {rs : List Raw} {R : List Row} (hR : R.Perm (plainR rs)) (h : ∀ z ∈ rs, NumsOk z.2) : Lows R := fun r hr => by
  obtain ⟨_, h2, h3⟩ := (mem_plainR rs r).mp (hR.mem_iff.mp hr)
  obtain ⟨x, hx, e⟩ := sumK_none (kR rs) r.2 (h3 ▸ h2)
  obtain ⟨z, hz, rfl⟩ := List.mem_map.mp hx
  have e : keyOf z = r.2 := e
  rw [keyOf_raw, ← e]
  exact keyOf_lows (h z hz)
theorem sumK_neg {κ : Type} [DecidableEq κ] (xs : List (κ × Int)) (k : κ) : sumK (xs.map fun x => (x.1, -x.2)) k = - sumK xs k := by
  induction xs using snoc_ind with
  | h0 => rfl
  | h1 xs x ih =>
    rw [List.map_append]
    show sumK (_ ++ [(x.1, -x.2)]) k = _
    rw [sumK_snoc, sumK_snoc, ih]
    split <;> omega
theorem kR_neg (B : List Row) : kR (B.map fun r => rawOf (-r.1, r.2)) = (kR (B.map rawOf)).map fun x => (x.1, -x.2) := by
  unfold kR
  rw [List.map_map, List.map_map, List.map_map]
  rfl
theorem kS_neg (s : Int) (M : List WRow) : kS s (negW M) = (kS s M).map fun x => (x.1, -x.2) := by
  unfold kS negW
  rw [List.map_map, List.map_map]
  rfl
/-- what a gap's rows come from: its raw rows' sums are the law's -/
theorem gap_sums {k : Nat} {s : Int} {LA LB : List WRow} {rsA rsB : List Raw} {A B R' : List Row} (hA : A.Perm (plainR rsA)) (hB : B.Perm (plainR rsB)) (mA : MadeOf k s LA rsA) (mB : MadeOf k s LB rsB) (hR' : R'.Perm (negR B)) (key : Key2) (hp : posK key) :
    sumK (kR ((A ++ R').map rawOf)) key = sumK (kS s (LA ++ negW LB)) key := by
  have lA := plain_lows hA fun z hz => (mA.1 z hz).1
  have lB := plain_lows hB fun z hz => (mB.1 z hz).1
  have lR : Lows R' := fun r hr => by
    obtain ⟨_, h2, h3⟩ := (mem_plainR _ r).mp (hR'.mem_iff.mp hr)
    obtain ⟨x, hx, e⟩ := sumK_none _ r.2 (h3 ▸ h2)
    obtain ⟨z, hz, rfl⟩ := List.mem_map.mp hx
    obtain ⟨b, hb, rfl⟩ := List.mem_map.mp hz
    have e : keyOf (rawOf (-b.1, b.2)) = r.2 := e
    have e2 : keyOf (rawOf (-b.1, b.2)) = b.2 := (keyOf_raw _).trans ((keyOf_raw b).symm.trans (lB b hb))
    rw [keyOf_raw, ← e, e2]
    exact (keyOf_raw b).symm.trans (lB b hb)
  have e1 : kR ((A ++ R').map rawOf) = kR (A.map rawOf) ++ kR (R'.map rawOf) := by
    unfold kR
    rw [List.map_append, List.map_append]
  have e2 : kS s (LA ++ negW LB) = kS s LA ++ kS s (negW LB) := by
    unfold kS
    rw [List.map_append]
  rw [e1, e2, sumK_app, sumK_app, plain_sum hA lA key hp, plain_sum hR' lR key hp, kR_neg, sumK_neg, plain_sum hB lB key hp, kS_neg, sumK_neg, mA.2, mB.2]
end Ab

/-! ## AbR8 -/
set_option Elab.async false
set_option linter.all false
set_option maxRecDepth 100000
set_option maxHeartbeats 2000000
namespace Ab
open PySem L2
theorem lcmF_is {f b : Int} (hf : 0 < f) (hb : 0 < b) : lcmF f b = (Int.lcm f b : Int) := by
  have g := gcdI_pos f b hb
  have e1 : f / gcdI f b * gcdI f b = f := Int.ediv_mul_cancel (Int.gcd_dvd_left f b)
  have e2 : gcdI f b * (Int.lcm f b : Int) = f * b := by
    have := Int.gcd_mul_lcm f b
    have h : ((Int.gcd f b * Int.lcm f b : Nat) : Int) = ((f.natAbs * b.natAbs : Nat) : Int) := congrArg _ this
    rw [Int.natCast_mul, Int.natCast_mul, Int.natAbs_of_nonneg (Int.le_of_lt hf), Int.natAbs_of_nonneg (Int.le_of_lt hb)] at h
    exact h
  unfold lcmF
  refine Int.eq_of_mul_eq_mul_left (by omega : gcdI f b ≠ 0) ?_
  rw [e2, ← Int.mul_assoc, Int.mul_comm (gcdI f b), e1]
theorem lcmF_dvd {f b s : Int} (h0 : 0 < f) (hb : 0 < b) (hf : f ∣ s) (hs : b ∣ s) : lcmF f b ∣ s := by
  rw [lcmF_is h0 hb]
  have h : Int.lcm f b ∣ s.natAbs := Int.lcm_dvd (Int.dvd_natAbs.mpr hf) (Int.dvd_natAbs.mpr hs)
  exact Int.dvd_natAbs.mp (Int.natCast_dvd_natCast.mpr h)
theorem dvd_lcmF {f b : Int} (h0 : 0 < f) (hb : 0 < b) : f ∣ lcmF f b ∧ b ∣ lcmF f b := by
  rw [lcmF_is h0 hb]
  exact ⟨Int.dvd_lcm_left f b, Int.dvd_lcm_right f b⟩
theorem scaleF_ok {s : Int} : ∀ (k : Key2) (f : Int), 0 < f → f ∣ s → (∀ q ∈ k, 0 < q.2 ∧ q.2 ∣ s) → 0 < scaleF f k ∧ scaleF f k ∣ s ∧ f ∣ scaleF f k ∧ ∀ q ∈ k, q.2 ∣ scaleF f k
  | [], f, h0, hf, _ => ⟨h0, hf, Int.dvd_refl f, fun q hq => absurd hq List.not_mem_nil⟩
  | q :: k, f, h0, hf, h => by
    obtain ⟨q0, qs⟩ := h q List.mem_cons_self
    obtain ⟨d1, d2⟩ := dvd_lcmF h0 q0
    obtain ⟨i1, i2, i3, i4⟩ := scaleF_ok k (lcmF f q.2) (lcmF_pos h0 q0) (lcmF_dvd h0 q0 hf qs) fun x hx => h x (List.mem_cons_of_mem _ hx)
    refine ⟨i1, i2, Int.dvd_trans d1 i3, fun x hx => ?_⟩
    rcases List.mem_cons.mp hx with rfl | hx
    · exact Int.dvd_trans d2 i3
    · exact i4 x hx
theorem scaleR_ok {s : Int} : ∀ (R : List Row) (f : Int), 0 < f → f ∣ s → (∀ r ∈ R, ∀ q ∈ r.2, 0 < q.2 ∧ q.2 ∣ s) → 0 < R.foldl (fun f r => scaleF f r.2) f ∧ R.foldl (fun f r => scaleF f r.2) f ∣ s ∧ f ∣ R.foldl (fun f r => scaleF f r.2) f ∧ ∀ r ∈ R, ∀ q ∈ r.2, q.2 ∣ R.foldl (fun f r => scaleF f r.2) f
  | [], f, h0, hf, _ => ⟨h0, hf, Int.dvd_refl f, fun q hq => absurd hq List.not_mem_nil⟩
  | r :: R, f, h0, hf, h => by
    obtain ⟨j1, j2, j3, j4⟩ := scaleF_ok r.2 f h0 hf (h r List.mem_cons_self)
    obtain ⟨i1, i2, i3, i4⟩ := scaleR_ok R (scaleF f r.2) j1 j2 fun x hx => h x (List.mem_cons_of_mem _ hx)
    refine ⟨i1, i2, Int.dvd_trans j3 i3, fun x hx => ?_⟩
    rcases List.mem_cons.mp hx with rfl | hx
    · exact fun q hq => Int.dvd_trans (j4 q hq) i3
    · exact i4 x hx
/-- the scale of the gap divides the law's, and each bottom divides it -/
theorem scaleQ_dvd {s : Int} {R : List Row} (h : ∀ r ∈ R, ∀ q ∈ r.2, 0 < q.2 ∧ q.2 ∣ s) : 0 < scaleQ R ∧ scaleQ R ∣ s ∧ ∀ r ∈ R, ∀ q ∈ r.2, q.2 ∣ scaleQ R := by
  obtain ⟨i1, i2, _, i4⟩ := scaleR_ok R 1 (by decide) (Int.one_dvd s) h
  exact ⟨i1, i2, i4⟩
end Ab

/-! ## AbR9 -/
set_option Elab.async false
set_option linter.all false
set_option maxRecDepth 100000
set_option maxHeartbeats 2000000
namespace Ab
open PySem L2
theorem low_den {s n : Int} (hs : 0 < s) : 0 < (low n s).2 ∧ (low n s).2 ∣ s ∧ n * (low n s).2 = (low n s).1 * s := by
  have g := gcdI_pos n s hs
  have e1 : (low n s).1 * gcdI n s = n := Int.ediv_mul_cancel (Int.gcd_dvd_left n s)
  have e2 : (low n s).2 * gcdI n s = s := Int.ediv_mul_cancel (Int.gcd_dvd_right n s)
  refine ⟨?_, ⟨gcdI n s, e2.symm⟩, ?_⟩
  · have : 0 < (low n s).2 * gcdI n s := by omega
    exact Int.pos_of_mul_pos_left this g
  · rw [← e1]
    have h : (low n s).1 * s = (low n s).1 * ((low n s).2 * gcdI n s) := by rw [e2]
    have e1' := e1
    rw [e1]
    rw [h, ← Int.mul_assoc, Int.mul_right_comm, e1]
/-- the law's number and the program's whole number -/
theorem whole_sc {s S n : Int} (hs : 0 < s) (hS : 0 < S) (hd : S ∣ s) (h2 : (low n s).2 ∣ S) : 12 * n = 12 * (s / S) * wholeQ S (low n s) := by
  obtain ⟨d0, _, e⟩ := low_den (n := n) hs
  obtain ⟨t, rfl⟩ := hd
  obtain ⟨u, hu⟩ := h2
  have e3 : S * t / S = t := Int.mul_ediv_cancel_left t (by omega)
  have e4 : wholeQ S (low n (S * t)) = (low n (S * t)).1 * u := by
    unfold wholeQ
    generalize low n (S * t) = q at *
    rw [hu, Int.mul_comm q.2 u, ← Int.mul_assoc]
    exact Int.mul_ediv_cancel _ (by omega)
  rw [e3, e4, Int.mul_assoc]
  congr 1
  generalize low n (S * t) = q at *
  refine Int.eq_of_mul_eq_mul_right (by omega : q.2 ≠ 0) ?_
  rw [e, hu]
  simp only [Int.mul_assoc, Int.mul_comm, Int.mul_left_comm]
end Ab

/-! ## AbR10 -/
set_option Elab.async false
set_option linter.all false
set_option maxRecDepth 100000
set_option maxHeartbeats 2000000
namespace Ab
open PySem L2
theorem sum_perm {a b : List Int} (p : a.Perm b) : a.sum = b.sum := by
  induction p with
  | nil => rfl
  | cons x _ ih => rw [List.sum_cons, List.sum_cons, ih]
  | swap x y l => rw [List.sum_cons, List.sum_cons, List.sum_cons, List.sum_cons]; omega
  | trans _ _ i1 i2 => exact i1.trans i2
theorem gainW_perm {V W : List WRow} (p : V.Perm W) (q : List Int) : gainW V q = gainW W q := by
  rw [gainW_sum, gainW_sum]
  exact sum_perm (p.map _)
/-- a law's row as the program's whole row -/
def wholeL (s S : Int) (r : WRow) : WRow := (r.1, (keyS s r.2).map (wholeQ S))
theorem wholes_perm {s : Int} {R : List Row} {D : List WRow} (hs : 0 < s) (h : R.Perm (D.map fun r => (r.1, keyS s r.2))) :
    0 < scaleQ R ∧ scaleQ R ∣ s ∧ (wholes R).Perm (D.map (wholeL s (scaleQ R))) ∧ ∀ r ∈ D, ScRow (12 * (s / scaleQ R)) r (wholeL s (scaleQ R) r) := by
  have hden : ∀ r ∈ R, ∀ q ∈ r.2, 0 < q.2 ∧ q.2 ∣ s := fun r hr q hq => by
    obtain ⟨w, _, rfl⟩ := List.mem_map.mp (h.mem_iff.mp hr)
    obtain ⟨n, _, rfl⟩ := List.mem_map.mp hq
    obtain ⟨a, b, _⟩ := low_den (n := n) hs
    exact ⟨a, b⟩
  obtain ⟨S0, Sd, Sq⟩ := scaleQ_dvd hden
  refine ⟨S0, Sd, ?_, fun r hr => ?_⟩
  · have := h.map (wholeR (scaleQ R))
    rw [List.map_map] at this
    exact this
  · show r.2.map (fun x => 12 * x) = ((r.2.map fun x => low x s).map (wholeQ (scaleQ R))).map fun x => 12 * (s / scaleQ R) * x
    rw [List.map_map, List.map_map]
    refine List.map_congr_left fun n hn => ?_
    exact whole_sc hs S0 Sd (Sq _ (h.mem_iff.mpr (List.mem_map_of_mem hr)) _ (List.mem_map_of_mem hn))
theorem Scl_of {K : Int} {D W : List WRow} {g : WRow → WRow} (hK : 0 < K) (p : W.Perm (D.map g)) (h : ∀ r ∈ D, ScRow K r (g r)) : Scl K D W :=
  ⟨hK, fun r hr => ⟨g r, p.mem_iff.mpr (List.mem_map_of_mem hr), h r hr⟩, fun w hw => by
    obtain ⟨r, hr, rfl⟩ := List.mem_map.mp (p.mem_iff.mp hw)
    exact ⟨r, hr, h r hr⟩⟩
theorem gains_of {K : Int} {D W : List WRow} {g : WRow → WRow} (hK : 0 < K) (p : W.Perm (D.map g)) (h : ∀ r ∈ D, r.1 = (g r).1 ∧ ScRow K r (g r)) (q : List Int) : gainL D (q.map fun x => K * x) = K * gainW W q := by
  have := gain_sc (f := id) (g := g) hK (xs := D) h q
  rw [List.map_id] at this
  rw [this, gainW_perm p]
end Ab

/-! ## AbR11 -/
set_option Elab.async false
set_option linter.all false
set_option maxRecDepth 100000
set_option maxHeartbeats 2000000
namespace Ab
open PySem L2
/-- the heart: the law's highest gain is 0 iff the best gain is not above 0 -/
theorem highest_zero {k : Nat} {s : Int} {R : List Row} {D : List WRow} {PL : List Plane} {ps : List (List Int)} {p : List Int} (hs : 0 < s) (hk : k ≤ 3) (h : R.Perm (D.map fun r => (r.1, keyS s r.2)))
    (hP : ∀ p, p ∈ PL ↔ PlaneOf D p) (hps : ∀ p, p ∈ ps ↔ CornerQ PL k (orders3 k) p) (hb : BestP k R p) :
    maxI (0 :: ps.map fun q => gainL D q) = 0 ↔ ¬ 0 < gainW (wholes R) p := by
  obtain ⟨S0, Sd, hw, hr⟩ := wholes_perm hs h
  have hK : 0 < 12 * (s / scaleQ R) := by
    have : 0 < s / scaleQ R := Int.ediv_pos_of_pos_of_dvd hs (Int.le_of_lt S0) Sd
    omega
  generalize 12 * (s / scaleQ R) = K at hK hr
  obtain ⟨E, G, hS, hc, hmax⟩ := hb
  have sc := Scl_of hK hw hr
  have gn := gains_of hK hw fun r hrr => ⟨rfl, hr r hrr⟩
  constructor
  · intro h0 hpos
    have hin : p.map (fun x => K * x) ∈ ps := (hps _).mpr ((corner_sc sc hP hS hk _).mpr ⟨p, hc, rfl⟩)
    have := le_maxI (0 :: ps.map fun q => gainL D q) _ (List.mem_cons_of_mem _ (List.mem_map_of_mem (f := fun q => gainL D q) hin))
    have this : gainL D (p.map fun x => K * x) ≤ _ := this
    rw [h0, gn] at this
    have := Int.mul_pos hK hpos
    omega
  · intro hn
    have h0 := le_maxI (0 :: ps.map fun q => gainL D q) 0 List.mem_cons_self
    rcases List.mem_cons.mp (maxI_mem (0 :: ps.map fun q => gainL D q) (List.cons_ne_nil _ _)) with e | e
    · exact e
    · obtain ⟨q, hq, e⟩ := List.mem_map.mp e
      obtain ⟨u, hu, rfl⟩ := (corner_sc sc hP hS hk q).mp ((hps q).mp hq)
      have hle := hmax u hu
      have e : gainL D (u.map fun x => K * x) = _ := e
      rw [gn] at e
      have : K * gainW (wholes R) u ≤ K * 0 := Int.mul_le_mul_of_nonneg_left (by omega) (Int.le_of_lt hK)
      omega
end Ab

/-! ## AbR12 -/
set_option Elab.async false
set_option linter.all false
set_option maxRecDepth 100000
set_option maxHeartbeats 2000000
namespace Ab
open PySem L2
/-- a gap's rows, from the law's -/
theorem gap_rows {k : Nat} {s : Int} (hs : 0 < s) {LA LB D : List WRow} {rsA rsB : List Raw} {A B R : List Row} (hA : A.Perm (plainR rsA)) (hB : B.Perm (plainR rsB)) (mA : MadeOf k s LA rsA) (mB : MadeOf k s LB rsB) (hR : GapOf k A B R) (hD : D.Perm (mergedL (LA ++ negW LB))) :
    R.Perm (D.map fun r => (r.1, keyS s r.2)) := by
  obtain ⟨R', hR', h⟩ := hR
  exact rows_perm hs h hD fun key hp => gap_sums hA hB mA mB hR' key hp
/-- gains with prices: the sum over merged rows is the difference of the sums -/
theorem gainX_app (L M : List WRow) (q : List Int) : gainX (L ++ M) q = gainX L q + gainX M q := by
  unfold gainX
  rw [List.map_append, List.sum_append]
theorem gainX_neg (M : List WRow) (q : List Int) : gainX (negW M) q = - gainX M q := by
  unfold gainX negW
  induction M with
  | nil => rfl
  | cons r M ih =>
    rw [List.map_cons, List.map_cons, List.sum_cons, ih, List.map_cons, List.sum_cons]
    show -r.1 * bestW r.2 q + _ = _
    rw [Int.neg_mul]
    omega
theorem gainX_perm {V W : List WRow} (p : V.Perm W) (q : List Int) : gainX V q = gainX W q := sum_perm (p.map _)
end Ab

/-! ## AbR13 -/
set_option Elab.async false
set_option linter.all false
set_option maxRecDepth 100000
set_option maxHeartbeats 2000000
namespace Ab
open PySem L2
section
variable {κ : Type} [DecidableEq κ]
def wsum (f : κ → Int) (xs : List (κ × Int)) : Int := (xs.map fun x => x.2 * f x.1).sum
theorem wsum_app (f : κ → Int) (a b : List (κ × Int)) : wsum f (a ++ b) = wsum f a + wsum f b := by
  unfold wsum
  rw [List.map_append, List.sum_append]
theorem wsum_set (f : κ → Int) (k : κ) (v : Int) : ∀ (xs : List (κ × Int)), (xs.map (·.1)).Nodup → ∀ u, valG xs k = some u → wsum f (xs.map fun kv => if kv.1 = k then (kv.1, v) else kv) = wsum f xs + (v - u) * f k
  | [], _, u, h => by cases h
  | x :: xs, nd, u, h => by
    rw [List.map_cons, List.nodup_cons] at nd
    obtain ⟨n1, n2⟩ := nd
    have c1 : ∀ (y : κ × Int) (ys : List (κ × Int)), wsum f (y :: ys) = y.2 * f y.1 + wsum f ys := fun y ys => by
      unfold wsum
      rw [List.map_cons, List.sum_cons]
    by_cases e : x.1 = k
    · rw [valG_hit e] at h
      obtain rfl := Option.some.inj h
      have rest : (xs.map fun kv => if kv.1 = k then (kv.1, v) else kv) = xs := by
        have : (xs.map fun kv => if kv.1 = k then (kv.1, v) else kv) = xs.map id := List.map_congr_left fun y hy => if_neg fun z : y.1 = k => n1 (by rw [e, ← z]; exact List.mem_map_of_mem hy)
        rw [this, List.map_id]
      rw [List.map_cons, rest, if_pos e, c1, c1]
      show v * f x.1 + _ = _
      rw [e, Int.sub_mul]
      omega
    · rw [valG_miss e] at h
      rw [List.map_cons, if_neg e, c1, c1, wsum_set f k v xs n2 u h]
      omega
theorem wsum_acc (f : κ → Int) (xs : List (κ × Int)) : wsum f (accF xs) = wsum f xs := by
  induction xs using snoc_ind with
  | h0 => rfl
  | h1 xs x ih =>
    obtain ⟨_, _, nd, _⟩ := accF_val xs x.1
    rw [accF_snoc, wsum_app]
    have one : wsum f [x] = x.2 * f x.1 := by
      unfold wsum
      rw [List.map_cons, List.map_nil, List.sum_cons, List.sum_nil, Int.add_zero]
    cases hv : valG (accF xs) x.1 with
    | none =>
      rw [putG_new _ hv, wsum_app, ih]
      congr 1
      unfold wsum
      rw [List.map_cons, List.map_nil, List.map_cons, List.map_nil]
      show ((none.getD 0 + x.2) * f x.1 + 0) = _
      rw [List.sum_cons, List.sum_nil]
      show (0 + x.2) * f x.1 + 0 = _
      rw [Int.zero_add]
    | some u =>
      unfold putG
      rw [hv]
      show wsum f ((accF xs).map fun kv => if kv.1 = x.1 then (kv.1, u + x.2) else kv) = _
      rw [wsum_set f x.1 _ _ nd u hv, ih, one, show u + x.2 - u = x.2 by omega]
end
end Ab

/-! ## AbR14 -/
set_option Elab.async false
set_option linter.all false
set_option maxRecDepth 100000
set_option maxHeartbeats 2000000
namespace Ab
open PySem L2
theorem bestW_zero {n q : List Int} (h : ¬ 0 < maxI n) : bestW n q = 0 := by
  unfold bestW
  have e : (n.zip q).filter (fun z => decide (0 < z.1)) = [] := by
    rw [List.filter_eq_nil_iff]
    intro z hz hp
    have := le_maxI n z.1 (List.of_mem_zip hz).1
    have := of_decide_eq_true hp
    omega
  rw [e]
  rfl
theorem sum_filter {α : Type} (f : α → Int) (b : α → Bool) : ∀ (xs : List α), (∀ x ∈ xs, b x = false → f x = 0) → ((xs.filter b).map f).sum = (xs.map f).sum
  | [], _ => rfl
  | x :: xs, h => by
    have ih := sum_filter f b xs fun y hy => h y (List.mem_cons_of_mem _ hy)
    cases e : b x with
    | true => rw [List.filter_cons, if_pos e, List.map_cons, List.map_cons, List.sum_cons, List.sum_cons, ih]
    | false =>
      rw [List.filter_cons, if_neg (by rw [e]; decide), List.map_cons, List.sum_cons, ih, h x List.mem_cons_self e]
      omega
theorem gainX_merged (X : List WRow) (q : List Int) : gainX (mergedL X) q = gainX X q := by
  have e1 : gainX X q = wsum (fun p => bestW p q) (kwL X) := by
    unfold gainX wsum kwL
    rw [List.map_map]
    rfl
  rw [e1, ← wsum_acc]
  unfold gainX mergedL wsum
  rw [List.map_map]
  have e2 : ((accF (kwL X)).map fun x => x.2 * bestW x.1 q) = ((accF (kwL X)).map (·.1)).map fun p => sumK (kwL X) p * bestW p q := by
    rw [List.map_map]
    refine List.map_congr_left fun x hx => ?_
    obtain ⟨h1, _, h3, _⟩ := accF_val (kwL X) x.1
    rw [valG_of h3 (v := x.2) hx] at h1
    show x.2 * _ = sumK (kwL X) x.1 * _
    rw [← h1]
    rfl
  rw [e2]
  refine sum_filter (fun p => sumK (kwL X) p * bestW p q) (keepW X) _ fun p _ hp => ?_
  unfold keepW at hp
  show sumK (kwL X) p * bestW p q = 0
  by_cases h : sumK (kwL X) p = 0
  · rw [h, Int.zero_mul]
  · rw [decide_eq_false h, Bool.not_false, Bool.true_and] at hp
    rw [bestW_zero (of_decide_eq_false hp), Int.mul_zero]
end Ab

/-! ## AbR15 -/
set_option Elab.async false
set_option linter.all false
set_option maxRecDepth 100000
set_option maxHeartbeats 2000000
namespace Ab
open PySem L2
theorem gain_diff {LA LB D : List WRow} (hD : D.Perm (mergedL (LA ++ negW LB))) (q : List Int) : gainX D q = gainX LA q - gainX LB q := by
  rw [gainX_perm hD, gainX_merged, gainX_app, gainX_neg]
  omega
theorem gainL_12 (D : List WRow) (q : List Int) : gainL D (q.map fun x => 12 * x) = 12 * gainX D q := by
  unfold gainL gainX
  refine sum_sc 12 _ _ fun r _ => ?_
  show r.1 * bestW (r.2.map fun x => 12 * x) (q.map fun x => 12 * x) = 12 * (r.1 * bestW r.2 q)
  rw [bestW_sc (by decide), Int.mul_left_comm]
/-- at the best prices the two lists differ -/
theorem gain_less {s : Int} {R : List Row} {LA LB D : List WRow} {p : List Int} (hs : 0 < s) (h : R.Perm (D.map fun r => (r.1, keyS s r.2))) (hD : D.Perm (mergedL (LA ++ negW LB))) (hp : 0 < gainW (wholes R) p) :
    gainX LB (p.map fun x => s / scaleQ R * x) < gainX LA (p.map fun x => s / scaleQ R * x) := by
  obtain ⟨S0, Sd, hw, hr⟩ := wholes_perm hs h
  have hK : 0 < 12 * (s / scaleQ R) := by
    have : 0 < s / scaleQ R := Int.ediv_pos_of_pos_of_dvd hs (Int.le_of_lt S0) Sd
    omega
  have g := gains_of hK hw (fun r hrr => ⟨rfl, hr r hrr⟩) p
  have e : (p.map fun x => 12 * (s / scaleQ R) * x) = (p.map fun x => s / scaleQ R * x).map fun x => 12 * x := by
    rw [List.map_map]
    exact List.map_congr_left fun x _ => Int.mul_assoc _ _ _
  rw [e, gainL_12, gain_diff hD] at g
  have := Int.mul_pos hK hp
  omega
end Ab

/-! ## AbR16 -/
set_option Elab.async false
set_option linter.all false
set_option maxRecDepth 100000
set_option maxHeartbeats 2000000
namespace Ab
open PySem L2
theorem price_rep {s S x : Int} (hS : 0 < S) (hd : S ∣ s) : Rep s (low x S) (s / S * x) := by
  refine rep_low hS ?_
  have e : s / S * S = s := Int.ediv_mul_cancel hd
  rw [← Int.mul_assoc, Int.mul_comm S (s / S), e, Int.mul_comm]
/-- the prices told, with what they stand for at the law's scale -/
def toldQ (s S : Int) (p : List Int) : List ((Int × Int) × Int) := p.map fun x => (low x S, s / S * x)
theorem toldQ_fst (s S : Int) (p : List Int) : (toldQ s S p).map (·.1) = lowP S p := by
  unfold toldQ lowP
  rw [List.map_map]
  rfl
theorem toldQ_snd (s S : Int) (p : List Int) : (toldQ s S p).map (·.2) = p.map fun x => s / S * x := by
  unfold toldQ
  rw [List.map_map]
  rfl
theorem toldQ_reps {s S : Int} {p : List Int} (hS : 0 < S) (hd : S ∣ s) : Reps s (toldQ s S p) := fun z hz => by
  obtain ⟨x, _, rfl⟩ := List.mem_map.mp hz
  exact price_rep hS hd
theorem toldQ_nn {s S : Int} {p : List Int} (hs : 0 < s) (hS : 0 < S) (hp : ∀ x ∈ p, 0 ≤ x) : ∀ z ∈ toldQ s S p, 0 ≤ z.2 := fun z hz => by
  obtain ⟨x, hx, rfl⟩ := List.mem_map.mp hz
  exact Int.mul_nonneg (Int.ediv_nonneg (Int.le_of_lt hs) (Int.le_of_lt hS)) (hp x hx)
end Ab

/-! ## AbR17 -/
set_option Elab.async false
set_option linter.all false
set_option maxRecDepth 100000
set_option maxHeartbeats 2000000
namespace Ab
open PySem L2
theorem negW_ok {k : Nat} {b : Int} {M : List WRow} (h : LOkB k b M) : LOkB k b (negW M) := fun r hr => by
  obtain ⟨q, hq, rfl⟩ := List.mem_map.mp hr
  exact h q hq
theorem app_ok {k : Nat} {b : Int} {L M : List WRow} (h : LOkB k b L) (g : LOkB k b M) : LOkB k b (L ++ M) := fun r hr => (List.mem_append.mp hr).elim (h r) (g r)
theorem perm_okB {k : Nat} {b : Int} {L M : List WRow} (p : M.Perm L) (h : LOkB k b L) : LOkB k b M := fun r hr => h r (p.mem_iff.mp hr)
theorem diff_ok {k : Nat} {b : Int} {LA LB D : List WRow} (hD : D.Perm (mergedL (LA ++ negW LB))) (hA : LOkB k b LA) (hB : LOkB k b LB) : LOkB k b D ∧ D.length ≤ LA.length + LB.length := by
  obtain ⟨o, l⟩ := mergedL_ok (app_ok hA (negW_ok hB))
  refine ⟨perm_okB hD o, ?_⟩
  rw [hD.length_eq]
  refine Nat.le_trans l ?_
  rw [List.length_append]
  unfold negW
  rw [List.length_map]
  exact Nat.le_refl _
theorem made_ok {k : Nat} {s : Int} {L : List WRow} {rs : List Raw} {A : List Row} (hs : 0 < s) (b : LOkB k 20 L) (m : MadeOf k s L rs) (hA : A.Perm (plainR rs)) : (∀ r ∈ A, RowOk k r) ∧ A.length ≤ L.length := by
  refine ⟨fun r hr => (plainR_ok m.1).1 r (hA.mem_iff.mp hr), ?_⟩
  have p := rows_perm (X := L) hs hA (List.Perm.refl (mergedL L)) fun key _ => m.2 key
  rw [p.length_eq, List.length_map]
  exact (mergedL_ok b).2
/-- what is asked of the rows of a gap -/
theorem small_of {k : Nat} {s : Int} {R : List Row} {D : List WRow} (hs : 0 < s ∧ s ≤ 10) (h : R.Perm (D.map fun r => (r.1, keyS s r.2))) (b : LOkB k 20 D) : Small R := by
  obtain ⟨S0, Sd, hw, hr⟩ := wholes_perm hs.1 h
  have sl : scaleQ R ≤ s := Int.le_of_dvd hs.1 Sd
  refine ⟨by omega, fun w hwm x hx => ?_⟩
  obtain ⟨r, hrm, rfl⟩ := List.mem_map.mp (hw.mem_iff.mp hwm)
  obtain ⟨i, hi⟩ := List.getElem?_of_mem hx
  obtain ⟨n, hn, e⟩ := (hr r hrm).get' hi
  have hn20 := ((b r hrm).2 n (List.mem_of_getElem? hn)).2
  have hK : 0 < s / scaleQ R := Int.ediv_pos_of_pos_of_dvd hs.1 (Int.le_of_lt S0) Sd
  generalize s / scaleQ R = K at e hK
  by_cases h0 : x ≤ 20
  · omega
  · have e2 : n = K * x := by
      rw [Int.mul_assoc] at e
      omega
    have : 1 * x ≤ K * x := Int.mul_le_mul_of_nonneg_right (by omega) (by omega)
    omega
section
variable {k : Nat} {s : Int} {LA LB D : List WRow} {rsA rsB : List Raw} {A B : List Row}
theorem gap_pre (hk : 1 ≤ k ∧ k ≤ 3) (hs : 0 < s ∧ s ≤ 10) (bA : LOkB k 20 LA) (bB : LOkB k 20 LB) (hl : LA.length + LB.length ≤ 14) (mA : MadeOf k s LA rsA) (mB : MadeOf k s LB rsB) (hA : A.Perm (plainR rsA)) (hB : B.Perm (plainR rsB)) : GapPre k A B := by
  obtain ⟨a1, a2⟩ := made_ok hs.1 bA mA hA
  obtain ⟨b1, b2⟩ := made_ok hs.1 bB mB hB
  refine ⟨hk, a1, b1, by omega, fun R hR => ?_⟩
  exact small_of hs (gap_rows hs.1 hA hB mA mB hR (List.Perm.refl _)) (diff_ok (List.Perm.refl _) bA bB).1
/-- what never_below tells, beside the law's highest gain -/
theorem told_ok {R : List Row} {p : List Int} (hk : k ≤ 3) (hs : 0 < s ∧ s ≤ 10) (mA : MadeOf k s LA rsA) (mB : MadeOf k s LB rsB) (hA : A.Perm (plainR rsA)) (hB : B.Perm (plainR rsB)) (hR : GapOf k A B R) (hb : BestP k R p) (hD : D.Perm (mergedL (LA ++ negW LB))) :
    (∀ (PL : List Plane) (ps : List (List Int)), (∀ q, q ∈ PL ↔ PlaneOf D q) → (∀ q, q ∈ ps ↔ CornerQ PL k (orders3 k) q) → (maxI (0 :: ps.map fun q => gainL D q) = 0 ↔ ¬ 0 < gainW (wholes R) p)) ∧
    (0 < gainW (wholes R) p → gainX LB ((toldQ s (scaleQ R) p).map (·.2)) < gainX LA ((toldQ s (scaleQ R) p).map (·.2))) ∧
    p.length = k ∧ (∀ x ∈ p, 0 ≤ x) ∧ 0 < scaleQ R ∧ scaleQ R ∣ s := by
  have hp := gap_rows hs.1 hA hB mA mB hR hD
  obtain ⟨S0, Sd, hw, hr⟩ := wholes_perm hs.1 hp
  refine ⟨fun PL ps hP hps => highest_zero hs.1 hk hp hP hps hb, fun h => ?_, ?_⟩
  · rw [toldQ_snd]
    exact gain_less hs.1 hp hD h
  · obtain ⟨E, G, hS, hc, _⟩ := hb
    have hc0 := cornerP_ok hc
    refine ⟨?_, hc0.2, S0, Sd⟩
    obtain ⟨o, ho, row, hrow, rfl⟩ := hc
    obtain ⟨h1, _⟩ := knownP_in o.length o rfl row hrow
    unfold sortP
    rw [List.length_map, (List.mergeSort_perm row (PySem.W.dataLe false pdq)).length_eq, ← List.length_map (f := (·.1)) (as := row), h1]
    exact (orders3_ok k hk o ho).1
/-- the prices told are ratios in lowest terms from 0 on -/
theorem lowP_ok {S : Int} {p : List Int} (hS : 0 < S ∧ S ≤ 10) (hp : ∀ x ∈ p, 0 ≤ x) : ∀ q ∈ lowP S p, 0 < q.2 ∧ q.2 ≤ 10 ∧ gcdI q.1 q.2 = 1 ∧ 0 ≤ q.1 := fun q hq => by
  obtain ⟨x, hx, rfl⟩ := List.mem_map.mp hq
  have h1 := low_snd_pos x S hS.1
  have h2 := low_snd_le x S hS.1
  refine ⟨h1, by omega, gcdI_low x S hS.1, ?_⟩
  show 0 ≤ x / gcdI x S
  exact Int.ediv_nonneg (hp x hx) (Int.le_of_lt (gcdI_pos x S hS.1))
end
end Ab

/-! ## AbY1 -/
set_option Elab.async false
set_option linter.all false
set_option maxRecDepth 100000
set_option maxHeartbeats 4000000
namespace Ab
open PySem L2
local macro_rules | `(tactic| walk_at "g") => `(tactic| first
  | with_reducible refine sc_seq ?_ | with_reducible refine sc_if ?_ | with_reducible refine sc_ret ?_ | with_reducible refine sc_asg ?_ | with_reducible refine sc_par ?_ | with_reducible refine sc_next ?_
  | ((with_reducible refine ec_var (d := ?dd) ?hv ?_); (case hv => exact rfl)) | with_reducible refine ec_int ?_ | with_reducible refine ec_bl ?_ | with_reducible refine ec_str ?_ | with_reducible refine ec_ty ?_ | with_reducible refine ec_non ?_
  | with_reducible refine ec_op ?_ | with_reducible refine ec_call ?_ | with_reducible refine ec_un ?_ | with_reducible refine ec_cb ?_ | with_reducible refine ec_if ?_ | with_reducible refine ec_andV ?_ | with_reducible refine ec_orV ?_ | with_reducible refine ec_notV ?_
  | with_reducible refine ac_cons ?_ | with_reducible refine ac_nil ?_ | (with_reducible refine ec_tup (ac_cons ?_)) | with_reducible refine ec_tup ?_
  | with_reducible refine tc_test ?_ | with_reducible refine tc_B ?_ | with_reducible refine tc_and ?_ | with_reducible refine tc_or ?_ | with_reducible refine tc_not ?_ | with_reducible refine tc_yes ?_
  | with_reducible refine rc_i0 ?_ | with_reducible refine rc_b0 ?_ | with_reducible refine rc_eqI ?_ | with_reducible refine rc_neI ?_ | with_reducible refine rc_eqS ?_ | with_reducible refine uc_neg ?_
  | with_reducible refine bc_int ?_ | with_reducible refine bc_abs ?_ | with_reducible refine bc_lenL ?_ | with_reducible refine bc_lenT ?_ | with_reducible refine bc_tupL ?_ | with_reducible refine bc_tupT ?_
  | with_reducible refine ec_chain ?_ | with_reducible refine ec_dget ?_ | with_reducible refine ec_dget2 ?_ | with_reducible refine ec_din ?_ | with_reducible refine ec_nget ?_ | with_reducible refine ec_nget2 ?_ | with_reducible refine ec_nnotin ?_ | with_reducible refine ec_app ?_ | with_reducible refine sc_nput ?_ | with_reducible refine sc_drop ?_ | with_reducible refine ec_setd ?_ | with_reducible refine ec_make ?_ | with_reducible refine ec_disp ?_ | with_reducible refine pc_cons ?_ | with_reducible refine pc_nil ?_ | with_reducible refine gc_sub ?_ | with_reducible refine sc_asgG ?_
  | with_reducible refine ⟨_, rfl, ?_⟩ | refine iteT ?_ | refine iteF ?_ | dsimp only )

/-! the law's own body: its parts by places -/
def forBody : Stmt → List Stmt
  | .For (body := b) .. => b
  | _ => []
abbrev lapS : List Stmt := forBody ((defBody s_law).getD 3 (.Pass ⟨0, 0, 0, 0⟩))
abbrev pairS : List Stmt := forBody (lapS.getD 3 (.Pass ⟨0, 0, 0, 0⟩))
abbrev lawN : List Str := ["_law_script", "_law_pen_here", "_law_kinds", "_law_scale_here", "_law_many", "_law_lap", "_law_one", "_law_other", "_law_second", "_law_left", "_law_right", "_law_low", "_law_high", "_law_told", "_law_due", "_law_first", "_law_wide", "_law_price"]
theorem sc_law : FnScope lawN ["_law_script"] (defScope s_law) := ⟨rfl, rfl, rfl, by decide +kernel, rfl, by decide +kernel, by decide +kernel⟩
section
variable {P : Program} {w : World} {K : PySem.W.Frag} {mg : Str → Option Value} {base : Heap} {cdv : Value} {A : Around} {outer : List Env} {s : Shared} {H : Hp} {E : XK} {f : Addr}
/-- what is known of two lists and of what the package has made of them -/
structure Two (k : Nat) (s0 : Int) (LA LB : List WRow) (rsA rsB : List Raw) (RA RB : List Row) : Prop where
  hk : 1 ≤ k ∧ k ≤ 3
  hs : 0 < s0 ∧ s0 ≤ 10
  bA : LOkB k 20 LA
  bB : LOkB k 20 LB
  hl : LA.length + LB.length ≤ 14
  mA : MadeOf k s0 LA rsA
  mB : MadeOf k s0 LB rsB
  pA : RA.Perm (plainR rsA)
  pB : RB.Perm (plainR rsB)
theorem pair_ok (T : Txt K mg) (hr : Room 12 (A.deeper (PyProof.Rows.envOfC "law" (defScope s_law) s.heap.objs.size f cdv))) :
    ∃ t, PSs (cxOf CX0 P w K mg base lawN "law" (defScope s_law) f cdv A outer s H E).nox pairS t ∧
      ∀ (k : Nat) (s0 : Int) (LA LB : List WRow) (rsA rsB : List Raw) (RA RB : List Row) (O : Ow) (e0 e1 e3 e4 e5 e6 e7 e8 e13 e14 e15 : Option D), Two k s0 LA LB rsA rsB RA RB →
        Sc t { nx := fun τ O' => O' = O ∧ ∃ y13 y14, τ = [e0, e1, some (.int k), e3, e4, e5, e6, e7, e8, some (bidsD K k RB), some (bidsD K k RA), some (bidD k s0 LB), some (bidD k s0 LA), y13, y14, e15, none, none], rt := fun _ _ => False }
          [e0, e1, some (.int k), e3, e4, e5, e6, e7, e8, some (bidsD K k RB), some (bidsD K k RA), some (bidD k s0 LB), some (bidD k s0 LA), e13, e14, e15, none, none] O := by
  have S := sc_law
  have k_never_below := kn_never_below (P := P) (w := w) (base := base) T
  have k__law_highest := kn__law_highest (P := P) (w := w) (base := base) T
  have k__law_difference := kn__law_difference (P := P) (w := w) (base := base) T
  have k__law_are_ratios := kn__law_are_ratios (P := P) (w := w) (base := base) T
  have k__law_less := kn__law_less (P := P) (w := w) (base := base) T
  have k__law_gain_at := kn__law_gain_at (P := P) (w := w) (base := base) T
  have hu := hu_of hr
  have hu64 := hr.units
  have hu9 := hu9_of hr
  refine ⟨_, (pss_cons (ps_par (i := 13) (j := 14) rfl S.nd rfl rfl (by decide) rfl rfl (pa_cons (pe_kn k_never_below hr (by decide) (pa_cons (pv 9) (pa_cons (pv 10) pa_nil))) (pa_cons (pe_cmpR op_eq (pe_kn k__law_highest hr (by decide) (pa_cons (pe_kn k__law_difference hr (by decide) (pa_cons (pv 12) (pa_cons (pv 11) pa_nil))) pa_nil)) pe_int (nomark _)) pa_nil)) (by rfl))
        (pss_cons (ps_if (PW.pt (pw_and (pt_val (pv 14)) (pw_and1 (pt_cmp (pc_notN (pv 13)))))) (pss_one (ps_ret pe_bl)) pss_nil)
        (pss_one (ps_if (pt_not (pt_val (pv 14))) (pss_cons (ps_if (PW.pt (pw_or (pt_not (pt_val (pe_kn k__law_are_ratios hr (by decide) (pa_cons (pv 13) (pa_cons (pv 2) pa_nil))))) (pw_or1 (pt_cmpR (op_neDK (K := K) rfl hu64) (pe_lc (own := [("_law_price", 17)]) rfl S.nd (pi_tupK (K := K) rfl (pv 13)) (blkOk_by (own := [("_law_price", 17)]) (by kernel_rfl)) (fun _ _ _ _ _ => (pg_name (i := 17) S.nd rfl (by first | exact Or.inl rfl | exact Or.inr rfl))) (fun _ _ _ _ _ => (pts_one (pt_cmpR op_lt (pe_ix (ix_seqK (K := K) rfl) (pv 17) pe_int (fun _ _ => rfl)) pe_int (nomark _)))) (fun _ _ _ _ _ => (pv 17))) (pe_lst pa_nil) (nomark _))))) (pss_one (ps_ret pe_bl)) pss_nil)
        (pss_one (ps_if (pt_not (pt_val (pe_kn k__law_less hr (by decide) (pa_cons (pe_kn k__law_gain_at hr (by decide) (pa_cons (pv 11) (pa_cons (pv 13) pa_nil))) (pa_cons (pe_kn k__law_gain_at hr (by decide) (pa_cons (pv 12) (pa_cons (pv 13) pa_nil))) pa_nil))))) (pss_one (ps_ret pe_bl)) pss_nil))) pss_nil)))), ?_⟩
  clear hu hu64 hu9 S hr k_never_below k__law_highest k__law_difference k__law_are_ratios k__law_less k__law_gain_at T
  intro k s0 LA LB rsA rsB RA RB O e0 e1 e3 e4 e5 e6 e7 e8 e13 e14 e15 t
  repeat walk_at "g"
  refine ⟨k, RA, RB, rfl, gap_pre t.hk t.hs t.bA t.bB t.hl t.mA t.mB t.pA t.pB, fun R p hR hb => ?_⟩
  repeat walk_at "g"
  refine ⟨k, s0, k, s0, LA, LB, rfl, by have := t.hl; omega, t.bA.ne t.hk.1, t.bB.ne t.hk.1, fun Df hD => ?_⟩
  obtain ⟨okD, lenD⟩ := diff_ok hD t.bA t.bB
  obtain ⟨h1, h2, h3, h4, h5, h6⟩ := told_ok t.hk.2 t.hs t.mA t.mB t.pA t.pB hR hb hD
  have hS10 : scaleQ R ≤ 10 := by
    have := Int.le_of_dvd t.hs.1 h6
    have := t.hs.2
    omega
  repeat walk_at "g"
  refine ⟨k, s0, Df, rfl, t.hk, by have := t.hl; omega, fun r hr => ⟨(okD r hr).1, fun x hx => by have := ((okD r hr).2 x hx).2; omega⟩, fun PL ps hP hps => ?_⟩
  have h1 := h1 PL ps hP hps
  generalize maxI (0 :: ps.map fun q => gainL Df q) = mx at h1 ⊢
  repeat walk_at "g"
  by_cases hg : 0 < gainW (wholes R) p
  · rw [if_pos hg, decide_eq_false fun z => h1.mp z hg]
    refine ⟨_, _, rfl, ?_⟩
    repeat walk_at "g"
    have lk : (lowP (scaleQ R) p).length = k := by
      unfold lowP
      rw [List.length_map]
      exact h3
    have lok := lowP_ok ⟨h5, hS10⟩ h4
    refine ⟨lowP (scaleQ R) p, by rw [lk], by rw [lk]; exact t.hk.2, fun q hq => let z := lok q hq; ⟨z.1, by omega, z.2.2.1⟩, ?_⟩
    repeat walk_at "g"
    refine ec_lcp (lowP (scaleQ R) p) ratD (fun _ => false) ratD (ic_tup (ec_var rfl ⟨_, rfl, rfl, rfl, trivial⟩)) (sz_ok (by rw [lk]; have := t.hk.2; omega)) (fun q hq => ?_) (.inl ?_)
    · refine ⟨_, _, ?_, gc_name, ?_⟩
      · decide
      have z := (lok q hq).2.2.2
      repeat walk_at "g"
      refine rc_ixT (d := .int q.1) rfl ?_
      repeat walk_at "g"
      exact ⟨rfl, decide_eq_false (by omega), fun y => absurd (of_decide_eq_true y) (by omega)⟩
    have e : ((lowP (scaleQ R) p).filter fun _ => false).map ratD = [] := by
      rw [List.filter_eq_nil_iff.mpr fun _ _ => Bool.false_ne_true]
      rfl
    rw [e]
    refine ec_lst (ac_nil ⟨by show 0 ≤ sizeLine; decide, ?_⟩)
    refine rc_neD (.lst .nil) (.lst .nil) rfl rfl ⟨_, rfl, ?_⟩
    repeat walk_at "g"
    have e1 : lowP (scaleQ R) p = (toldQ s0 (scaleQ R) p).map (·.1) := (toldQ_fst s0 (scaleQ R) p).symm
    have lt3 : (toldQ s0 (scaleQ R) p).length ≤ 3 := by
      unfold toldQ
      rw [List.length_map, h3]
      exact t.hk.2
    have rp := toldQ_reps (p := p) h5 h6
    have nn := toldQ_nn (s := s0) t.hs.1 h5 h4
    have b20 : ∀ {L : List WRow}, LOkB k 20 L → ∀ r ∈ L, ∀ x ∈ r.2, x ≤ 1000 := fun h r hr x hx => by
      have := ((h r hr).2 x hx).2
      omega
    have h2 := h2 hg
    refine ⟨k, s0, LB, toldQ s0 (scaleQ R) p, by rw [e1], t.hs, lt3, rp, nn, b20 t.bB, fun gB rB => ?_⟩
    repeat walk_at "g"
    refine ⟨k, s0, LA, toldQ s0 (scaleQ R) p, by rw [e1], t.hs, lt3, rp, nn, b20 t.bA, fun gA rA => ?_⟩
    repeat walk_at "g"
    have lB := rB.le t.hs.1
    have lA := rA.le t.hs.1
    have hs10 := t.hs.2
    refine ⟨gB, gA, rfl, rB.pos, rA.pos, by omega, by omega, ?_⟩
    rw [decide_eq_true ((rep_lt t.hs.1 rB rA).mpr h2)]
    repeat walk_at "g"
    exact ⟨rfl, _, _, rfl⟩
  · rw [if_neg hg, decide_eq_true (h1.mpr hg)]
    refine ⟨_, _, rfl, ?_⟩
    repeat walk_at "g"
    refine ec_notN ?_
    repeat walk_at "g"
    refine ⟨true, fun B v h => by cases h; rfl, ?_⟩
    repeat walk_at "g"
    exact ⟨rfl, _, _, rfl⟩
end
end Ab

/-! ## AbY2 -/
set_option Elab.async false
set_option linter.all false
set_option maxRecDepth 100000
set_option maxHeartbeats 4000000
namespace Ab
open PySem L2
local macro_rules | `(tactic| walk_at "g") => `(tactic| first
  | with_reducible refine sc_seq ?_ | with_reducible refine sc_if ?_ | with_reducible refine sc_ret ?_ | with_reducible refine sc_asg ?_ | with_reducible refine sc_par ?_ | with_reducible refine sc_next ?_
  | ((with_reducible refine ec_var (d := ?dd) ?hv ?_); (case hv => exact rfl)) | with_reducible refine ec_int ?_ | with_reducible refine ec_bl ?_ | with_reducible refine ec_str ?_ | with_reducible refine ec_ty ?_ | with_reducible refine ec_non ?_
  | with_reducible refine ec_op ?_ | with_reducible refine ec_call ?_ | with_reducible refine ec_un ?_ | with_reducible refine ec_cb ?_ | with_reducible refine ec_if ?_ | with_reducible refine ec_andV ?_ | with_reducible refine ec_orV ?_ | with_reducible refine ec_notV ?_
  | with_reducible refine ac_cons ?_ | with_reducible refine ac_nil ?_ | (with_reducible refine ec_tup (ac_cons ?_)) | with_reducible refine ec_tup ?_
  | with_reducible refine tc_test ?_ | with_reducible refine tc_B ?_ | with_reducible refine tc_and ?_ | with_reducible refine tc_or ?_ | with_reducible refine tc_not ?_ | with_reducible refine tc_yes ?_
  | with_reducible refine rc_i0 ?_ | with_reducible refine rc_b0 ?_ | with_reducible refine rc_eqI ?_ | with_reducible refine rc_neI ?_ | with_reducible refine rc_eqS ?_ | with_reducible refine uc_neg ?_
  | with_reducible refine bc_int ?_ | with_reducible refine bc_abs ?_ | with_reducible refine bc_lenL ?_ | with_reducible refine bc_lenT ?_ | with_reducible refine bc_tupL ?_ | with_reducible refine bc_tupT ?_
  | with_reducible refine ec_chain ?_ | with_reducible refine ec_dget ?_ | with_reducible refine ec_dget2 ?_ | with_reducible refine ec_din ?_ | with_reducible refine ec_nget ?_ | with_reducible refine ec_nget2 ?_ | with_reducible refine ec_nnotin ?_ | with_reducible refine ec_app ?_ | with_reducible refine sc_nput ?_ | with_reducible refine sc_drop ?_ | with_reducible refine ec_setd ?_ | with_reducible refine ec_make ?_ | with_reducible refine ec_disp ?_ | with_reducible refine pc_cons ?_ | with_reducible refine pc_nil ?_ | with_reducible refine gc_sub ?_ | with_reducible refine sc_asgG ?_
  | with_reducible refine ⟨_, rfl, ?_⟩ | refine iteT ?_ | refine iteF ?_ | dsimp only )

section
variable {P : Program} {w : World} {K : PySem.W.Frag} {mg : Str → Option Value} {base : Heap} {cdv : Value} {A : Around} {outer : List Env} {s : Shared} {H : Hp} {E : XK} {f : Addr}
/-- behind i laps -/
def LawI (K : PySem.W.Frag) (p : Addr) (ns : List Int) (k : Nat) (s0 m : Int) (i : Nat) (τ : Tau) (O' : Ow) : Prop := ∃ (n : Nat) (x5 x6 x7 x8 x9 x10 x11 x12 x13 x14 x15 : Option D), n ≤ 2 + 2000 * i ∧ i ≤ 3 ∧ O' = [(p, oPen n)] ∧ (0 < i → ∃ R, x15 = some (bidsD K k R)) ∧
  τ = [some (.sl K ns), some (.adr p), some (.int k), some (.int s0), some (.int m), x5, x6, x7, x8, x9, x10, x11, x12, x13, x14, x15, none, none]
theorem lap_ok (T : Txt K mg) (hr : Room 12 (A.deeper (PyProof.Rows.envOfC "law" (defScope s_law) s.heap.objs.size f cdv))) :
    ∃ t, PSs (cxOf CX0 P w K mg base lawN "law" (defScope s_law) f cdv A outer s H E).nox lapS t ∧
      ∀ (p : Addr) (ns : List Int) (k : Nat) (s0 m : Int) (i : Nat) (j : Int) (τ : Tau) (O' : Ow), 1 ≤ k ∧ k ≤ 3 → 0 < s0 ∧ s0 ≤ 10 → 2 ≤ m ∧ m ≤ 4 → i < 3 → LawI K p ns k s0 m i τ O' →
        Sc t { nx := LawI K p ns k s0 m (i + 1), rt := fun _ _ => False } (τ.set 5 (some (.int j))) O' := by
  have S := sc_law
  have k__law_list := kn__law_list (P := P) (w := w) (base := base) T
  have k__law_pick := kn__law_pick (P := P) (w := w) (base := base) T
  have k__law_draw := kn__law_draw (P := P) (w := w) (base := base) T
  have k__law_over := kn__law_over (P := P) (w := w) (base := base) T
  have k__law_made := kn__law_made (P := P) (w := w) (base := base) T
  obtain ⟨tb, ht, hb⟩ := pair_ok (P := P) (w := w) (base := base) (outer := outer) (H := H) (E := E) T hr
  refine ⟨_, (pss_cons (ps_set (i := 6) S.nd rfl (Or.inl rfl) (pe_kn k__law_list hr (by decide) (pa_cons (pv 1) (pa_cons (pv 2) (pa_cons (pv 3) (pa_cons (pe_kn k__law_pick hr (by decide) (pa_cons (pv 1) (pa_cons (pe_lst (pa_cons pe_int (pa_cons pe_int pa_nil))) pa_nil))) (pa_cons (pe_kn k__law_draw hr (by decide) (pa_cons (pv 1) (pa_cons (pe_op op_add (pv 4) pe_int) pa_nil))) pa_nil)))))))
        (pss_cons (ps_set (i := 7) S.nd rfl (Or.inl rfl) (pe_kn k__law_over hr (by decide) (pa_cons (pv 1) (pa_cons (pv 6) (pa_cons (pv 4) pa_nil)))))
        (pss_cons (ps_asg (pe_tup (pa_cons (pe_kn k__law_made hr (by decide) (pa_cons (pv 1) (pa_cons (pv 6) pa_nil))) (pa_cons (pe_kn k__law_made hr (by decide) (pa_cons (pv 1) (pa_cons (pv 7) pa_nil))) pa_nil))) (pg_tupK (K := K) (n := 2) rfl rfl (pgs_cons (pg_name (i := 15) S.nd rfl (Or.inr rfl)) (pgs_cons (pg_name (i := 8) S.nd rfl (Or.inl rfl)) pgs_nil))))
        (pss_one (ps_for PassesOwn.never rfl (pi_listK (K := K) rfl (pe_lst (pa_cons (pe_tup (pa_cons (pv 15) (pa_cons (pv 8) (pa_cons (pv 6) (pa_cons (pv 7) pa_nil))))) (pa_cons (pe_tup (pa_cons (pv 8) (pa_cons (pv 15) (pa_cons (pv 7) (pa_cons (pv 6) pa_nil))))) pa_nil)))) (pg_tupK (K := K) (n := 4) rfl rfl (pgs_cons (pg_name (i := 9) S.nd rfl (Or.inl rfl)) (pgs_cons (pg_name (i := 10) S.nd rfl (Or.inl rfl)) (pgs_cons (pg_name (i := 11) S.nd rfl (Or.inl rfl)) (pgs_cons (pg_name (i := 12) S.nd rfl (Or.inl rfl)) pgs_nil))))) ht))))), ?_⟩
  clear S hr k__law_list k__law_pick k__law_draw k__law_over k__law_made T ht
  rintro p ns k s0 m i j τ O' hk hs1 ⟨m1, m2⟩ hi3 ⟨n, x5, x6, x7, x8, x9, x10, x11, x12, x13, x14, x15, hn, hi, rfl, h15, rfl⟩
  repeat walk_at "g"
  refine ec_lst ?_
  repeat walk_at "g"
  refine ⟨sz_ok (by show 2 ≤ _; decide), ?_⟩
  repeat walk_at "g"
  refine ⟨p, n, [.int 4, .int 9], [], rfl, rfl, by decide, by decide, by omega, fun dm hdm => ?_⟩
  obtain ⟨most, rfl, q1, q9⟩ : ∃ most : Int, dm = .int most ∧ 1 ≤ most ∧ most ≤ 9 := by
    rcases List.mem_cons.mp hdm with rfl | z
    · exact ⟨4, rfl, by decide, by decide⟩
    · exact ⟨9, List.mem_singleton.mp z, by decide, by decide⟩
  repeat walk_at "g"
  refine ⟨p, n + 1, m + 1, [], rfl, rfl, by omega, by omega, by omega, fun mm u0 u1 => ?_⟩
  repeat walk_at "g"
  refine ⟨p, n + 1 + 1, k, s0, most, mm, [], rfl, rfl, hk, ⟨q1, q9⟩, ⟨u0, by omega⟩, by omega, fun L hL hLl => ?_⟩
  repeat walk_at "g"
  refine ⟨p, _, k, s0, m, L, [], rfl, rfl, hk, ⟨by omega, by omega⟩, by omega, hL, by omega, fun M hM hMl => ?_⟩
  repeat walk_at "g"
  have hL20 := hL.mono (C := 20) (by decide)
  refine ⟨p, _, k, s0, L, [], rfl, rfl, hk, hs1, by omega, hL20, by omega, fun rsL RL mL pL => ?_⟩
  repeat walk_at "g"
  refine ⟨p, _, k, s0, M, [], rfl, rfl, hk, hs1, by omega, hM, by omega, fun rsM RM mM pM => ?_⟩
  repeat walk_at "g"
  refine ⟨sz_ok (by show 2 ≤ _; decide), _, _, gc_tup (gcs_cons (gcs_cons gcs_nil)) rfl, ?_⟩
  have hlen : M.length + L.length ≤ 14 := by omega
  have hN : n + 1 + 1 + 80 + 80 + 12 * L.length + 12 * M.length ≤ 2 + 2000 * (i + 1) := by omega
  clear hn hLl hMl
  generalize n + 1 + 1 + 80 + 80 + 12 * L.length + 12 * M.length = N at hN ⊢
  refine sc_for (ic_list (ec_lst ?_))
  repeat walk_at "g"
  refine ⟨sz_ok (by show 4 ≤ _; decide), ?_⟩
  repeat walk_at "g"
  refine ⟨sz_ok (by show 4 ≤ _; decide), ?_⟩
  repeat walk_at "g"
  refine ⟨sz_ok (by show 2 ≤ _; decide), ?_⟩
  repeat walk_at "g"
  refine ⟨fun _ τ O' => O' = [(p, oPen N)] ∧ ∃ (y9 y10 y11 y12 y13 y14 : Option D), τ = [some (.sl K ns), some (.adr p), some (.int k), some (.int s0), some (.int m), some (.int j), some (bidD k s0 L), some (bidD k s0 M), some (bidsD K k RM), y9, y10, y11, y12, y13, y14, some (bidsD K k RL), none, none],
    ⟨rfl, _, _, _, _, _, _, rfl⟩, fun _ _ _ _ => trivial, ?_, ?_⟩
  · rintro i2 x τ O1 hx ⟨rfl, y9, y10, y11, y12, y13, y14, rfl⟩
    obtain ⟨LA, LB, rsA, rsB, RA, RB, rfl, two⟩ : ∃ (LA LB : List WRow) (rsA rsB : List Raw) (RA RB : List Row), x = .tup [bidsD K k RB, bidsD K k RA, bidD k s0 LB, bidD k s0 LA] ∧ Two k s0 LA LB rsA rsB RA RB := by
      match i2, hx with
      | 0, hx => exact ⟨M, L, rsM, rsL, RM, RL, (Option.some.inj hx).symm, hk, hs1, hM, hL20, hlen, mM, mL, pM, pL⟩
      | 1, hx => exact ⟨L, M, rsL, rsM, RL, RM, (Option.some.inj hx).symm, hk, hs1, hL20, hM, by omega, mL, mM, pL, pM⟩
      | n + 2, hx => cases hx
    refine ⟨_, _, gc_tup (gcs_cons (gcs_cons (gcs_cons (gcs_cons gcs_nil)))) rfl, ?_⟩
    refine (hb k s0 LA LB rsA rsB RA RB _ _ _ _ _ _ _ _ _ _ _ _ two).imp (fun τ O2 z => ?_) (fun _ _ z => z.elim) (fun _ _ z => z.elim) fun _ _ z => z.elim
    obtain ⟨rfl, u13, u14, rfl⟩ := z
    exact ⟨rfl, _, _, _, _, _, _, rfl⟩
  · rintro τ O1 ⟨rfl, y9, y10, y11, y12, y13, y14, rfl⟩
    exact ⟨N, _, _, _, _, _, _, _, _, _, _, _, hN, by omega, rfl, fun _ => ⟨RL, rfl⟩, rfl⟩
end
end Ab

/-! ## AbY3 -/
set_option Elab.async false
set_option linter.all false
set_option maxRecDepth 100000
set_option maxHeartbeats 4000000
namespace Ab
open PySem L2
local macro_rules | `(tactic| walk_at "g") => `(tactic| first
  | with_reducible refine sc_seq ?_ | with_reducible refine sc_if ?_ | with_reducible refine sc_ret ?_ | with_reducible refine sc_asg ?_ | with_reducible refine sc_par ?_ | with_reducible refine sc_next ?_
  | ((with_reducible refine ec_var (d := ?dd) ?hv ?_); (case hv => exact rfl)) | with_reducible refine ec_int ?_ | with_reducible refine ec_bl ?_ | with_reducible refine ec_str ?_ | with_reducible refine ec_ty ?_ | with_reducible refine ec_non ?_
  | with_reducible refine ec_op ?_ | with_reducible refine ec_call ?_ | with_reducible refine ec_un ?_ | with_reducible refine ec_cb ?_ | with_reducible refine ec_if ?_ | with_reducible refine ec_andV ?_ | with_reducible refine ec_orV ?_ | with_reducible refine ec_notV ?_
  | with_reducible refine ac_cons ?_ | with_reducible refine ac_nil ?_ | (with_reducible refine ec_tup (ac_cons ?_)) | with_reducible refine ec_tup ?_
  | with_reducible refine tc_test ?_ | with_reducible refine tc_B ?_ | with_reducible refine tc_and ?_ | with_reducible refine tc_or ?_ | with_reducible refine tc_not ?_ | with_reducible refine tc_yes ?_
  | with_reducible refine rc_i0 ?_ | with_reducible refine rc_b0 ?_ | with_reducible refine rc_eqI ?_ | with_reducible refine rc_neI ?_ | with_reducible refine rc_eqS ?_ | with_reducible refine uc_neg ?_
  | with_reducible refine bc_int ?_ | with_reducible refine bc_abs ?_ | with_reducible refine bc_lenL ?_ | with_reducible refine bc_lenT ?_ | with_reducible refine bc_tupL ?_ | with_reducible refine bc_tupT ?_
  | with_reducible refine ec_chain ?_ | with_reducible refine ec_dget ?_ | with_reducible refine ec_dget2 ?_ | with_reducible refine ec_din ?_ | with_reducible refine ec_nget ?_ | with_reducible refine ec_nget2 ?_ | with_reducible refine ec_nnotin ?_ | with_reducible refine ec_app ?_ | with_reducible refine sc_nput ?_ | with_reducible refine sc_drop ?_ | with_reducible refine ec_setd ?_ | with_reducible refine ec_make ?_ | with_reducible refine ec_disp ?_ | with_reducible refine pc_cons ?_ | with_reducible refine pc_nil ?_ | with_reducible refine gc_sub ?_ | with_reducible refine sc_asgG ?_
  | with_reducible refine ⟨_, rfl, ?_⟩ | refine iteT ?_ | refine iteF ?_ | dsimp only )

theorem scp_run {P : Addr} {ts : TS} {N : List Str} {vs : List V} {ds : List D} {H : Hp} {Q : VK} (hd : DtL (noT H) vs ds) (hP : H P = some (.tbl #[])) (hQ : ∀ G, Q (.bl true) G) (h : ScP P ts (ds.map some ++ List.replicate (N.length - ds.length) none) []) :
    ts { nx := fun _ G => Q .non G, rt := Q } (L2.start N vs) H :=
  h _ (noT H) H (sl_start hd) ⟨noT_sub, List.nodup_nil, fun p hp => absurd hp List.not_mem_nil⟩ (noT_tbl hP) hP (fun z => absurd z List.not_mem_nil) _ hQ
def spL (K : PySem.W.Frag) (Pt : Addr) : Sp := fun vs H Q _ => ∃ (a : Addr) (ns : List Int), vs = [.ref a] ∧ ns.length ≤ 63 ∧ H Pt = some (.tbl #[]) ∧ SqL K H a (ns.map V.int) ∧ ∀ G, Q (.bl true) G
def mnyT : List (L2.Key × D) := [(.inl 1, .int 4), (.inl 2, .int 4), (.inl 3, .int 2)]
def lapT : List (L2.Key × D) := [(.inl 1, .int 3), (.inl 2, .int 2), (.inl 3, .int 1)]
def mny (k : Nat) : Int := if k = 3 then 2 else 4
theorem mny_ok (k : Nat) : 2 ≤ mny k ∧ mny k ≤ 4 := by
  unfold mny
  split <;> omega
theorem gt_mny {O : Ow} {k : Nat} (h1 : 1 ≤ k) (h3 : k ≤ 3) : Gt (.dK mnyT) (.int (k : Int)) O (some (.int (mny k))) := by
  have := gt_K (O := O) (kvs := mnyT) (k := .inl (k : Int)) (y := .int (k : Int)) rfl
  rcases (by omega : k = 1 ∨ k = 2 ∨ k = 3) with rfl | rfl | rfl <;> exact this
theorem gt_lap {O : Ow} {k : Nat} (h1 : 1 ≤ k) (h3 : k ≤ 3) : Gt (.dK lapT) (.int (k : Int)) O (some (.int (4 - (k : Int)))) := by
  have := gt_K (O := O) (kvs := lapT) (k := .inl (k : Int)) (y := .int (k : Int)) rfl
  rcases (by omega : k = 1 ∨ k = 2 ∨ k = 3) with rfl | rfl | rfl <;> exact this
theorem fn_law {P : Program} {w : World} {K : PySem.W.Frag} {mg : Str → Option Value} {base : Heap} (T : Txt K mg) (U : TxtE K mg) {c Pt : Addr} {oc dV kV doc pm ct : Value} {od an : Option Addr} {osl : Array (Option Value)}
    (lk : K.lookup (He.fAd K ("law", none)) = some ⟨oc, od, .func (PySem.W.fnOf "law" "law" (defArgs s_law) (defBody s_law) (defScope s_law) dV kV doc pm an (.ref c) ct), osl⟩) (hcd : PySem.W.codeIn K (.ref c) "law" = true) (TB : LamX.TabB base mg c Pt) :
    FnOk P w K mg base CX0 13 (He.fAd K ("law", none)) (PySem.W.fnOf "law" "law" (defArgs s_law) (defBody s_law) (defScope s_law) dV kV doc pm an (.ref c) ct) ["_law_script"] (spL K Pt) := by
  have S := sc_law
  have k__law_pen := kn__law_pen (P := P) (w := w) (base := base) T
  have k__law_draw := kn__law_draw (P := P) (w := w) (base := base) T
  have k__law_scale := kn__law_scale (P := P) (w := w) (base := base) T
  have k_Bids := kn_Bids___init__ (P := P) (w := w) (base := base) T
  obtain ⟨fdF, FF⟩ := T.d__law_fault
  obtain ⟨ocF, odF, dVF, kVF, docF, pmF, anF, cdvF, ctF, oslF, rfl, lkF, hcF, _, _⟩ := FF.ex
  obtain ⟨fdN, hbN, FN, kpN⟩ := fx_never (P := P) (w := w) (base := base) T U
  refine fn_of (k := 12) lk hcd S (fun vs H Q E h => ?_) fun A outer s H vs Q E hr h => ?_
  · obtain ⟨a, ns, rfl, _⟩ := h
    rfl
  obtain ⟨a, ns, rfl, hns, hT, hS, hQ⟩ := h
  obtain ⟨tl, hlap, hl⟩ := lap_ok (P := P) (w := w) (base := base) (outer := outer) (H := H) (E := E) T hr
  have hu := hu_of hr
  have hu64 := hr.units
  have hu9 := hu9_of hr
  refine ⟨_, PSs.nox (pss_cons (ps_set (i := 1) S.nd rfl (Or.inl rfl) (pe_kn k__law_pen hr (by decide) (pa_cons (pv 0) pa_nil)))
        (pss_cons (ps_par (i := 2) (j := 3) rfl S.nd rfl rfl (by decide) rfl rfl (pa_cons (pe_op op_add pe_int (pe_kn k__law_draw hr (by decide) (pa_cons (pv 1) (pa_cons pe_int pa_nil)))) (pa_cons (pe_kn k__law_scale hr (by decide) (pa_cons (pv 1) pa_nil)) pa_nil)) (by rfl))
        (pss_cons (ps_set (i := 4) S.nd rfl (Or.inl rfl) (pe_dget hu (pe_disp (pps_cons pe_int pe_int (pps_cons pe_int pe_int (pps_cons pe_int pe_int pps_nil))) (by rfl) (by rfl) (fun z => by cases z) (by decide)) (pv 2) (fun _ _ => rfl)))
        (pss_cons (ps_for PassesOwn.never rfl (pi_range1 (by rfl) T.f_range (pa_cons (pe_dget hu (pe_disp (pps_cons pe_int pe_int (pps_cons pe_int pe_int (pps_cons pe_int pe_int pps_nil))) (by rfl) (by rfl) (fun z => by cases z) (by decide)) (pv 2) (fun _ _ => rfl)) pa_nil)) (pg_name (i := 5) S.nd rfl (Or.inl rfl)) hlap)
        (pss_cons (ps_set (i := 16) S.nd rfl (Or.inr rfl) (pe_mk k_Bids hr (by decide) (pa_cons (pe_op op_add (pe_op op_mod (pe_callTy call_int1N (by rfl) T.f_int (by decide +kernel) (pa_cons (pv 2) pa_nil)) pe_int) pe_int) (pa_cons (pe_lst pa_nil) pa_nil))))
        (pss_one (ps_ret (pe_cmpR (op_eqDK (K := K) rfl hu64) (LamX.pe_lamcall (T := [(Pt, _)]) (by rfl) T.g__law_fault FF.kp lkF hcF (FF.bindsN (fun _ _ _ _ _ _ us hl => match us, hl with | [_], _ => rfl)) sc_fault rfl (Or.inl rfl) (fault_gives U) TB rfl (List.mem_singleton_self _) (fun p hp _ => by rw [List.mem_singleton.mp hp]) (hr.mono (by decide)) (LamX.lamS_by (by show LamX.lamSB (defScope s_law) _ = true; decide +kernel)) (by rfl) (fun _ _ _ _ _ => rfl) (fun A outer s H E f c' hr5 => pe_call FN hr5 (by rfl) T.g_never_below kpN hbN .nil (passes_call (takes_of rfl rfl rfl rfl) fun _ _ _ _ z => z) (pa_cons (pv 16) (pa_cons (pv 15) pa_nil)))) (pe_tup (pa_cons pe_str (pa_cons pe_str pa_nil))) (nomark _))))))))), ?_⟩
  clear hlap FN hbN kpN FF lkF hcF S hu hu64 hu9 TB lk hcd k__law_pen k__law_draw k__law_scale k_Bids
  refine scp_run (ds := [.sl K ns]) (.one (.sl (sqL_noT hS))) hT hQ ?_
  clear hr hQ hS hT
  refine scp_seq ?_
  repeat walk_at "g"
  refine ⟨ns, rfl, by omega, fun p => ?_⟩
  refine scp_seq ?_
  repeat walk_at "g"
  refine ⟨p, 0, 3, [], rfl, rfl, by decide, by decide, by decide, fun d d0 d1 => ?_⟩
  repeat walk_at "g"
  refine ⟨p, 1, [], rfl, rfl, by decide, fun s0 hs => ?_⟩
  repeat walk_at "g"
  obtain ⟨k, ek, k1, k3⟩ : ∃ k : Nat, 1 + d = (k : Int) ∧ 1 ≤ k ∧ k ≤ 3 := ⟨(1 + d).toNat, by omega, by omega, by omega⟩
  have hs1 : 0 < s0 ∧ s0 ≤ 10 := by omega
  refine ⟨_, _, rfl, ?_⟩
  rw [ek]
  refine scp_seq ?_
  repeat walk_at "g"
  refine ⟨mnyT, rfl, by decide, by decide, .inl ?_⟩
  repeat walk_at "g"
  refine ⟨_, gt_mny k1 k3, ?_⟩
  have m12 := mny_ok k
  generalize mny k = m at m12 ⊢
  refine scp_seq (Sc.imp (E := { nx := LawI K p ns k s0 m (4 - k), rt := fun _ _ => False }) ?_ ?_ (fun _ _ z => z) (fun _ _ z => z) fun _ _ z => z)
  · refine sc_for (ic_rng1 (ac_cons (ec_dget (ec_disp ?_))))
    repeat walk_at "g"
    refine ⟨lapT, rfl, by decide, by decide, .inl ?_⟩
    repeat walk_at "g"
    refine ⟨_, gt_lap k1 k3, ac_nil ⟨_, rfl, by omega, by omega, ?_⟩⟩
    have lapE : (rngD 0 (4 - (k : Int)).toNat).length = 4 - k := by
      unfold rngD
      rw [List.length_map, List.length_range]
      omega
    refine ⟨LawI K p ns k s0 m, ⟨2, none, none, none, none, none, none, none, none, none, none, none, by decide, by decide, rfl, fun z => absurd z (by decide), rfl⟩, fun _ _ _ _ => trivial, ?_, fun τ O1 z => by rw [lapE] at z; exact z⟩
    rintro i x τ O1 hx hI
    have hi3 : i < 3 := by
      have := (List.getElem?_eq_some_iff.mp hx).1
      rw [lapE] at this
      omega
    obtain ⟨j, hj, rfl⟩ := map_get hx
    refine ⟨_, _, gc_name, ?_⟩
    exact (hl p ns k s0 m i _ τ O1 ⟨k1, k3⟩ hs1 m12 hi3 hI).imp (fun _ _ z => z) (fun _ _ z => z.elim) (fun _ _ z => z.elim) fun _ _ z => z.elim
  · rintro τ O1 ⟨n, x5, x6, x7, x8, x9, x10, x11, x12, x13, x14, x15, hn, hi, rfl, h15, rfl⟩
    obtain ⟨R, rfl⟩ := h15 (by omega)
    clear hl
    refine scp_seq ?_
    repeat walk_at "g"
    refine rc_i ⟨by decide, ?_⟩
    obtain ⟨kw, ekw, w1, w3, wn⟩ : ∃ kw : Nat, (k : Int) % 3 + 1 = (kw : Int) ∧ 1 ≤ kw ∧ kw ≤ 3 ∧ kw ≠ k := ⟨k % 3 + 1, by omega, by omega, by omega, by omega⟩
    repeat walk_at "g"
    rw [ekw]
    refine ec_lst (ac_nil ⟨sz_ok (by show 0 ≤ _; decide), ?_⟩)
    repeat walk_at "g"
    refine fun x => ⟨x, kw, .lst [], [], [(p, oPen n)], rfl, ⟨w1, w3⟩, ⟨.inr rfl, by decide, fun z hz => absurd hz List.not_mem_nil⟩, rfl, fun R' _ => ?_⟩
    exact ⟨rfl, _, _, rfl, scp_lam (i := 16) (j := 15) (k1 := kw) (k2 := k) (R1 := R') (R2 := R) rfl rfl wn⟩
end Ab

/-! ## AbZ -/
set_option Elab.async false
set_option linter.all false
set_option maxRecDepth 100000
set_option maxHeartbeats 0
/-! the end -/
namespace Ab
open PySem L2
section
variable {K : PySem.W.Frag} {h : Heap} {mg : Str → Option Value}
theorem txt_of (X : K.In h) (G : h.Ns mainGlobals mg) (c : He.SaysD zfa zfn K) (ex : zex K = true) : Txt K mg where
  f_abs := He.free_ok X G (c.fact 0 rfl)
  f_len := He.free_ok X G (c.fact 1 rfl)
  f_isinstance := He.free_ok X G (c.fact 2 rfl)
  f_int := He.free_ok X G (c.fact 3 rfl)
  f_bool := He.free_ok X G (c.fact 4 rfl)
  f_tuple := He.free_ok X G (c.fact 5 rfl)
  f_list := He.free_ok X G (c.fact 6 rfl)
  f_zip := He.free_ok X G (c.fact 7 rfl)
  f_max := He.free_ok X G (c.fact 8 rfl)
  f_min := He.free_ok X G (c.fact 9 rfl)
  f_sum := He.free_ok X G (c.fact 10 rfl)
  f_all := He.free_ok X G (c.fact 11 rfl)
  f_any := He.free_ok X G (c.fact 12 rfl)
  f_sorted := He.free_ok X G (c.fact 13 rfl)
  f_range := He.free_ok X G (c.fact 14 rfl)
  f_dict := He.free_ok X G (c.fact 15 rfl)
  g_Bids := He.glo_ok X G (c.fact 16 rfl)
  mk_Bids := He.mkr_ok (c.fact 17 rfl)
  cls_Bids := He.cls_ok (c.fact 18 rfl)
  na_Bids_kinds := He.noat_ok (c.fact 19 rfl)
  na_Bids_rows := He.noat_ok (c.fact 20 rfl)
  me_Bids__add__ := He.meth_ok (c.fact 21 rfl)
  me_Bids__neg__ := He.meth_ok (c.fact 22 rfl)
  g_Gap := He.glo_ok X G (c.fact 23 rfl)
  mk_Gap := He.mkr_ok (c.fact 24 rfl)
  cls_Gap := He.cls_ok (c.fact 25 rfl)
  na_Gap_gap := He.noat_ok (c.fact 26 rfl)
  na_Gap_prices := He.noat_ok (c.fact 27 rfl)
  sf_Bids := (He.ba ex).1
  i_MOST_KINDS := He.int_ok X G (c.fact 28 rfl)
  d_Unlike___init__ := c.def_ 0 rfl
  g_is_whole := He.glo_ok X G (c.fact 29 rfl)
  d_is_whole := c.def_ 1 rfl
  g_is_ratio := He.glo_ok X G (c.fact 30 rfl)
  d_is_ratio := c.def_ 2 rfl
  g_divisor := He.glo_ok X G (c.fact 31 rfl)
  d_divisor := c.def_ 3 rfl
  g_lowest := He.glo_ok X G (c.fact 32 rfl)
  d_lowest := c.def_ 4 rfl
  g_told := He.glo_ok X G (c.fact 33 rfl)
  d_told := c.def_ 5 rfl
  g_less := He.glo_ok X G (c.fact 34 rfl)
  d_less := c.def_ 6 rfl
  g_bottom_of := He.glo_ok X G (c.fact 35 rfl)
  d_bottom_of := c.def_ 7 rfl
  d_Gap___init__ := c.def_ 8 rfl
  g_need_kinds_likeness := He.glo_ok X G (c.fact 36 rfl)
  d_need_kinds_likeness := c.def_ 9 rfl
  g_common_divisor := He.glo_ok X G (c.fact 37 rfl)
  d_common_divisor := c.def_ 10 rfl
  g_scale_of := He.glo_ok X G (c.fact 38 rfl)
  d_scale_of := c.def_ 11 rfl
  g_whole_rows := He.glo_ok X G (c.fact 39 rfl)
  d_whole_rows := c.def_ 12 rfl
  g_whole_gain := He.glo_ok X G (c.fact 40 rfl)
  d_whole_gain := c.def_ 13 rfl
  g_price_tuple := He.glo_ok X G (c.fact 41 rfl)
  d_price_tuple := c.def_ 14 rfl
  g_stops_of := He.glo_ok X G (c.fact 42 rfl)
  d_stops_of := c.def_ 15 rfl
  g_orders_of := He.glo_ok X G (c.fact 43 rfl)
  d_orders_of := c.def_ 16 rfl
  g_corners_of := He.glo_ok X G (c.fact 44 rfl)
  d_corners_of := c.def_ 17 rfl
  g_greatest_gap := He.glo_ok X G (c.fact 45 rfl)
  d_greatest_gap := c.def_ 18 rfl
  g_never_below := He.glo_ok X G (c.fact 46 rfl)
  d_never_below := c.def_ 19 rfl
  g_need_kinds_bids := He.glo_ok X G (c.fact 47 rfl)
  d_need_kinds_bids := c.def_ 20 rfl
  g_is_price_row := He.glo_ok X G (c.fact 48 rfl)
  d_is_price_row := c.def_ 21 rfl
  g_is_bid := He.glo_ok X G (c.fact 49 rfl)
  d_is_bid := c.def_ 22 rfl
  g_plain_rows := He.glo_ok X G (c.fact 50 rfl)
  d_plain_rows := c.def_ 23 rfl
  d_Bids___init__ := c.def_ 24 rfl
  d_Bids___add__ := c.def_ 25 rfl
  d_Bids___neg__ := c.def_ 26 rfl
  g__law_pen := He.glo_ok X G (c.fact 51 rfl)
  d__law_pen := c.def_ 27 rfl
  g__law_draw := He.glo_ok X G (c.fact 52 rfl)
  d__law_draw := c.def_ 28 rfl
  g__law_pick := He.glo_ok X G (c.fact 53 rfl)
  d__law_pick := c.def_ 29 rfl
  g__law_is_whole := He.glo_ok X G (c.fact 54 rfl)
  d__law_is_whole := c.def_ 30 rfl
  g__law_gcd := He.glo_ok X G (c.fact 55 rfl)
  d__law_gcd := c.def_ 31 rfl
  g__law_q := He.glo_ok X G (c.fact 56 rfl)
  d__law_q := c.def_ 32 rfl
  g__law_plus := He.glo_ok X G (c.fact 57 rfl)
  d__law_plus := c.def_ 33 rfl
  g__law_minus := He.glo_ok X G (c.fact 58 rfl)
  d__law_minus := c.def_ 34 rfl
  g__law_less := He.glo_ok X G (c.fact 59 rfl)
  d__law_less := c.def_ 35 rfl
  g__law_is_ratio := He.glo_ok X G (c.fact 60 rfl)
  d__law_is_ratio := c.def_ 36 rfl
  g__law_are_ratios := He.glo_ok X G (c.fact 61 rfl)
  d__law_are_ratios := c.def_ 37 rfl
  g__law_passed := He.glo_ok X G (c.fact 62 rfl)
  d__law_passed := c.def_ 38 rfl
  g__law_merged := He.glo_ok X G (c.fact 63 rfl)
  d__law_merged := c.def_ 39 rfl
  g__law_numbers := He.glo_ok X G (c.fact 64 rfl)
  d__law_numbers := c.def_ 40 rfl
  g__law_block := He.glo_ok X G (c.fact 65 rfl)
  d__law_block := c.def_ 41 rfl
  g__law_scale := He.glo_ok X G (c.fact 66 rfl)
  d__law_scale := c.def_ 42 rfl
  g__law_buyer := He.glo_ok X G (c.fact 67 rfl)
  d__law_buyer := c.def_ 43 rfl
  g__law_list := He.glo_ok X G (c.fact 68 rfl)
  d__law_list := c.def_ 44 rfl
  g__law_made := He.glo_ok X G (c.fact 69 rfl)
  d__law_made := c.def_ 45 rfl
  g__law_sum := He.glo_ok X G (c.fact 70 rfl)
  d__law_sum := c.def_ 46 rfl
  g__law_best := He.glo_ok X G (c.fact 71 rfl)
  d__law_best := c.def_ 47 rfl
  g__law_gain := He.glo_ok X G (c.fact 72 rfl)
  d__law_gain := c.def_ 48 rfl
  g__law_gain_at := He.glo_ok X G (c.fact 73 rfl)
  d__law_gain_at := c.def_ 49 rfl
  g__law_planes := He.glo_ok X G (c.fact 74 rfl)
  d__law_planes := c.def_ 50 rfl
  g__law_fault := He.glo_ok X G (c.fact 75 rfl)
  d__law_fault := c.def_ 51 rfl
  g__law_difference := He.glo_ok X G (c.fact 76 rfl)
  d__law_difference := c.def_ 52 rfl
  g__law_corners := He.glo_ok X G (c.fact 77 rfl)
  d__law_corners := c.def_ 53 rfl
  g__law_wider := He.glo_ok X G (c.fact 78 rfl)
  d__law_wider := c.def_ 54 rfl
  g__law_highest := He.glo_ok X G (c.fact 79 rfl)
  d__law_highest := c.def_ 55 rfl
  g__law_over := He.glo_ok X G (c.fact 80 rfl)
  d__law_over := c.def_ 56 rfl
  g_law := He.glo_ok X G (c.fact 81 rfl)
  d_law := c.def_ 57 rfl
theorem txtE_of (X : K.In h) (G : h.Ns mainGlobals mg) (c : He.SaysD zfa zfn K) (ex : zex K = true) : TxtE K mg := by
  obtain ⟨_, a2, a3, a4, a5, a6, a7, a8, a9, a10, a11, a12, a13, a14, a15⟩ := (by simpa only [zex, Bool.and_eq_true] using ex)
  exact ⟨He.glo_ok X G (c.fact 82 rfl), He.glo_ok X G (c.fact 83 rfl), He.glo_ok X G (c.fact 84 rfl), ⟨oexB_ok a2, He.eqO_ok a3, of_decide_eq_true a4, of_decide_eq_true a5, a6⟩, xfB_ok a7, He.eqO_ok a8, He.eqO_ok a9, of_decide_eq_true a10, of_decide_eq_true a11, of_decide_eq_true a12, He.eqO_ok a13, a14, initB_ok a15⟩
end
theorem z_end {w : World} {l : PySem.W.OpenLaw} {mg : Str → Option Value} {f : Addr} {h : Heap} {K : PySem.W.Frag} (X : K.In h) (G : h.Ns mainGlobals mg) (hf : mg ("law" : Str) = some (.ref f)) (c : Says h K) :
    LamX.LawAtS l w K L2.CX0 13 63 "_law_script" mg f h := by
  have T := txt_of X G c.d c.ex
  have U := txtE_of X G c.d c.ex
  have e := hf.symm.trans T.g_law
  cases e
  obtain ⟨fd, F⟩ := T.d_law
  have b := FunD.bindsA (ps := ["_law_script"]) F fun _ _ _ _ _ _ us hl => match us, hl with | [_], _ => rfl
  obtain ⟨oc, od, dV, kV, doc, pm, an, cdv, ct, osl, rfl, lk, hcd, _, _⟩ := F.ex
  obtain ⟨c0, rfl⟩ := He.codeIn_ref hcd
  have ec : He.codeOf K ("law", none) = c0 := He.codeOf_eq lk rfl
  refine ⟨_, [He.cT K ("law", none)], spL K (He.cT K ("law", none)).2, fun p hp => ?_, fun p hp => ?_, fun p hp => ?_, fun s u => b s [u] rfl, fun H a ns hl _ hT hS => ⟨a, ns, rfl, hl, hT _ (List.mem_singleton_self _), hS, fun _ => rfl⟩, fun base hK hG hTB => ?_⟩
  · rw [List.mem_singleton.mp hp]
    exact c.em
  · rw [List.mem_singleton.mp hp]
    exact c.out
  · rw [List.mem_singleton.mp hp]
    exact PySem.W.codeHd_of_K X c.hd
  · have TB := hTB _ (List.mem_singleton_self _)
    have e1 : (He.cT K ("law", none)).1 = c0 := ec
    rw [e1] at TB
    exact fn_law T U lk hcd TB
end Ab
open PySem PySem.W PySem.Calls PyProof.Rows
theorem PySem.Challenge.cw_allbids_k49_whole_gains_never_below_holds : PySem.Challenge.rw_allbids_k49_whole_gains_never_below.Holds := by
  w_on; o_law
  refine HandSHeadRun.head_any (r := Ab.zR) (q := view Ab.zR.prog [69]) (H := Ab.zhk) (ob := Ab.zob) (M := 20000) (loose := Ab.zlo) (d := HandSHeadRun.topDef Ab.zR.prog 69) (kwd := []) Ab.zob_eq
    (by kernel_rfl) (fun s => by kernel_rfl) Ab.zrun (by kernel_rfl) (by kernel_rfl) (by kernel_rfl) (by rfl) (by first | assumption | decide +kernel) (by decide +kernel) ⟨rfl, rfl, rfl, rfl, rfl, by decide +kernel⟩ ?hw ?hc
  case hw => w_witness2
  case hc =>
    refine LamX.walk_ofTsE (l := PySem.Challenge.rw_allbids_k49_whole_gains_never_below) (n := 63) (k := 13) (x := "_law_script") (CX := fun _ => L2.CX0) rfl (by decide) (by kernel_rfl) ⟨rfl, by decide, by decide⟩ ?F (fun _ _ _ _ _ z => z)
    intro w mg f h Y G hmg0
    obtain ⟨K, KX, c⟩ := Y
    have hmg : mg ("law" : PySem.Str) = some (.ref f) := by
      have e : (HandSHeadRun.topDef Ab.zR.prog 69).name = ("law" : PySem.Str) := by kernel_rfl
      rw [← e]
      exact hmg0
    exact ⟨K, KX, Ab.z_end KX G hmg c⟩

