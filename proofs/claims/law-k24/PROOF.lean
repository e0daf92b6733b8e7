import PyProof.Rows.All
import Wide.All
import OpenK.AllK
import Wide.FinOn
import HandS.ForMost
import HandS.Codes
import HandS.TupSets
import HandS.Strs
import HandS.Style
import HandS.Small
import HandS.DictComp
import HandS.Conv
import HandS.IsInst
import HandS.TupAny
import HandS.Wide
import HandS.WideMore
import HandS.Flow
import KE.KDictDisplayH
import KE.GoesMore
import KE.KDictWalk
import KE.KDictCopyH
import HandS.SetFor
import PySem.Challenge.RW_boxedroots_k24_whole_signs_over_boxes
set_option Elab.async false
set_option linter.all false
set_option maxRecDepth 100000
set_option maxHeartbeats 16000000
/-! Bx 1: dicts whose keys are tuples of ints (of the heap or of the module), as a tracked thing of our own. -/
namespace Bx
open PySem PySem.Spec PyProof.Rows L2

abbrev St := L2.St
/-- an entry: the key, the address of its tuple, the value -/
abbrev Ent := List Int × Addr × V
def EntR (p : Ent) (q : List Int × Addr × Value) : Prop := p.1 = q.1 ∧ p.2.1 = q.2.1 ∧ RelV p.2.2 q.2.2
def tdP (P : Program) (w : World) (a : Addr) (xs : List Ent) (o : Obj) (h : Heap) : Prop :=
  xs.length ≤ sizeLine ∧ (a == sysModules) = false ∧ (xs.map (·.1)).Nodup ∧ ∃ vs, Paired EntR xs vs ∧
    ∃ es ep, h.get? a = some o ∧ o.ExactDict ∧ o.data = .dict es ep ∧ es.toList = vs.map (entryOfKey (tupleKind (intKind P w)))
def td (P : Program) (w : World) (a : Addr) (xs : List Ent) (o : Obj) : HO := .ext (tdP P w a xs o)
def kvOf (xs : List Ent) : List (List Int × V) := xs.map fun p => (p.1, p.2.2)
/-- the dict at a holds these pairs -/
def DD (P : Program) (w : World) (K : PySem.W.Frag) (H : Hp) (a : Addr) (kvs : List (List Int × V)) : Prop :=
  ∃ (xs : List Ent) (o : Obj), H a = some (td P w a xs o) ∧ kvOf xs = kvs ∧ ∀ p ∈ xs, SqT K H p.2.1 (p.1.map V.int)

theorem td_laid {P : Program} {w : World} {H : Hp} {h : Heap} {a : Addr} {xs : List Ent} {o : Obj} (x : tdP P w a xs o h) : ObjOk P w H h a (td P w a xs o) := by
  refine ⟨x, ?_, fun h1 h2 p k => ?_⟩
  · obtain ⟨_, _, _, _, _, _, _, e, _⟩ := x
    exact ⟨o, e⟩
  · obtain ⟨p1, p2, p3, vs, p4, es, ep, e, p5⟩ := p
    exact ⟨p1, p2, p3, vs, p4, es, ep, k o e, p5⟩
theorem DD.keep {P : Program} {w : World} {K : PySem.W.Frag} {H H' : Hp} {a : Addr} {kvs : List (List Int × V)} (d : DD P w K H a kvs) (ha : ∀ o, H a = some o → H' a = some o)
    (hs : ∀ b ys, SqT K H b ys → SqT K H' b ys) : DD P w K H' a kvs := by
  obtain ⟨xs, o, e, ek, t⟩ := d
  exact ⟨xs, o, ha _ e, ek, fun p hp => hs _ _ (t p hp)⟩

/-! ### the tables beside one another -/
theorem Ent.val {xs : List Ent} {vs : List (List Int × Addr × Value)} (r : Paired EntR xs vs) (k : List Int) : RelO (valV (kvOf xs) k) ((atKey vs k).map (·.2)) := by
  induction r with
  | nil => exact True.intro
  | @cons p q ps qs h t ih =>
    obtain ⟨h1, _, h3⟩ := h
    by_cases e : p.1 = k
    · have b : atKey (q :: qs) k = some q.2 := by simp [atKey, List.find?_cons, h1.symm.trans e]
      have c : valV (kvOf (p :: ps)) k = some p.2.2 := valV_pos (p := (p.1, p.2.2)) e
      rw [b, c]
      exact h3
    · have b : atKey (q :: qs) k = atKey qs k := by
        have e' : ¬ q.1 = k := fun z => e (h1.trans z)
        simp [atKey, List.find?_cons, e']
      have c : valV (kvOf (p :: ps)) k = valV (kvOf ps) k := valV_neg (p := (p.1, p.2.2)) e
      rw [b, c]
      exact ih
def putE (xs : List Ent) (k : List Int) (b : Addr) (y : V) : List Ent :=
  if ((kvOf xs).any fun kv => decide (kv.1 = k)) = true then xs.map (fun p => if p.1 = k then (p.1, p.2.1, y) else p) else xs ++ [(k, b, y)]
theorem kvOf_putE (xs : List Ent) (k : List Int) (b : Addr) (y : V) : kvOf (putE xs k b y) = putK (kvOf xs) k y := by
  unfold putE putK
  split
  · unfold kvOf
    rw [List.map_map, List.map_map]
    refine List.map_congr_left fun p _ => ?_
    show ((if p.1 = k then (p.1, p.2.1, y) else p).1, (if p.1 = k then (p.1, p.2.1, y) else p).2.2) = if p.1 = k then (p.1, y) else (p.1, p.2.2)
    split <;> rfl
  · unfold kvOf
    rw [List.map_append] <;> rfl
theorem mem_putE {xs : List Ent} {k : List Int} {b : Addr} {y : V} {p : Ent} (h : p ∈ putE xs k b y) : (p.1 = k ∧ p.2.1 = b) ∨ ∃ q ∈ xs, p.1 = q.1 ∧ p.2.1 = q.2.1 := by
  unfold putE at h
  split at h
  · obtain ⟨q, hq, e⟩ := List.mem_map.mp h
    refine .inr ⟨q, hq, ?_⟩
    subst e
    split <;> exact ⟨rfl, rfl⟩
  · rcases List.mem_append.mp h with h | h
    · exact .inr ⟨p, h, rfl, rfl⟩
    · have e : p = (k, b, y) := by simpa using h
      subst e
      exact .inl ⟨rfl, rfl⟩
theorem length_putE (xs : List Ent) (k : List Int) (b : Addr) (y : V) : (putE xs k b y).length ≤ xs.length + 1 := by
  unfold putE
  split
  · rw [List.length_map]
    omega
  · rw [List.length_append, List.length_singleton]
    omega
theorem Ent.repl {xs : List Ent} {vs : List (List Int × Addr × Value)} (r : Paired EntR xs vs) (k : List Int) {y : V} {u : Value} (ry : RelV y u) :
    Paired EntR (xs.map fun p => if p.1 = k then (p.1, p.2.1, y) else p) (vs.map (putAt k u)) := by
  induction r with
  | nil => exact .nil
  | @cons p q ps qs h t ih =>
    rw [List.map_cons, List.map_cons]
    refine .cons ?_ ih
    obtain ⟨h1, h2, h3⟩ := h
    unfold putAt
    by_cases e : p.1 = k
    · rw [if_pos e, if_pos (h1.symm.trans e)]
      exact ⟨h1, h2, ry⟩
    · rw [if_neg e, if_neg (fun z => e (h1.trans z))]
      exact ⟨h1, h2, h3⟩
theorem Ent.put {xs : List Ent} {vs : List (List Int × Addr × Value)} (r : Paired EntR xs vs) (k : List Int) (b : Addr) {y : V} {u : Value} (ry : RelV y u) : Paired EntR (putE xs k b y) (storedH vs k b u) := by
  have e : ((kvOf xs).any fun kv => decide (kv.1 = k)) = (atKey vs k).isSome := by
    rw [valV_any, (Ent.val r k).isSome_eq, Option.isSome_map]
  unfold putE storedH
  rw [e]
  by_cases q : (atKey vs k).isSome = true
  · rw [if_pos q, if_pos q]
    exact Ent.repl r k ry
  · rw [if_neg q, if_neg q]
    exact Paired.snoc r ⟨rfl, rfl, ry⟩
theorem Ent.keys {xs : List Ent} {vs : List (List Int × Addr × Value)} (r : Paired EntR xs vs) : xs.map (·.1) = vs.map (·.1) := by
  induction r with
  | nil => rfl
  | cons h t ih => rw [List.map_cons, List.map_cons, ih, h.1]

section
variable {X : Cx} {pins : List (Addr × Obj)} {σ : St} {H : Hp} {s : Shared} {a b : Addr} {k : List Int} {kvs : List (List Int × V)} {u r : Value} {A : Around} {E : Value → Shared → Prop}
theorem key_is (I : Inv X pins σ H s) (h : SqT X.K H b (k.map V.int)) : (tupleKind (intKind X.prog X.w)).is s.heap k b := by
  obtain ⟨its, rv, ⟨o, h1, h2, n, h3⟩, _⟩ := I.tuple h
  exact ⟨o, its.toArray, n, h1, h2, h3, by simpa using items_of_vals rv⟩
theorem td_rd (I : Inv X pins σ H s) {xs : List Ent} {o : Obj} (e : H a = some (td X.prog X.w a xs o)) (t : ∀ p ∈ xs, SqT X.K H p.2.1 (p.1.map V.int)) :
    xs.length ≤ sizeLine ∧ (a == sysModules) = false ∧ ∃ vs, Paired EntR xs vs ∧ s.heap.DictOfH (tupleKind (intKind X.prog X.w)) a vs := by
  obtain ⟨⟨p1, p2, p3, vs, rel, es, ep, h1, h2, h3, h4⟩, _, _⟩ := (show ObjOk X.prog X.w H s.heap a (.ext (tdP X.prog X.w a xs o)) from I.hok a _ e)
  refine ⟨p1, p2, vs, rel, o, es, ep, h1, h2, h3, h4, ?_, (Ent.keys rel) ▸ p3⟩
  have all : ∀ {l : List Ent} {m : List (List Int × Addr × Value)}, Paired EntR l m → (∀ p ∈ l, SqT X.K H p.2.1 (p.1.map V.int)) → ∀ x ∈ m, (tupleKind (intKind X.prog X.w)).is s.heap x.1 x.2.1 := by
    intro l m q
    induction q with
    | nil =>
      intro _ x hx
      exact nomatch hx
    | @cons p q ps qs hq tt ih =>
      intro hl x hx
      rcases List.mem_cons.mp hx with e | hx
      · subst e
        have z := key_is I (hl p List.mem_cons_self)
        rw [hq.1, hq.2.1] at z
        exact z
      · exact ih (fun p hp => hl p (List.mem_cons_of_mem _ hp)) x hx
  exact all rel t
theorem DD.isDict (I : Inv X pins σ H s) (D : DD X.prog X.w X.K H a kvs) : s.TypeIs (.ref a) "dict" ∧ (∀ b, Value.ref a = .ref b → ∃ ob, s.heap.get? b = some ob ∧ ob.dict = none) := by
  obtain ⟨xs, o, e, _, t⟩ := D
  obtain ⟨_, _, vs, _, dd⟩ := td_rd I e t
  refine ⟨dd.typeIs, fun b q => ?_⟩
  cases q
  obtain ⟨ob, _, _, h1, h2, _⟩ := dd
  exact ⟨ob, h1, h2.2.1⟩
/-- d[k] -/
theorem dd_get {v : V} {Q : Value → Shared → Prop} (hu : A.units + 1 < cLine) (I : Inv X pins σ H s) (D : DD X.prog X.w X.K H a kvs) (hb : SqT X.K H b (k.map V.int)) (hv : valV kvs k = some v)
    (h : ∀ w' s', Inv X pins σ H s' → RelV v w' → Q w' s') : wpAny (model X.prog X.w) A (getItem (.ref a) (.ref b)) Q E s := by
  obtain ⟨xs, o, e, rfl, t⟩ := D
  obtain ⟨_, _, vs, rel, dd⟩ := td_rd I e t
  have rl := Ent.val rel k
  rw [hv] at rl
  obtain ⟨w', hw, rw'⟩ := RelO.some_of rl
  obtain ⟨p, hp, hp2⟩ := Option.map_eq_some_iff.mp hw
  refine wpAny_getItem_heap (tupleKind_room_in1 hu) (key_is I hb) dd hp ?_
  rw [hp2]
  exact h w' _ (I.tok _) rw'
/-- d.get(k, x) -/
theorem dd_get2 {d : V} {Q : Value → Shared → Prop} (hu : A.units + 1 < cLine) (I : Inv X pins σ H s) (D : DD X.prog X.w X.K H a kvs) (hb : SqT X.K H b (k.map V.int)) (rd : RelV d r)
    (h : ∀ w' s', Inv X pins σ H s' → RelV ((valV kvs k).getD d) w' → Q w' s') : wpAny (model X.prog X.w) A (call (.builtin "dict.get") [.ref a, .ref b, r]) Q E s := by
  obtain ⟨xs, o, e, rfl, t⟩ := D
  obtain ⟨_, hd, vs, rel, dd⟩ := td_rd I e t
  refine call_meetsIn PySem.F.slot_dict_get dd.typeIs PySem.F.entry_dict_get (PySem.F.args_dict_get_3 _ _ _) (meetsH_dict_get_default (tupleKind (intKind X.prog X.w)) a b hd r)
    ⟨tupleKind_room_in1 hu, k, vs, key_is I hb, dd, h _ _ (I.tok _) ?_⟩
  exact (Ent.val rel k).getD rd
/-- what a store asks: the dict grows, all else is as it was -/
def Puts (P : Program) (w : World) (K : PySem.W.Frag) (H : Hp) (a : Addr) (kvs : List (List Int × V)) (k : List Int) (v : V) (Q : Hp → Prop) : Prop :=
  ∀ o, (DD P w K H a kvs → DD P w K (upd H a o) a (putK kvs k v)) → (∀ c ys, SqT K H c ys → SqT K (upd H a o) c ys) → Q (upd H a o)
theorem sqT_td {K : PySem.W.Frag} {P : Program} {w : World} {xs : List Ent} {ob : Obj} {o : HO} (e : H a = some (td P w a xs ob)) (c : Addr) (ys : List V) (h : SqT K H c ys) : SqT K (upd H a o) c ys := by
  rcases h with (h | ⟨q, h⟩) | h
  · exact .inl (.inl (by rw [upd_ne (ne_of h e (fun z => nomatch z))]; exact h))
  · exact .inl (.inr ⟨q, by rw [upd_ne (ne_of h e (fun z => nomatch z))]; exact h⟩)
  · exact .inr h
theorem putE_nodup {xs : List Ent} {vs : List (List Int × Addr × Value)} (rel : Paired EntR xs vs) {k : List Int} {b : Addr} {y : V} {q : Value} (ry : RelV y q) (hn : ((storedH vs k b q).map (·.1)).Nodup) :
    ((putE xs k b y).map (·.1)).Nodup := (Ent.keys (Ent.put rel k b ry)) ▸ hn
/-- d[k] = v -/
theorem dd_set {v : V} {Q : Unit → Shared → Prop} (hu : A.units + 1 < cLine) (I : Inv X pins σ H s) (D : DD X.prog X.w X.K H a kvs) (hz : kvs.length < sizeLine) (hb : SqT X.K H b (k.map V.int)) (rv : RelV v r)
    (h : Puts X.prog X.w X.K H a kvs k v fun H' => ∀ s', Inv X pins σ H' s' → Q () s') : wpAny (model X.prog X.w) A (setItem (.ref a) (.ref b) r) Q E s := by
  obtain ⟨xs, o, e, rfl, t⟩ := D
  obtain ⟨z, hd, vs, rel, dd⟩ := td_rd I e t
  have hl : xs.length < sizeLine := by
    have q : (kvOf xs).length = xs.length := List.length_map ..
    omega
  have hvs : vs.length ≤ sizeLine := by rw [← Paired.length rel]; omega
  refine wpAny_setItem_heap (hsz := hvs) (tupleKind_room_in1 hu) (key_is I hb) dd fun h' dd' hs => ?_
  obtain ⟨q, es, ep, hq, h2, h3, h4, _, h5⟩ := dd'
  have ky : ∀ c ys, SqT X.K H c ys → SqT X.K (upd H a (td X.prog X.w a (putE xs k b v) q)) c ys := sqT_td e
  refine h (td X.prog X.w a (putE xs k b v) q) (fun _ => ⟨_, _, upd_same, kvOf_putE .., fun p hp => ?_⟩) ky _ (d_write I (by rw [e]; exact True.intro) hs ⟨q, hq⟩ (td_laid ⟨?_, hd, putE_nodup rel rv h5, _, Ent.put rel k b rv, es, ep, hq, h2, h3, h4⟩))
  · rcases mem_putE hp with ⟨e1, e2⟩ | ⟨p', hp', e1, e2⟩
    · rw [e1, e2]
      exact ky _ _ hb
    · rw [e1, e2]
      exact ky _ _ (t p' hp')
  · have := length_putE xs k b v
    omega
end
/-! ### the readings -/
/-- d[k] -/
def tDDGet (P : Program) (w : World) (K : PySem.W.Frag) (te ty : TE) : TE := fun σ H Q => te σ H fun x H1 => ty σ H1 fun y H2 => ∃ a b kvs k v, x = .ref a ∧ y = .ref b ∧ DD P w K H2 a kvs ∧ SqT K H2 b (k.map V.int) ∧ valV kvs k = some v ∧ Q v H2
/-- d.get(k, x) -/
def tDDGet2 (P : Program) (w : World) (K : PySem.W.Frag) (te ty tx : TE) : TE := fun σ H Q => te σ H fun x H1 => ∃ a, x = .ref a ∧ (∃ kvs, DD P w K H1 a kvs) ∧
  ty σ H1 fun y H2 => tx σ H2 fun z H3 => ∃ b kvs k, y = .ref b ∧ DD P w K H3 a kvs ∧ SqT K H3 b (k.map V.int) ∧ Q ((valV kvs k).getD z) H3
/-- d[k] = v, by values -/
def rDDSet (P : Program) (w : World) (K : PySem.W.Frag) : TSet := fun o i v H Q => ∃ a b kvs k, o = .ref a ∧ i = .ref b ∧ DD P w K H a kvs ∧ kvs.length < sizeLine ∧ SqT K H b (k.map V.int) ∧ Puts P w K H a kvs k v Q
def sDDSet (P : Program) (w : World) (K : PySem.W.Frag) (te ty tv : TE) : TS := fun D σ H => tv σ H fun v H1 => te σ H1 fun x H2 => ty σ H2 fun y H3 => rDDSet P w K x y v H3 fun H4 => D.nx σ H4
def tDDNew (P : Program) (w : World) (K : PySem.W.Frag) : TE := fun _ H Q => ∀ p, H p = none → ∀ o, DD P w K (upd H p o) p [] → Q (.ref p) (upd H p o)
section
variable {X : Cx} {o i e f value : Expr} {pos pos' apos cpos : Pos} {te ty tv tx : TE}
theorem pe_ddget (hu : X.A.units + 1 < cLine) (ho : PE X o te) (hi : PE X i ty) (hs : NoSl i) : PE X (.Subscript o i pos) (tDDGet X.prog X.w X.K te ty) := by
  refine ⟨fun pins s σ H Q I h => subD_of PySem.F.slot_dict_getitem.lookup hs (thn (ho.run pins s σ H _ I h) fun u s1 ⟨x, H1, I1, rx, q1⟩ => thn (hi.run pins s1 σ H1 _ I1 q1) fun iv s2 ⟨y, H2, I2, ry, a, b, kvs, k, v, ex, ey, D, hb, hv, q2⟩ => ?_)⟩
  subst ex ey
  obtain rfl : u = Value.ref a := rx
  obtain rfl : iv = Value.ref b := ry
  exact ⟨(D.isDict I2).1, dd_get hu I2 D hb hv fun w' s3 I3 rw' => ⟨v, H2, I3, rw', q2⟩⟩
theorem pe_ddget2 (hu : X.A.units + 1 < cLine) (ho : PE X o te) (he : PE X e ty) (hf : PE X f tx) (m : M2 X o "get" apos e f cpos) : PE X (.Call (.Attribute o "get" apos) [e, f] [] cpos) (tDDGet2 X.prog X.w X.K te ty tx) := by
  refine ⟨fun pins s σ H Q I h => wpAny_Call_method m.base m.few m.line PySem.F.plainAttrs_dict PySem.F.slot_dict_get PySem.F.type_dict_get (thn (ho.run pins s σ H _ I h) fun u s1 ⟨x, H1, I1, rx, a, ex, ⟨kvs, D⟩, q1⟩ => ?_)⟩
  subst ex
  obtain rfl : u = Value.ref a := rx
  obtain ⟨t1, t2⟩ := D.isDict I1
  refine ⟨t1, t2, ?_⟩
  rw [m.trees]
  refine Calls.callWith_builtin rfl (Calls.evalArgs_plain (Calls.spliced_cons (thn (he.run pins s1 σ H1 _ I1 q1) fun iv s2 ⟨y, H2, I2, ry, q2⟩ =>
    Calls.spliced_cons (thn (hf.run pins s2 σ H2 _ I2 q2) fun fv s3 ⟨z, H3, I3, rz, b, kvs', k, ey, D3, hb, q3⟩ => Calls.spliced_nil ?_))))
  subst ey
  obtain rfl : iv = Value.ref b := ry
  exact dd_get2 hu I3 D3 hb rz fun w' s4 I4 rw' => ⟨_, H3, I4, rw', q3⟩
theorem set_dd (hu : X.A.units + 1 < cLine) : PSet X (rDDSet X.prog X.w X.K) := by
  intro pins s σ H o i v ov iv u Q I ro ri rv h
  obtain ⟨a, b, kvs, k, eo, ei, D, hz, hb, q⟩ := h
  subst eo ei
  cases (show ov = Value.ref a from ro)
  cases (show iv = Value.ref b from ri)
  exact dd_set hu I D hz hb rv fun o' d' s' => fun s'' I' => ⟨_, I', q o' d' s'⟩
theorem ps_ddset (hu : X.A.units + 1 < cLine) (ho : PE X o te) (hi : PE X i ty) (hv : PE X value tv) (hs : swapsWith value (some (.Subscript o i pos')) pos.line X.env = pure false) :
    PS X (.Assign [.Subscript o i pos'] value pos) (sDDSet X.prog X.w X.K te ty tv) := by
  refine ⟨fun pins s σ H D I h => wpAny_Assign_Subscript (thn (hv.run pins s σ H _ I h) fun r s1 ⟨v, H1, I1, rv, q1⟩ => thn (ho.run pins s1 σ H1 _ I1 q1) fun u s2 ⟨x, H2, I2, rx, q2⟩ => thn (hi.run pins s2 σ H2 _ I2 q2) fun iv s3 ⟨y, H3, I3, ry, q3⟩ => ?_) hs⟩
  exact thn (set_dd hu pins s3 σ H3 x y v u iv r _ I3 rx ry rv q3) fun _ s4 ⟨H4, I4, q4⟩ => ⟨σ, H4, I4, q4⟩
theorem td_empty {P : Program} {w : World} {H : Hp} (h : Heap) (hb : sysModules < h.objs.size) : ObjOk P w H (h.push { cls := .type "dict", data := .dict #[] }) h.objs.size (td P w h.objs.size [] { cls := .type "dict", data := .dict #[] }) :=
  td_laid ⟨Nat.zero_le _, beq_eq_false_iff_ne.mpr (Ne.symm (Nat.ne_of_lt hb)), List.nodup_nil, [], .nil, #[], 0, Heap.get?_push_size _ rfl, ⟨rfl, rfl, rfl⟩, rfl, rfl⟩
theorem pe_ddnew : PE X (.Dict [] [] pos) (tDDNew X.prog X.w X.K) := ⟨fun pins s σ H Q I h =>
  wpAny_Dict_empty ⟨.ref s.heap.objs.size, _, I.laid (a := s.heap.objs.size) (o := td X.prog X.w s.heap.objs.size [] { cls := .type "dict", data := .dict #[] }) (t' := s.toks) (fun _ _ q => Heap.get?_push_of_some _ q) (Nat.le_refl _) (td_empty s.heap I.big), rfl,
    h _ (I.hok.fresh (Nat.le_refl _)) _ ⟨[], _, upd_same, rfl, fun p hp => nomatch hp⟩⟩⟩
end
end Bx

/-! Bx 2: a display with one pair, x *= y, set(list), sorted(dict), enumerate(tuple), list(d.values()). -/
namespace Bx
open PySem PySem.Spec PyProof.Rows L2

/-! ### x *= y -/
theorem iop_mulW {X : Cx} : OpR X (inplaceOp .Mult) (rI CMulW fun i j => .int (i * j)) := opI fun _ _ _ _ _ _ _ hc q => imul_int q hc.ok
theorem ip_mulW {X : Cx} : PIp X .Mult (rI CMulW fun i j => .int (i * j)) := iop_mulW

/-! ### {k: v} -/
def tDD1 (P : Program) (w : World) (K : PySem.W.Frag) (tk tv : TE) : TE := fun σ H Q => ∀ p, H p = none → ∀ o, DD P w K (upd H p o) p [] →
  tk σ (upd H p o) fun x H1 => tv σ H1 fun y H2 => ∃ b k, x = .ref b ∧ DD P w K H2 p [] ∧ SqT K H2 b (k.map V.int) ∧ Puts P w K H2 p [] k y fun H3 => Q (.ref p) H3
theorem pe_dd1 {X : Cx} {k v : Expr} {pos : Pos} {tk tv : TE} (hu : X.A.units < cLine) (hk : PE X k tk) (hv : PE X v tv) : PE X (.Dict [some k] [v] pos) (tDD1 X.prog X.w X.K tk tv) := by
  refine ⟨fun pins s σ H Q I q => ?_⟩
  have hn := I.hok.fresh (Nat.le_refl s.heap.objs.size)
  generalize hp : s.heap.objs.size = p at hn
  have I1 : Inv X pins σ (upd H p (td X.prog X.w p [] { cls := .type "dict", data := .dict #[] })) { s with heap := s.heap.push { cls := .type "dict", data := .dict #[] } } := by
    subst hp
    exact I.laid (t' := s.toks) (fun _ _ q => Heap.get?_push_of_some _ q) (Nat.le_refl _) (td_empty s.heap I.big)
  rw [arm_eval_Dict, zip_pairTrees [some k] [v] X.env pos rfl rfl, dictDisplay_pairs (pairTrees [some k] [v] X.env pos) (by intro z; cases z) (by show 1 < 17; decide)]
  refine wpAny_bind (wpAny_standAt (wpAny_bind (wpAny_subDictH (knd := tupleKind (intKind X.prog X.w)) (Q := fun d s' => wpAny (model X.prog X.w) X.A (pure (Value.ref d)) (EP X pins σ Q) X.xe s') hu (by show 1 ≤ 15; decide) ?_)))
  rw [hp]
  refine pairTrees_cons_walk (thn (hk.run pins _ σ _ _ I1 (q p hn _ ⟨[], _, upd_same, rfl, fun p hp => nomatch hp⟩)) fun u s1 ⟨x, H1, I2, rx, q1⟩ => thn (hv.run pins s1 σ H1 _ I2 q1) fun w2 s2 ⟨y, H2, I3, ry, b, ky, ex, D, hb, q2⟩ => pairTrees_nil_walk ?_)
  subst ex
  obtain rfl : u = Value.ref b := rx
  obtain ⟨xs, o, e, ek, t⟩ := D
  obtain rfl : xs = [] := List.map_eq_nil_iff.mp ek
  obtain ⟨z, hd, vs, rel, dd⟩ := td_rd I3 e t
  cases rel
  refine ⟨[(ky, b, w2)], ⟨rfl, rfl, key_is I3 hb, trivial⟩, dd, fun h' tk dd' hs => ?_⟩
  obtain ⟨ob, es, ep, h1, h2, h3, h4, _, h5⟩ := dd'
  have kp : ∀ c ys, SqT X.K H2 c ys → SqT X.K (upd H2 p (td X.prog X.w p [(ky, b, y)] ob)) c ys := sqT_td e
  have J : Inv X pins σ (upd H2 p (td X.prog X.w p [(ky, b, y)] ob)) { s2 with heap := h', toks := tk } :=
    d_write I3 (by rw [e]; exact True.intro) hs ⟨ob, h1⟩ (td_laid ⟨by show 1 ≤ sizeLine; decide, hd, by simp, [(ky, b, w2)], .cons ⟨rfl, rfl, ry⟩ .nil, es, ep, h1, h2, h3, h4⟩)
  refine wpAny_pure ⟨.ref p, _, J, rfl, q2 _ (fun _ => ⟨_, _, upd_same, rfl, fun c hc => ?_⟩) kp⟩
  have ec : c = (ky, b, y) := by simpa using hc
  subst ec
  exact kp _ _ hb

/-! ### set(xs), xs a list of ints -/
def rSetI (K : PySem.W.Frag) (w : World) : List V → Hp → VK → Prop := fun xs H Q => ∃ (l : Addr) (ns : List Int), xs = [V.ref l] ∧ SqL K H l (ns.map V.int) ∧ ns.length < 64 ∧
  ∀ p S n, H p = none → n ≤ ns.length → (∀ k, S k = true ↔ k ∈ ns) → Q (.ref p) (upd H p (SetO w p S n))
end Bx

/-! Bx 3: set(xs) of a list of ints whose order may be asked (for sorted). -/
namespace Bx
open PySem PySem.Spec PyProof.Rows L2

abbrev newSet (w : World) : Obj := { cls := .type "set", dict := none, data := .set #[] 0 (.fresh 0 0 (!w.params.followText "set-order")) }
section
variable {P : Program} {w : World} {A : Around} {E : Value → Shared → Prop} {s : Shared} {l : Addr} {items : Array Value} {ns : List Int}
/-- what stands behind set.__init__ of the fresh set -/
def Filled (w : World) (s : Shared) (ns : List Int) (s' : Shared) : Prop := ∃ h' tk c, s' = { s with heap := h', toks := tk } ∧ SetR w h' s.heap.objs.size (fun j => decide (j ∈ ns)) c ∧ c ≤ ns.length ∧
  ∀ b o, s.heap.get? b = some o → h'.get? b = some o
theorem fill_loop (hh : A.handled = none) (hl : s.heap.IsList l items) (hit : IntsAre items.toList ns) (hb : ns.length + 1 < scanBound) {R : Result → Shared → Prop} (hR : ∀ s', Filled w s ns s' → R (.ok (.ret .none)) s') :
    codeAny (model P w) A (.builtin "set.update.loop" ⟨[.ref s.heap.objs.size, .ref (s.heap.push (newSet w)).objs.size], []⟩) R { s with heap := (s.heap.push (newSet w)).push { cls := .type "list_iterator", data := .fields #[.ref l, .int 0 0] } } := by
  have hisz : items.size = ns.length := by
    have q := IntsAre.length hit
    rw [Array.length_toList] at q
    exact q
  have hl1 : (s.heap.push (newSet w)).IsList l items := hl.at fun o e => Heap.get?_push_of_some _ e
  have hlS : l < s.heap.objs.size := by
    obtain ⟨o, e, _⟩ := hl
    exact Heap.lt_size e
  have z1 : (s.heap.push (newSet w)).objs.size = s.heap.objs.size + 1 := Heap.size_push ..
  have n1 : l ≠ (s.heap.push (newSet w)).objs.size := by
    rw [z1]
    exact Nat.ne_of_lt (Nat.lt_succ_of_lt hlS)
  have n2 : s.heap.objs.size ∉ [(s.heap.push (newSet w)).objs.size, l] := by
    rw [z1]
    intro hm
    rcases List.mem_cons.mp hm with e | hm
    · exact Nat.ne_of_lt (Nat.lt_succ_self _) e
    · exact Nat.ne_of_gt hlS (List.mem_singleton.mp hm)
  have hval : ∀ (i : Nat) (v : Value), items[i]? = some v → ∃ k t, ns[i]? = some k ∧ v = .int k t := fun i v hv => by
    have hi : i < ns.length := by
      rw [← hisz]
      exact (Array.getElem?_eq_some_iff.mp hv).1
    obtain ⟨t, e⟩ := PyProof.Rows.IntsAre.int_at hit i v (by rw [Array.getElem?_toList]; exact hv)
    refine ⟨ns[i], t, List.getElem?_eq_getElem hi, ?_⟩
    rw [e, List.getD_eq_getElem?_getD, List.getElem?_eq_getElem hi] <;> rfl
  have hI : A.in1.handled = none := by simpa using hh
  refine set_update_ints ((Walks.list hI _ l n1 items).toS) s.heap.objs.size n2 ns hisz hb hval items.size 0 _ (by omega) (Nat.zero_le _)
    ⟨⟨_, Heap.get?_push_size _ rfl, rfl, rfl⟩, hl1.push _⟩ ⟨0, Nat.le_refl 0, setR_new_at (Heap.get?_push_of_some _ (Heap.get?_push_size _ rfl))⟩ fun s' c' hm hc' hS' => hR s' ?_
  obtain ⟨h', g2, d', tk', os'⟩ := s'
  have eg : g2 = s.gens := hm.gens
  have ed : d' = s.drawn := hm.drawn
  have eo : os' = s.os := hm.os
  subst eg ed eo
  refine ⟨h', tk', c', rfl, hS', by omega, fun b o e => hm.heap b o (fun q => ?_) (Heap.get?_push_of_some _ (Heap.get?_push_of_some _ e))⟩
  have hb0 : b < s.heap.objs.size := Heap.lt_size e
  rcases List.mem_cons.mp q with q | q
  · rw [q] at hb0
    exact Nat.lt_irrefl _ hb0
  · rw [List.mem_singleton.mp q, z1] at hb0
    exact absurd hb0 (Nat.not_lt.mpr (Nat.le_succ _))
theorem fill_init (hh : A.handled = none) (hl : s.heap.IsList l items) (hit : IntsAre items.toList ns) (hb : ns.length + 1 < scanBound) {R : Result → Shared → Prop} (hR : ∀ s', Filled w s ns s' → R (.ok (.ret .none)) s') :
    wpAny (model P w) A.in1 (Builtin.«set.__init__» ⟨[.ref s.heap.objs.size, .ref l], []⟩) (fun fin s' => match fin with | .done f => R (.ok f) s' | .again c' => c'.quiet = true ∧ codeAny (model P w) A c' R s') (fun e s' => R (.error e) s') { s with heap := s.heap.push (newSet w) } := by
  obtain ⟨⟨ocls, odict, odata, oslots⟩, hol, hcl, nl, hdl⟩ := id hl
  simp only at hcl hdl
  subst hcl hdl
  have hS : (s.heap.push (newSet w)).get? s.heap.objs.size = some (newSet w) := Heap.get?_push_size _ rfl
  have hT : Shared.TypeIs { s with heap := s.heap.push (newSet w) } (.ref s.heap.objs.size) "set" := ⟨_, hS, rfl⟩
  have hol' : (s.heap.push (newSet w)).get? l = some { cls := .type "list", dict := odict, data := .seq items nl, slots := oslots } := Heap.get?_push_of_some _ hol
  have hsls := F.sub_list_set
  have hslf := F.sub_list_frozenset
  have hne : (Value.type "list" == Value.type "dict") = false := by decide
  have hl1 : (s.heap.push (newSet w)).IsList l items := ⟨_, hol', rfl, nl, rfl⟩
  have loop := fun {R : Result → Shared → Prop} (hR : ∀ s', Filled w s ns s' → R (.ok (.ret .none)) s') => fill_loop (P := P) (w := w) (A := A.in1) (s := s) (R := R) (by simpa using hh) hl hit hb hR
  clear hl hit
  unfold Builtin.«set.__init__» noKeywords Builtin.Frozenset.updateFrom
  generalize hPI : pyIter = PI
  wp_walk
  subst hPI
  refine wpAny_pyIter_list hl1 ?_
  refine wpAny_bind (wpAny_runValue (loop fun s' hs' => ?_))
  show wpAny _ _ _ _ _ _
  refine wpAny_pure ?_
  show wpAny _ _ (ret Value.none) _ _ _
  exact wpAny_pure (hR s' hs')
theorem call_setL (hh : A.handled = none) (hl : s.heap.IsList l items) (hit : IntsAre items.toList ns) (hb : ns.length + 1 < scanBound) {Q : Value → Shared → Prop} (h : ∀ s', Filled w s ns s' → Q (.ref s.heap.objs.size) s') :
    wpAny (model P w) A (call (.type "set") [.ref l]) Q E s := by
  obtain ⟨c, tl, hmro⟩ := F.called_set.mro
  have hmade := F.called_set.made
  have hsub := F.called_set.sub
  refine wpAny_call (codeAny_of_tree ?_)
  show wpAny _ _ (callAny (.type "set") _) _ _ _
  refine wpAny_pure ⟨Code.quiet_builtin _ (by decide +kernel), codeAny_builtin F.entry_type_call ?_⟩
  rw [Around.under_plain (weight_type_call_type "set" [.ref l] []) rfl]
  have h1 := F.called_set.notType
  have h2 := F.called_set.canCreate
  have hct := F.typeCall_set_1 (.ref l)
  repeat (any_goals (first | assumption | wp_step))
  refine codeAny_mono (code_set_led1 (.ref l) (E := E) (Q₁ := fun obj s₁ => obj = .ref s.heap.objs.size ∧ s₁ = { s with heap := s.heap.push (newSet w) }) ⟨rfl, rfl⟩) fun r s₁ hr => ?_
  cases r with
  | error e => exact hr
  | ok fl =>
    cases fl with
    | next => exact hr.elim
    | brk => exact hr.elim
    | cont => exact hr.elim
    | ret obj =>
      obtain ⟨rfl, rfl⟩ := hr
      have hS : (s.heap.push (newSet w)).get? s.heap.objs.size = some (newSet w) := Heap.get?_push_size _ rfl
      have hT : Shared.TypeIs { s with heap := s.heap.push (newSet w) } (.ref s.heap.objs.size) "set" := ⟨_, hS, rfl⟩
      have hli := F.called_set.init.lookup
      have hbi := F.called_set.init.bind (.ref s.heap.objs.size)
      repeat (any_goals (first | assumption | wp_step))
      refine codeAny_mono (codeAny_call_builtin (R := wants (fun r s₂ => r = .none ∧ Filled w s ns s₂) E) F.called_set.init.plain F.entry_set_init (check_set_init_1 hT (fill_init (A := A.in1) (by simpa using hh) hl hit hb fun s' hs' => ⟨rfl, hs'⟩))) fun r₂ s₂ hr₂ => ?_
      cases r₂ with
      | error e => exact hr₂
      | ok fl₂ =>
        cases fl₂ with
        | next => exact hr₂.elim
        | brk => exact hr₂.elim
        | cont => exact hr₂.elim
        | ret r =>
          obtain ⟨rfl, hf⟩ := hr₂
          have hh := h _ hf
          obtain ⟨h', tk, c', rfl, hf'⟩ := hf
          repeat (any_goals (first | assumption | wp_step))
end
section
variable {X : Cx}
theorem cr_setI (hc : X.calm = true) : CallR X (.type "set") (rSetI X.K X.w) := by
  intro pins s σ H xs us Q I r h
  obtain ⟨l, ns, rfl, hq, h64, q⟩ := h
  rw [Vals.ref1 r]
  obtain ⟨its, rv, pl, hz⟩ := I.list hq
  refine call_setL (I.ok.hd hc) pl.isList (ns := ns) (by simpa using rv.ints) (by unfold scanBound; omega) fun s' hf => ?_
  obtain ⟨h', tk, c, rfl, hS, hcl, hk⟩ := hf
  exact ⟨.ref s.heap.objs.size, _, I.laid hk (Nat.le_refl _) (setO_new hS), rfl, q _ _ _ (I.hok.fresh (Nat.le_refl _)) hcl fun k => by simp⟩
end
end Bx

/-! Bx 4: sorted(d) of a dict with tuple keys. -/
namespace Bx
open PySem PySem.Spec PyProof.Rows L2

/-! ### the order -/
theorem lex_of_code {B : Int} : ∀ {ns ms : List Int}, ns.length = ms.length → TS.Bd B ns → TS.Bd B ms → TS.code B ns ≤ TS.code B ms → ns = ms ∨ HT.lexLt ns ms = true
  | [], [], _, _, _, _ => .inl rfl
  | [], _ :: _, h, _, _, _ => by simp at h
  | _ :: _, [], h, _, _, _ => by simp at h
  | x :: xs, y :: ys, h, h1, h2, hc => by
    have hl : xs.length = ys.length := by simpa using h
    have b1 : TS.Bd B xs := fun m hm => h1 m (List.mem_cons_of_mem _ hm)
    have b2 : TS.Bd B ys := fun m hm => h2 m (List.mem_cons_of_mem _ hm)
    rw [HT.lexLt_cons]
    by_cases e : x = y
    · subst e
      rw [if_pos rfl]
      have hc' : TS.code B xs ≤ TS.code B ys := by
        have z := TS.code_same (B := B) (d := x) hl.symm (r := ys) (q := xs)
        omega
      rcases lex_of_code hl b1 b2 hc' with q | q
      · exact .inl (by rw [q])
      · exact .inr q
    · rw [if_neg e]
      by_cases hlt : x < y
      · exact .inr (decide_eq_true hlt)
      · have z := TS.code_lt (B := B) hl.symm b2 b1 (show y < x by omega)
        omega
/-- the keys of a dict, in a sorted list of (the tuple's address, the ints) -/
def rSortedKeys (K : PySem.W.Frag) (H : Hp) (ks : List (List Int)) (Q : VK) : Prop := (∃ B : Int, ∃ d : Nat, 1 ≤ d ∧ ∀ k ∈ ks, k.length = d ∧ TS.Bd B k) ∧ ks.length < 64 ∧ ks.Nodup ∧
  ∀ (L : List (Addr × List Int)) (p : Addr), (L.map (·.2)).Perm ks → L.Pairwise (fun a b => HT.lexLt a.2 b.2 = true) → (∀ q ∈ L, SqT K H q.1 (q.2.map V.int)) → H p = none → Q (.ref p) (upd H p (.lst (L.map fun q => V.ref q.1)))

theorem refs_of : ∀ {L : List (Addr × List Int)} {us : List Value}, us = L.map (fun q => Value.ref q.1) → Vals (L.map fun q => V.ref q.1) us
  | [], us, e => by
    subst e
    exact .nil
  | q :: r, us, e => by
    subst e
    exact .cons rfl (refs_of rfl)
section
variable {X : Cx} {pins : List (Addr × Obj)} {σ : St} {H : Hp} {s : Shared} {A : Around} {E : Value → Shared → Prop}
def adr : Value → Addr
  | .ref a => a
  | _ => 0
/-- the sort of a new list of key tuples -/
theorem sort_keys {h' : Heap} {tk : Nat} {L0 : List (Addr × List Int)} {B : Int} {d : Nat} {Q : VK} (I : Inv X pins σ H { s with heap := h', toks := tk }) (hd : 1 ≤ d) (hk : ∀ q ∈ L0, SqT X.K H q.1 (q.2.map V.int) ∧ q.2.length = d ∧ TS.Bd B q.2) (h64 : L0.length < 64)
    (hn : (L0.map (·.2)).Nodup) (h : ∀ (L : List (Addr × List Int)) (p : Addr), (L.map (·.2)).Perm (L0.map (·.2)) → L.Pairwise (fun a b => HT.lexLt a.2 b.2 = true) → (∀ q ∈ L, SqT X.K H q.1 (q.2.map V.int)) → H p = none → Q (.ref p) (upd H p (.lst (L.map fun q => V.ref q.1)))) :
    wpAny (model X.prog X.w) A (Builtin.«list.sort» ⟨[.ref h'.objs.size], []⟩) (fun fin s2 => ∃ v, fin = .done (.ret v) ∧ EP X pins σ Q (.ref h'.objs.size) s2) E
      { s with heap := h'.push (seqObj "list" (L0.map fun q => Value.ref q.1).toArray 0), toks := tk } := by
  have hoL : (h'.push (seqObj "list" (L0.map fun q => Value.ref q.1).toArray 0)).get? h'.objs.size = some (seqObj "list" (L0.map fun q => Value.ref q.1).toArray 0) := Heap.get?_push_size _ rfl
  have tup : ∀ q ∈ L0, TS.TupInts (h'.push (seqObj "list" (L0.map fun q => Value.ref q.1).toArray 0)) (.ref q.1) q.2 := fun q hq =>
    (tupI_raw I (hk q hq).1).keeps fun b o e _ => Heap.get?_push_of_some _ e
  have ok : TS.TupsOk (h'.push (seqObj "list" (L0.map fun q => Value.ref q.1).toArray 0)) d B (L0.map fun q => Value.ref q.1) := fun v hv => by
    obtain ⟨q, hq, rfl⟩ := List.mem_map.mp hv
    exact ⟨q.2, tup q hq, (hk q hq).2⟩
  generalize hgh : h'.push (seqObj "list" (L0.map fun q => Value.ref q.1).toArray 0) = g at hoL tup ok ⊢
  refine TS.sort_tups (s := { s with heap := g, toks := tk }) hoL (by rw [List.length_map]; exact h64) hd ok (fun v => TS.code B (TS.intsOf g v)) (fun v hv ns t => by rw [t.ints]) fun out h1 h2 => ⟨_, rfl, ?_⟩
  obtain ⟨e', he'⟩ := PyProof.Rows.sortedHeap_at (vs := L0.map fun q => Value.ref q.1) (out := out) hoL
  have io : ∀ q ∈ L0, TS.intsOf g (.ref q.1) = q.2 := fun q hq => (tup q hq).ints
  have mo : ∀ u ∈ out.toList, ∃ q ∈ L0, u = .ref q.1 := fun u hu => by
    obtain ⟨q, hq, e⟩ := List.mem_map.mp (h1.mem_iff.mp hu)
    exact ⟨q, hq, e.symm⟩
  have eo : (out.toList.map fun u => (adr u, TS.intsOf g u)).map (fun q => Value.ref q.1) = out.toList := by
    rw [List.map_map]
    refine (List.map_congr_left fun u hu => ?_).trans (List.map_id _)
    obtain ⟨q, hq, rfl⟩ := mo u hu
    rfl
  have pk : ((out.toList.map fun u => (adr u, TS.intsOf g u)).map (·.2)).Perm (L0.map (·.2)) := by
    rw [List.map_map]
    refine (h1.map (TS.intsOf g)).trans ?_
    rw [List.map_map]
    refine List.Perm.of_eq (List.map_congr_left fun q hq => io q hq)
  have mL : ∀ q ∈ (out.toList.map fun u => (adr u, TS.intsOf g u)), q ∈ L0 := fun q hq => by
    obtain ⟨u, hu, e⟩ := List.mem_map.mp hq
    obtain ⟨q', hq', e'⟩ := mo u hu
    subst e'
    rw [← e, io q' hq']
    exact hq'
  have hlen : ((out.toList.map fun u => (adr u, TS.intsOf g u)).map fun q => V.ref q.1).length ≤ sizeLine := by
    rw [List.length_map, List.length_map, h1.length_eq, List.length_map]
    exact Nat.le_trans (Nat.le_of_lt h64) (by decide)
  refine ⟨.ref h'.objs.size, upd H h'.objs.size (.lst ((out.toList.map fun u => (adr u, TS.intsOf g u)).map fun q => V.ref q.1)), I.laid (t' := tk) (fun b u e => ?_) (Nat.le_refl _) ⟨hlen, out.toList, e', refs_of eo.symm, he'⟩, rfl, h _ _ pk ?_ (fun q hq => (hk q (mL q hq)).1) (I.hok.fresh (Nat.le_refl _))⟩
  · have hne : b ≠ h'.objs.size := Nat.ne_of_lt (Heap.lt_size e)
    have hb : g.get? b = some u := by rw [← hgh]; exact Heap.get?_push_of_some _ e
    exact (PyProof.Rows.sortedHeap_old hne (Heap.lt_size hb)).trans hb
  · have nd := pk.nodup_iff.mpr hn
    rw [List.map_map, List.nodup_iff_pairwise_ne, List.pairwise_map] at nd
    rw [List.pairwise_map]
    refine List.Pairwise.imp_of_mem (fun {u v} hu hv huv => ?_) (h2.and nd)
    obtain ⟨q, hq, rfl⟩ := mo u hu
    obtain ⟨q', hq', rfl⟩ := mo v hv
    obtain ⟨hle, hne⟩ := huv
    have hle : TS.code B (TS.intsOf g (.ref q.1)) ≤ TS.code B (TS.intsOf g (.ref q'.1)) := hle
    have hne : TS.intsOf g (.ref q.1) ≠ TS.intsOf g (.ref q'.1) := hne
    show HT.lexLt (TS.intsOf g (.ref q.1)) (TS.intsOf g (.ref q'.1)) = true
    rw [io q hq, io q' hq'] at *
    rcases lex_of_code ((hk q hq).2.1.trans (hk q' hq').2.1.symm) (hk q hq).2.2 (hk q' hq').2.2 hle with z | z
    · exact absurd z hne
    · exact z
end
end Bx

/-! Bx 5: enumerate of a tuple. -/
namespace PySem
open Sem (wp)
open AutoSeq1 (wpAny_loadPart')
theorem bx_meets_enum_tuple (t : Addr) (items : Array Value) (n : Nat) (dct : Option Addr) (sl : Array (Option Value)) :
    Meets (Builtin.«enumerate.__new__» ⟨[.type "enumerate", .ref t], []⟩) (fun _ R s => s.heap.get? t = some { cls := .type "tuple", dict := dct, data := .seq items n, slots := sl } ∧
      R (.ok (.ret (.ref (s.heap.push { cls := .type "tuple_iterator", data := .fields #[.ref t, .int 0 0] }).objs.size)))
        { s with heap := (s.heap.push { cls := .type "tuple_iterator", data := .fields #[.ref t, .int 0 0] }).push { cls := .type "enumerate", data := .fields #[.none, .bool false, .ref s.heap.objs.size, rawInt 0, .none, .none] } }) :=
  .of_wp fun prog w A R s h => by
    obtain ⟨hp, g, d, tk, os⟩ := s
    obtain ⟨hl, h⟩ := h
    have hsub := sub_enumerate
    have hT : Heap.IsTuple (Shared.heap ⟨hp, g, d, tk, os⟩) t items := ⟨_, hl, rfl, n, rfl⟩
    wp_walk using wpAny_loadPart' hl
    refine wpAny_stack_any fun st => wpAny_pure ?_
    split
    · rename_i c _ _ _ _ _
      cases (c == Value.type "enumerate")
      · wp_walk using wpAny_loadPart' hl, wpAny_pyIter_tuple hT
        exact ⟨_, rfl, h⟩
      · wp_walk using wpAny_loadPart' hl, wpAny_pyIter_tuple hT
        exact ⟨_, rfl, h⟩
    · wp_walk using wpAny_loadPart' hl, wpAny_pyIter_tuple hT
      exact ⟨_, rfl, h⟩
theorem bx_call_enum_tuple {prog : Program} {w : World} {A : Around} {E : Value → Shared → Prop} {s : Shared} {t : Addr} {items : Array Value} {Q : Value → Shared → Prop} (hL : s.heap.IsTuple t items)
    (h : ∀ h', IsEnum h' (s.heap.objs.size + 1) s.heap.objs.size 0 .none → h'.IsTupleIter s.heap.objs.size t 0 → (∀ b o, s.heap.get? b = some o → h'.get? b = some o) → Q (.ref (s.heap.objs.size + 1)) { s with heap := h' }) :
    wpAny (model prog w) A (call (.type "enumerate") [.ref t]) Q E s := by
  obtain ⟨⟨c, dct, dt, sl⟩, hl, hc, n, hd⟩ := hL
  replace hc : c = .type "tuple" := hc
  replace hd : dt = .seq items n := hd
  subst hc hd
  refine callType_new F.called_enumerate (by decide) (F.typeCall_enumerate_1 _) (F.newCall_enumerate_1 _) (fun obj => F.args_object_init_2 obj _) F.entry_enumerate_new (bx_meets_enum_tuple t items n dct sl) ⟨hl, ?_⟩
  have hz : (s.heap.push { cls := .type "tuple_iterator", data := .fields #[.ref t, .int 0 0] }).objs.size = s.heap.objs.size + 1 := Heap.size_push ..
  show _ ∧ _
  rw [hz]
  have he : IsEnum ((s.heap.push { cls := .type "tuple_iterator", data := .fields #[.ref t, .int 0 0] }).push
      { cls := .type "enumerate", data := .fields #[.none, .bool false, .ref s.heap.objs.size, rawInt 0, .none, .none] }) (s.heap.objs.size + 1) s.heap.objs.size 0 .none := by
    have z := Heap.get?_push_size (s.heap.push { cls := .type "tuple_iterator", data := .fields #[.ref t, .int 0 0] })
      (o := { cls := .type "enumerate", data := .fields #[.none, .bool false, .ref s.heap.objs.size, rawInt 0, .none, .none] }) rfl
    rw [hz] at z
    exact z
  exact ⟨⟨_, he, rfl⟩, h _ he ⟨_, Heap.get?_push_of_some _ (Heap.get?_push_size _ rfl), rfl, rfl⟩ fun b o x => Heap.get?_push_of_some _ (Heap.get?_push_of_some _ x)⟩
end PySem
namespace Bx
open PySem PySem.Spec PyProof.Rows L2
/-- the tuple at a, each item in a new pair -/
def Ite (K : PySem.W.Frag) (a : Addr) : It :=
  ⟨fun i H => ∃ (xs : List V) (x : V), SqT K H a xs ∧ xs[i]? = some x, fun i H v H' => ∃ T x, v = .ref T ∧ H T = none ∧ H' = upd H T (.tup [.int (i : Nat), x]) ∧ ∀ xs, SqT K H a xs → xs[i]? = some x, fun i H => ∃ xs : List V, SqT K H a xs ∧ xs.length = i⟩
theorem tup_ne_iter {h : Heap} {a it i : Nat} {items : Array Value} (p : h.IsTuple a items) (q : h.IsTupleIter it a i) : a ≠ it := fun z => by
  obtain ⟨o, e, c, _⟩ := p
  obtain ⟨o', e', c', _⟩ := q
  rw [z, e'] at e
  cases e
  rw [c'] at c
  exact absurd c (by decide)
theorem turn_enumT {P : Program} {w : World} {K : PySem.W.Frag} {elts : List Expr} {kk : Nat} {tpos : Pos} (a e it : Addr) :
    Turn P w K (.Tuple elts kk tpos) (Ite K a) [e, it] e (fun i h => (∃ old, IsEnum h e it ((i : Nat) : Int) old) ∧ h.IsTupleIter it a i ∧ e ≠ it) where
  mem := by simp
  obj := fun i h st b hb => by
    obtain ⟨⟨old, he⟩, ⟨o, ho, hc, hd⟩, _⟩ := st
    have e' : b = e ∨ b = it := by simpa using hb
    rcases e' with z | z
    · rw [z]
      exact ⟨_, he, fun v q => nomatch q⟩
    · rw [z]
      exact ⟨o, ho, fun v q => by rw [hd] at q; cases q⟩
  keep := fun i h h' st k => let ⟨⟨old, he⟩, hi, hne⟩ := st; ⟨⟨old, k e (by simp) _ he⟩, hi.at fun o q => k it (by simp) o q, hne⟩
  item := by
    intro X hP hw hK hc i pins s σ H E I hf st hg
    subst hP hw hK
    obtain ⟨⟨old, he⟩, hit, hne⟩ := st
    obtain ⟨xs, x, hq, hx⟩ := hg
    obtain ⟨its, rv, p, hz⟩ := I.tuple hq
    obtain ⟨u, hu, ru⟩ := rv.get hx
    have pt : s.heap.IsTuple a its.toArray := p
    have hel : e < s.heap.objs.size := Heap.lt_size he
    have hil : it < s.heap.objs.size := by
      obtain ⟨_, q, _⟩ := hit
      exact Heap.lt_size q
    have D := Draws.tuple (prog := X.prog) (w := X.w) (A := X.A.in1) (by simpa using I.ok.hd hc) it a (tup_ne_iter pt hit) its.toArray
    have eu : its.toArray[i]? = some u := by simpa using hu
    have hlt : i < its.toArray.size := (Array.getElem?_eq_some_iff.mp eu).1
    have ea : a ≠ e := fun z => by
      obtain ⟨o, e1, c1, _⟩ := pt
      rw [z, he] at e1
      cases e1
      exact absurd (Value.type.inj c1) (by decide)
    refine wpAny_pyNext_enum_itemD D he ⟨hit, pt⟩ hlt hne (by simp [hne, Ne.symm ea]) fun y h' tk hy ho st' hT hsz hk => ?_
    have yu : y = u := Option.some.inj (hy.symm.trans eu)
    subst yu
    refine ⟨_, rfl, wpAny_letOwnedTupleGo_enum (s := { s with heap := h', toks := tk + 1 }) ho fun h'' he' sb => ?_⟩
    have hT2 : h''.get? s.heap.objs.size = some { cls := .type "tuple", data := .seq #[.int i tk, y] } := (sb.2 _ (Nat.ne_of_gt hel)).trans hT
    have new : ObjOk X.prog X.w (upd H s.heap.objs.size (.tup [.int (i : Nat), x])) h'' s.heap.objs.size (.tup [.int (i : Nat), x]) :=
      ⟨by show 2 ≤ sizeLine; decide, [.int i tk, y], .cons ⟨_, rfl⟩ (.cons ru .nil), ⟨_, hT2, rfl, _, rfl⟩⟩
    have I1 : Inv X pins σ (upd H s.heap.objs.size (.tup [.int (i : Nat), x])) { s with heap := h'', toks := tk + 1 } :=
      I.turnedNew (ch := [e, it]) (fun b ob hb q => (sb.2 b (fun z => hb (by simp [z]))).trans (hk b ob (fun z => hb (by simp [z])) (fun z => hb (by simp [z])) q)) hf (Nat.le_refl _) new
    refine ⟨.ref s.heap.objs.size, _, I1, rfl, ⟨_, x, rfl, I.hok.fresh (Nat.le_refl _), rfl, fun ys hy => by rw [I.tuple_inj hy hq]; exact hx⟩, ⟨⟨y, ?_⟩, st'.1.at fun o q => (sb.2 it (Ne.symm hne)).trans q, hne⟩, fun b hb => ?_⟩
    · have e1 : ((i + 1 : Nat) : Int) = (i : Int) + 1 := by omega
      rw [e1]
      exact he'
    · have hb' : b < s.heap.objs.size := by
        have e' : b = e ∨ b = it := by simpa using hb
        rcases e' with z | z
        · rw [z]
          exact hel
        · rw [z]
          exact hil
      rw [upd_ne (Nat.ne_of_lt hb')]
      exact (hf b hb).1
  done := by
    intro X hP hw hK hc i pins s σ H E I hf st hg
    subst hP hw hK
    obtain ⟨⟨old, he⟩, hit, hne⟩ := st
    obtain ⟨xs, hq, hx⟩ := hg
    obtain ⟨its, rv, p, hz⟩ := I.tuple hq
    obtain ⟨f0, f1, f2, f3, f4, f5⟩ := hf it (by simp)
    have hl := rv.length
    have pt : s.heap.IsTuple a its.toArray := p
    have D := Draws.tuple (prog := X.prog) (w := X.w) (A := X.A.in1) (by simpa using I.ok.hd hc) it a (tup_ne_iter pt hit) its.toArray
    have ei : its.toArray.size = i := by
      rw [List.size_toArray]
      omega
    rw [← ei] at he hit
    exact wpAny_pyNext_enum_endD D he ⟨hit, pt⟩ fun h' eb => ⟨rfl, I.turned (t' := s.toks) (fun b o hb q => eb b o hb q) f0 f1 f3 f4 f5⟩
  self := fun A i s Q E st h => let ⟨⟨_, he⟩, _⟩ := st; wpAny_pyIter_enum he h
def iEnumT (K : PySem.W.Frag) (ta : TA) : TI := fun σ H R => ta σ H fun vs H1 => ∃ a xs, vs = [.ref a] ∧ SqT K H1 a xs ∧ R (Ite K a) H1
theorem pi_enumT {X : Cx} {e : Expr} {ta : TA} {p pos tpos : Pos} {elts : List Expr} {kk : Nat} (hg : Gl X "enumerate") (hm : X.mg "enumerate" = none) (ha : PA X [e] ta) (hs : starEach [e] X.env = [(false, eval e X.env)] := by rfl) :
    PI X (.Tuple elts kk tpos) (.Call (.Name "enumerate" p) [e] [] pos) (iEnumT X.K ta) := by
  refine ⟨fun pins s σ H R I h => ?_⟩
  refine Call_ (ld_blt I hg hm boot_enumerate (PyProof.Rows.callWith_type1 (thn (ha.run pos pins s σ H _ I h) fun us s1 ⟨vs, H1, I1, r1, q1⟩ => ?_) hs rfl))
  obtain ⟨a, xs, ex, hq, q⟩ := q1
  subst ex
  cases r1 with
  | cons r rr =>
    cases rr
    cases r
    obtain ⟨its, rv, p', hz⟩ := I1.tuple hq
    refine bx_call_enum_tuple (show s1.heap.IsTuple a its.toArray from p') fun h' he hit hk => wpAny_pyIter_enum he ?_
    have I2 : Inv X pins σ H1 { s1 with heap := h' } := I1.kept (t' := s1.toks) hk
    refine ⟨s1.heap.objs.size + 1, [s1.heap.objs.size + 1, s1.heap.objs.size], _, _, H1, rfl, I2, turn_enumT a (s1.heap.objs.size + 1) s1.heap.objs.size, ⟨⟨.none, he⟩, hit, Nat.succ_ne_self _⟩, fun b hb => ?_, q⟩
    have e' : b = s1.heap.objs.size + 1 ∨ b = s1.heap.objs.size := by simpa using hb
    have hle : s1.heap.objs.size ≤ b := by
      rcases e' with z | z
      · rw [z]
        exact Nat.le_add_right _ _
      · rw [z]
        exact Nat.le_refl _
    exact I1.fpOk hle (I1.hok.fresh hle)
end Bx

/-! Bx 6: sorted(d), for k in d, list(d.values()) of dicts with tuple keys. -/
namespace Bx
open PySem PySem.Spec PyProof.Rows L2

/-- the raw entries beside the tracked ones -/
theorem td_raw {X : Cx} {pins : List (Addr × Obj)} {σ : St} {H : Hp} {s : Shared} {a : Addr} {xs : List Ent} {o : Obj} (I : Inv X pins σ H s) (e : H a = some (td X.prog X.w a xs o)) :
    xs.length ≤ sizeLine ∧ (a == sysModules) = false ∧ (xs.map (·.1)).Nodup ∧ ∃ vs es ep, Paired EntR xs vs ∧ s.heap.get? a = some o ∧ o.ExactDict ∧ o.data = .dict es ep ∧ es.toList = vs.map (entryOfKey (tupleKind (intKind X.prog X.w))) := by
  obtain ⟨⟨p1, p2, p3, vs, rel, es, ep, h1, h2, h3, h4⟩, _, _⟩ := (show ObjOk X.prog X.w H s.heap a (.ext (tdP X.prog X.w a xs o)) from I.hok a _ e)
  exact ⟨p1, p2, p3, vs, es, ep, rel, h1, h2, h3, h4⟩
theorem ent_at {P : Program} {w : World} {xs : List Ent} {vs : List (List Int × Addr × Value)} {es : Array DictEntry} (r : Paired EntR xs vs) (he : es.toList = vs.map (entryOfKey (tupleKind (intKind P w)))) {j : Nat} {en : DictEntry} (h : es[j]? = some en) :
    ∃ p, xs[j]? = some p ∧ en.key = .ref p.2.1 ∧ RelV p.2.2 en.val := by
  rw [← Array.getElem?_toList, he, List.getElem?_map] at h
  have go : ∀ {ps : List Ent} {qs : List (List Int × Addr × Value)}, Paired EntR ps qs → ∀ (j : Nat) (q : List Int × Addr × Value), qs[j]? = some q → ∃ p, ps[j]? = some p ∧ EntR p q := by
    intro ps qs r
    induction r with
    | nil =>
      intro j q h
      cases h
    | @cons p q' ps qs hp t ih =>
      intro j q h
      cases j with
      | zero =>
        cases h
        exact ⟨p, rfl, hp⟩
      | succ j => exact ih j q h
  cases hv : vs[j]? with
  | none =>
    rw [hv] at h
    cases h
  | some q =>
    rw [hv] at h
    cases h
    obtain ⟨p, hp, _, h2, h3⟩ := go r j q hv
    exact ⟨p, hp, by rw [h2] <;> rfl, h3⟩
theorem ents_len {P : Program} {w : World} {xs : List Ent} {vs : List (List Int × Addr × Value)} {es : Array DictEntry} (r : Paired EntR xs vs) (he : es.toList = vs.map (entryOfKey (tupleKind (intKind P w)))) : es.size = xs.length := by
  rw [Paired.length r, ← Array.length_toList, he, List.length_map]
theorem acc_keys {xs : List Ent} {es : Array DictEntry} {acc : Array Value} (hl : acc.size = es.size) (hs : es.size = xs.length) (f : ∀ (j : Nat) (v : Value), acc[j]? = some v → ∃ en : DictEntry, es[j]? = some en ∧ v = en.key)
    (g : ∀ (j : Nat) (en : DictEntry), es[j]? = some en → ∃ p, xs[j]? = some p ∧ en.key = .ref p.2.1) : acc.toList = xs.map fun p => Value.ref p.2.1 := by
  apply List.ext_getElem?
  intro j
  rw [List.getElem?_map, Array.getElem?_toList]
  cases hj : acc[j]? with
  | none =>
    have h1 := Array.getElem?_eq_none_iff.mp hj
    rw [List.getElem?_eq_none (by omega)] <;> rfl
  | some v =>
    obtain ⟨en, hen, rfl⟩ := f j v hj
    obtain ⟨p, hp, e⟩ := g j en hen
    rw [hp, e] <;> rfl
section
variable {X : Cx}
/-- sorted(d) -/
def rSortedD (P : Program) (w : World) (K : PySem.W.Frag) : List V → Hp → VK → Prop := fun xs H Q => ∃ (a : Addr) (kvs : List (List Int × V)), xs = [.ref a] ∧ DD P w K H a kvs ∧ (∃ (B : Int) (d : Nat), 1 ≤ d ∧ ∀ kv ∈ kvs, kv.1.length = d ∧ TS.Bd B kv.1) ∧ kvs.length < 64 ∧
  ∀ (L : List (Addr × List Int)) (p : Addr), (L.map (·.2)).Perm (kvs.map (·.1)) → L.Pairwise (fun a b => HT.lexLt a.2 b.2 = true) → (∀ q ∈ L, SqT K H q.1 (q.2.map V.int)) → H p = none → Q (.ref p) (upd H p (.lst (L.map fun q => V.ref q.1)))
theorem call_sortedDD (hc : X.calm = true) : CallR X (.builtin "sorted") (rSortedD X.prog X.w X.K) := by
  intro pins s σ H xs us Q I r q
  obtain ⟨a, kvs, ex, D, ⟨B, d, hd, hk⟩, h64, q⟩ := q
  subst ex
  obtain ⟨u, eu, rx⟩ := vals1 r
  subst eu
  cases rx
  obtain ⟨ps, o, e, rfl, t⟩ := D
  obtain ⟨z, lo, nd, vs, es, ep, rel, h1, h2, h3, h4⟩ := td_raw I e
  have hsz := ents_len rel h4
  have hkl : (kvOf ps).length = ps.length := List.length_map ..
  refine Calls.call_function_entry PyProof.Rows.kind_sorted PyProof.Rows.plain_sorted PyProof.Rows.entry_sorted (PyProof.Rows.args_sorted1 _) ?_
  unfold Builtin.«sorted»
  refine wpAny_bind (m := checkCount "sorted" 1 1 _) (wpAny_pure ?_)
  refine wpAny_bind (PySem.W.kdu_collect (A := X.A.in1) (kdl_raw lo h2 h3) (by simpa using I.ok.hd hc) h1 (by omega) fun h' tk acc kp hacc => ?_)
  have ha := acc_keys hacc.1 hsz hacc.2 fun j en hen => let ⟨p, hp, e1, _⟩ := ent_at rel h4 hen; ⟨p, hp, e1⟩
  have I1 : Inv X pins σ H { s with heap := h', toks := tk } := I.kept kp
  have ha2 : acc.toList = (ps.map fun p => (p.2.1, p.1)).map fun q => Value.ref q.1 := by rw [ha, List.map_map] <;> rfl
  have hm : ∀ q ∈ ps.map (fun p => (p.2.1, p.1)), ∃ p ∈ ps, q = (p.2.1, p.1) := fun q hq => by
    obtain ⟨p, hp, e⟩ := List.mem_map.mp hq
    exact ⟨p, hp, e.symm⟩
  have hl : ps.length < 64 := by omega
  rw [ha2]
  refine wpAny_bind (wpAny_newList ?_ (by rw [List.length_map, List.length_map, sizeLine_eq]; omega))
  have hoL : (h'.push (seqObj "list" ((ps.map fun p => (p.2.1, p.1)).map fun q => Value.ref q.1).toArray 0)).get? h'.objs.size = some (seqObj "list" ((ps.map fun p => (p.2.1, p.1)).map fun q => Value.ref q.1).toArray 0) := Heap.get?_push_size _ rfl
  show wpAny _ _ _ _ _ { s with heap := h'.push (seqObj "list" ((ps.map fun p => (p.2.1, p.1)).map fun q => Value.ref q.1).toArray 0), toks := tk }
  refine wpAny_bind (wpAny_holding (wpAny_call_entry PyProof.Rows.slot_list_sort ⟨_, hoL, rfl⟩ PyProof.Rows.entry_list_sort
    (wpAny_mono (sort_keys (B := B) (d := d) (Q := Q) I1 hd (fun q hq => ?_) (by rw [List.length_map]; omega) (by rw [List.map_map]; exact nd) ?_) (fun fin s2 hq => ?_) fun _ _ h => h)
    (PyProof.Rows.args_list_sort _)))
  · obtain ⟨p, hp, rfl⟩ := hm q hq
    exact ⟨t p hp, hk (p.1, p.2.2) (List.mem_map.mpr ⟨p, hp, rfl⟩)⟩
  · intro L p hL hp hs hn
    refine q L p (hL.trans (List.Perm.of_eq ?_)) hp hs hn
    unfold kvOf
    rw [List.map_map, List.map_map] <;> rfl
  · obtain ⟨v, rfl, hq⟩ := hq
    exact ⟨v, rfl, wpAny_pure ⟨_, rfl, hq⟩⟩
end

/-! ### for k in d -/
def Itdd (P : Program) (w : World) (d : Addr) (xs : List Ent) (o : Obj) : It :=
  ⟨fun i H => H d = some (td P w d xs o) ∧ i < xs.length, fun i H v H' => H' = H ∧ ∃ p, xs[i]? = some p ∧ v = .ref p.2.1, fun i H => H d = some (td P w d xs o) ∧ xs.length ≤ i⟩
theorem turn_dd {P : Program} {w : World} {K : PySem.W.Frag} {tg : Expr} {d : Addr} {o : Obj} {es : Array DictEntry} {ep : Nat} {xs : List Ent} (it : Addr) (hod : o.data = .dict es ep) :
    Turn P w K tg (Itdd P w d xs o) [it] it (fun i h => h.IsKeyIter it d i xs.length ep) where
  mem := by simp
  obj := fun i h st b hb => by
    obtain rfl : b = it := by simpa using hb
    obtain ⟨oi, e, c, dd⟩ := st
    exact ⟨oi, e, fun v z => by rw [dd] at z; cases z⟩
  keep := fun i h h' st k => st.at fun oi e => k it (by simp) oi e
  item := by
    intro X hP hw hK hc i pins s σ H E I hf st hg
    subst hP hw hK
    obtain ⟨hd, hi⟩ := hg
    obtain ⟨f0, f1, f2, f3, f4, f5⟩ := hf it (by simp)
    obtain ⟨z, lo, nd, vs, es', ep', rel, h1, h2, h3, h4⟩ := td_raw I hd
    obtain ⟨rfl, rfl⟩ := dict_ep hod h3
    have hsz := ents_len rel h4
    obtain ⟨en, hen⟩ : ∃ en, es'[i]? = some en := ⟨es'[i], Array.getElem?_eq_getElem (by omega)⟩
    obtain ⟨p, hp, hkey, _⟩ := ent_at rel h4 hen
    refine next_key_item st h1 h3 hsz hen fun h' st' sb => ?_
    have I1 : Inv X pins σ H { s with heap := h' } := I.turned (t' := s.toks) (fun b ob hb e => (sb.2 b hb).trans e) f0 f1 f3 f4 f5
    obtain ⟨oi, e, c, dd⟩ := id st'
    exact ⟨en.key, rfl, go_of (s := { s with heap := h' }) e c dd (by decide) ⟨.ref p.2.1, H, I1, hkey, ⟨rfl, p, hp, rfl⟩, st', fun b hb => (hf b hb).1⟩⟩
  done := by
    intro X hP hw hK hc i pins s σ H E I hf st hg
    subst hP hw hK
    obtain ⟨hd, hi⟩ := hg
    obtain ⟨f0, f1, f2, f3, f4, f5⟩ := hf it (by simp)
    obtain ⟨z, lo, nd, vs, es', ep', rel, h1, h2, h3, h4⟩ := td_raw I hd
    obtain ⟨rfl, rfl⟩ := dict_ep hod h3
    exact next_key_end (I.ok.hd hc) st h1 h3 (ents_len rel h4) hi fun h' eb => ⟨rfl, I.turned (t' := s.toks) (fun b ob hb e => eb b ob hb e) f0 f1 f3 f4 f5⟩
  self := fun A i s Q E st h => by
    refine wpAny_pyIter_slot st.typeIs F.slot_dict_keyiterator_iter (wpAny_call_entry F.slot_dict_keyiterator_iter st.typeIs F.entry_dict_keyiterator_iter ?_ (F.args_dict_keyiterator_iter_1 _))
    show wpAny _ _ (ret (.ref it)) _ _ s
    exact wpAny_pure ⟨_, rfl, "dict_keyiterator", _, st.typeIs, F.slot_dict_keyiterator_next.lookup, h⟩
def iDD (P : Program) (w : World) (te : TE) : TI := fun σ H R => te σ H fun x H1 => ∃ d xs o, x = .ref d ∧ H1 d = some (td P w d xs o) ∧ R (Itdd P w d xs o) H1
theorem pi_dd {X : Cx} {tg e : Expr} {te : TE} (he : PE X e te) : PI X tg e (iDD X.prog X.w te) := by
  refine ⟨fun pins s σ H R I h => ?_⟩
  refine thn (he.run pins s σ H _ I h) fun u s1 ⟨x, H1, I1, rx, d, xs, o, ex, hd, q⟩ => ?_
  subst ex
  obtain rfl : u = Value.ref d := rx
  obtain ⟨z, lo, nd, vs, es, ep, rel, h1, h2, h3, h4⟩ := td_raw I1 hd
  refine iter_keys lo h1 h2 h3 (pi_one (tk := s1.toks) I1 _ (turn_dd _ h3) ⟨_, Heap.get?_push_size _ rfl, rfl, ?_⟩ q)
  rw [ents_len rel h4] <;> rfl
theorem for_dd {P : Program} {w : World} {d : Addr} {xs : List Ent} {o : Obj} {g : TG} {tb : TS} {D : Ends} {σ : St} {H : Hp} (Pv : Nat → St → Hp → Prop) (h0 : Pv 0 σ H) (hl : ∀ i σ H, i ≤ xs.length → Pv i σ H → H d = some (td P w d xs o))
    (hs : ∀ i p σ H, xs[i]? = some p → Pv i σ H → g (.ref p.2.1) σ H fun σ2 H2 => tb { D with nx := Pv (i + 1), ct := Pv (i + 1), bk := D.nx } σ2 H2) (hd : ∀ σ H, Pv xs.length σ H → D.nx σ H) :
    ∃ W : Nat → Nat → St → Hp → Prop, (∃ m, W 0 m σ H) ∧ ∀ i m σ H, W i m σ H →
      ((Itdd P w d xs o).stop i H ∧ D.nx σ H) ∨ ((Itdd P w d xs o).go i H ∧ ∃ N : St → Hp → Prop, (∀ σ' H', N σ' H' → ∃ m', m' < m ∧ W (i + 1) m' σ' H') ∧ ∀ x H', (Itdd P w d xs o).yld i H x H' → g x σ H' fun σ2 H2 => tb { D with nx := N, ct := N, bk := D.nx } σ2 H2) := by
  refine ⟨fun i m σ H => m + i = xs.length ∧ Pv i σ H, ⟨xs.length, rfl, h0⟩, fun i m σ H ⟨e, p⟩ => ?_⟩
  have q := hl i σ H (by omega) p
  cases m with
  | zero =>
    obtain rfl : i = xs.length := by omega
    exact .inl ⟨⟨q, Nat.le_refl _⟩, hd σ H p⟩
  | succ m =>
    refine .inr ⟨⟨q, by omega⟩, Pv (i + 1), fun σ' H' p' => ⟨m, Nat.lt_succ_self _, by omega, p'⟩, fun x H' ⟨e', u, hu, ex⟩ => ?_⟩
    subst e' ex
    exact hs i u σ _ hu p
theorem lc_dd {P : Program} {w : World} {d : Addr} {xs : List Ent} {o : Obj} {g : TG} {tt : TT} {te : TE} {vs : List Nat} {σ : St} {H1 : Hp} {D : Addr} {Qd : Hp → Prop} (Pv : Nat → Hp → Prop) (h0 : Pv 0 (upd H1 D (.lst []))) (hl : ∀ i H, i ≤ xs.length → Pv i H → H d = some (td P w d xs o))
    (hs : ∀ i p H, xs[i]? = some p → Pv i H → g (.ref p.2.1) (wipe σ vs) H fun σ2 H2 => wipe σ2 vs = wipe σ vs ∧ tt σ2 H2 fun b H3 =>
      if b = true then te σ2 H3 fun y H4 => ∃ acc, H4 D = some (.lst acc) ∧ acc.length < sizeLine ∧ Pv (i + 1) (upd H4 D (.lst (acc ++ [y]))) else Pv (i + 1) H3) (hd : ∀ H, Pv xs.length H → Qd H) :
    ∃ W : Nat → Nat → Hp → Prop, (∃ m, W 0 m (upd H1 D (.lst []))) ∧ ∀ i m H, W i m H →
      ((Itdd P w d xs o).stop i H ∧ Qd H) ∨ ((Itdd P w d xs o).go i H ∧ ∃ Nx : Hp → Prop, (∀ H', Nx H' → ∃ m', m' < m ∧ W (i + 1) m' H') ∧ ∀ x H', (Itdd P w d xs o).yld i H x H' → g x (wipe σ vs) H' fun σ2 H2 => wipe σ2 vs = wipe σ vs ∧ tt σ2 H2 fun b H3 =>
        if b = true then te σ2 H3 fun y H4 => ∃ acc, H4 D = some (.lst acc) ∧ acc.length < sizeLine ∧ Nx (upd H4 D (.lst (acc ++ [y]))) else Nx H3) := by
  refine ⟨fun i m H => m + i = xs.length ∧ Pv i H, ⟨xs.length, rfl, h0⟩, fun i m H ⟨e, p⟩ => ?_⟩
  have q := hl i H (by omega) p
  cases m with
  | zero =>
    obtain rfl : i = xs.length := by omega
    exact .inl ⟨⟨q, Nat.le_refl _⟩, hd H p⟩
  | succ m =>
    refine .inr ⟨⟨q, by omega⟩, Pv (i + 1), fun H' p' => ⟨m, Nat.lt_succ_self _, by omega, p'⟩, fun x H' ⟨e', u, hu, ex⟩ => ?_⟩
    subst e' ex
    exact hs i u _ hu p
theorem for_enumT {K : PySem.W.Frag} {a : Addr} {xs : List V} {g : TG} {tb : TS} {D : Ends} {σ : St} {H : Hp} (Pv : Nat → St → Hp → Prop) (h0 : Pv 0 σ H) (hl : ∀ i σ H, i ≤ xs.length → Pv i σ H → SqT K H a xs)
    (hs : ∀ i x T σ H, xs[i]? = some x → Pv i σ H → H T = none → g (.ref T) σ (upd H T (.tup [.int (i : Nat), x])) fun σ2 H2 => tb { D with nx := Pv (i + 1), ct := Pv (i + 1), bk := D.nx } σ2 H2) (hd : ∀ σ H, Pv xs.length σ H → D.nx σ H) :
    ∃ W : Nat → Nat → St → Hp → Prop, (∃ m, W 0 m σ H) ∧ ∀ i m σ H, W i m σ H →
      ((Ite K a).stop i H ∧ D.nx σ H) ∨ ((Ite K a).go i H ∧ ∃ N : St → Hp → Prop, (∀ σ' H', N σ' H' → ∃ m', m' < m ∧ W (i + 1) m' σ' H') ∧ ∀ x H', (Ite K a).yld i H x H' → g x σ H' fun σ2 H2 => tb { D with nx := N, ct := N, bk := D.nx } σ2 H2) := by
  refine ⟨fun i m σ H => m + i = xs.length ∧ Pv i σ H, ⟨xs.length, rfl, h0⟩, fun i m σ H ⟨e, p⟩ => ?_⟩
  have q := hl i σ H (by omega) p
  cases m with
  | zero =>
    obtain rfl : i = xs.length := by omega
    exact .inl ⟨⟨xs, q, rfl⟩, hd σ H p⟩
  | succ m =>
    have hi : i < xs.length := by omega
    refine .inr ⟨⟨xs, xs[i], q, List.getElem?_eq_getElem hi⟩, Pv (i + 1), fun σ' H' p' => ⟨m, Nat.lt_succ_self _, by omega, p'⟩, fun x H' ⟨T, y, ex, hT, e', f⟩ => ?_⟩
    subst e' ex
    exact hs i y T σ H (f xs q) p hT

/-! ### list(d.values()) -/
def tListVals (P : Program) (w : World) (K : PySem.W.Frag) (te : TE) : TE := fun σ H Q => te σ H fun x H1 => ∃ d kvs, x = .ref d ∧ DD P w K H1 d kvs ∧ ∀ p, H1 p = none → Q (.ref p) (upd H1 p (.lst (kvs.map (·.2))))
theorem vals_acc {xs : List Ent} {es : Array DictEntry} {acc : Array Value} (hl : acc.size = es.size) (hs : es.size = xs.length) (f : ∀ (j : Nat) (v : Value), acc[j]? = some v → ∃ hi : j < es.size, v = es[j].val)
    (g : ∀ (j : Nat) (en : DictEntry), es[j]? = some en → ∃ p, xs[j]? = some p ∧ RelV p.2.2 en.val) : Vals (xs.map fun p => p.2.2) acc.toList := by
  have ha : acc.toList.length = acc.size := Array.length_toList
  refine vals_of_at (by rw [List.length_map]; omega) fun j x v hx hv => ?_
  rw [Array.getElem?_toList] at hv
  obtain ⟨hi, rfl⟩ := f j v hv
  obtain ⟨p, hp, r⟩ := g j es[j] (Array.getElem?_eq_getElem hi)
  rw [List.getElem?_map, hp] at hx
  cases hx
  exact r
theorem pe_listVals {X : Cx} {e : Expr} {te : TE} {p apos cpos pos : Pos} (hc : X.calm = true) (he : PE X e te) (hg : Gl X "list") (hm : X.mg "list" = none) (hv : bootBuiltins "list" = some (.type "list")) (hbase : attributeBase e "values" X.env (eval e X.env) = eval e X.env := by rfl)
    (hline : (apos.endLine == cpos.line) = true := by rfl) (hs : starEach [.Call (.Attribute e "values" apos) [] [] cpos] X.env = (false, eval (.Call (.Attribute e "values" apos) [] [] cpos) X.env) :: starEach [] X.env := by rfl) :
    PE X (.Call (.Name "list" p) [.Call (.Attribute e "values" apos) [] [] cpos] [] pos) (tListVals X.prog X.w X.K te) := by
  refine ⟨fun pins s σ H Q I hq => ?_⟩
  refine wpAny_Call_Name_kw (ld_blt I hg hm hv ?_)
  refine PyProof.Rows.callWith_type1 ?_ hs rfl
  rw [hs]
  show wpAny _ _ (spliced ((false, eval (.Call (.Attribute e "values" apos) [] [] cpos) X.env) :: backTo pos (starEach [] X.env))) _ _ s
  refine Calls.spliced_cons ?_
  refine wpAny_Call_method (T := "dict") (id := "dict.values") hbase rfl hline F.plainAttrs_dict F.slot_dict_values F.type_dict_values (thn (he.run pins s σ H _ I hq) fun u s1 ⟨x, H1, I1, rx, d, kvs, ex, D, q⟩ => ?_)
  subst ex
  obtain rfl : u = Value.ref d := rx
  obtain ⟨t1, t2⟩ := D.isDict I1
  obtain ⟨xs, o, e1, rfl, t⟩ := D
  obtain ⟨z, lo, nd, vs, es, ep, rel, h1, h2, h3, h4⟩ := td_raw I1 e1
  have raw : s1.heap.DictRaw d es ep := ⟨o, h1, h2, h3⟩
  have hsz := ents_len rel h4
  have I2 : Inv X pins σ H1 { s1 with heap := s1.heap.push { cls := .type "dict_values", data := .fields #[.ref d] } } := I1.kept (t' := s1.toks) fun b ob q => Heap.get?_push_of_some _ q
  refine ⟨t1, t2, ?_⟩
  show wpAny _ _ (callWith cpos (.builtin "dict.values") [.ref d] [] []) _ X.xe s1
  refine method_meetsIn F.slot_dict_values F.entry_dict_values rfl (PySem.evalArgs_none ⟨rfl, t1, F.args_dict_values_1 _, _, meets_dict_values_raw d lo, ⟨es, ep, raw⟩, ?_⟩)
  refine Calls.spliced_nil ?_
  refine PySem.W.kdl_call (KdlSrc.rawValues (d := d) (es := es) (ep := ep)) (I1.ok.hd hc) ⟨⟨_, Heap.get?_push_size _ rfl, rfl, rfl⟩, raw.push _⟩ (by omega) fun h' tk acc c hk hS hacc => ?_
  have hV := vals_acc hacc.1 hsz hacc.2 fun j en hen => let ⟨p, hp, _, e2⟩ := ent_at rel h4 hen; ⟨p, hp, e2⟩
  have hkl : ((kvOf xs).map (·.2)) = xs.map fun p => p.2.2 := by
    unfold kvOf
    rw [List.map_map] <;> rfl
  refine ⟨.ref _, upd H1 _ (.lst ((kvOf xs).map (·.2))), I2.laid (t' := tk) hk (Nat.le_refl _) ⟨by rw [hkl, List.length_map]; exact z, acc.toList, c, by rw [hkl]; exact hV, by rw [Array.toArray_toList]; exact hS⟩, rfl, q _ (I2.hok.fresh (Nat.le_refl _))⟩
end Bx

/-! Bx 7: {k: v for target in iter}, the keys tuples of ints. -/
namespace Bx
open PySem PySem.Spec PyProof.Rows L2

/-- one pair stored by the comprehension -/
theorem dd_compSet {X : Cx} {pins : List (Addr × Obj)} {σ : St} {H : Hp} {s : Shared} {E : Value → Shared → Prop} {a b : Addr} {k : List Int} {kvs : List (List Int × V)} {r : Value} {v : V} {Q : Unit → Shared → Prop} (hu : X.A.units < cLine) (I : Inv X pins σ H s) (D : DD X.prog X.w X.K H a kvs)
    (hz : kvs.length < sizeLine) (hb : SqT X.K H b (k.map V.int)) (rv : RelV v r) (h : Puts X.prog X.w X.K H a kvs k v fun H' => ∀ s', Inv X pins σ H' s' → Q () s') : wpAny (model X.prog X.w) X.A (dictSet a (.ref b) r) Q E s := by
  obtain ⟨xs, o, e, rfl, t⟩ := D
  obtain ⟨z, hd, vs, rel, dd⟩ := td_rd I e t
  have hl : xs.length < sizeLine := by
    have q : (kvOf xs).length = xs.length := List.length_map ..
    omega
  refine wpAny_dictSet_heap (hsz := by rw [← Paired.length rel]; omega) (knd := tupleKind (intKind X.prog X.w)) hu (key_is I hb) dd fun h' dd' hs => ?_
  obtain ⟨q, es, ep, hq, h2, h3, h4, _, h5⟩ := dd'
  have ky : ∀ c ys, SqT X.K H c ys → SqT X.K (upd H a (td X.prog X.w a (putE xs k b v) q)) c ys := sqT_td e
  refine h (td X.prog X.w a (putE xs k b v) q) (fun _ => ⟨_, _, upd_same, kvOf_putE .., fun p hp => ?_⟩) ky _ (d_write I (by rw [e]; exact True.intro) hs ⟨q, hq⟩ (td_laid ⟨?_, hd, putE_nodup rel rv h5, _, Ent.put rel k b rv, es, ep, hq, h2, h3, h4⟩))
  · rcases mem_putE hp with ⟨e1, e2⟩ | ⟨p', hp', e1, e2⟩
    · rw [e1, e2]
      exact ky _ _ hb
    · rw [e1, e2]
      exact ky _ _ (t p' hp')
  · have := length_putE xs k b v
    omega
def tDcT (P : Program) (w : World) (K : PySem.W.Frag) (wi : TI) (g : TG) (tk tv : TE) (vs : List Nat) : TE := fun σ H Q => wi σ H fun J H1 => ∀ D, H1 D = none → ∀ o, DD P w K (upd H1 D o) D [] → ∃ W : Nat → Nat → Hp → Prop, (∃ m, W 0 m (upd H1 D o)) ∧ ∀ i m H, W i m H →
  (J.stop i H ∧ Q (.ref D) H) ∨ (J.go i H ∧ ∃ Nx : Hp → Prop, (∀ H', Nx H' → ∃ m', m' < m ∧ W (i + 1) m' H') ∧ ∀ x H', J.yld i H x H' → g x (wipe σ vs) H' fun σ2 H2 => wipe σ2 vs = wipe σ vs ∧
    tk σ2 H2 fun y H4 => tv σ2 H4 fun z H5 => ∃ b kvs k, y = .ref b ∧ DD P w K H5 D kvs ∧ kvs.length < sizeLine ∧ SqT K H5 b (k.map V.int) ∧ Puts P w K H5 D kvs k z Nx)
section
variable {X : Cx}
theorem dcT_core {pins : List (Addr × Obj)} {s : Shared} {σ : St} {H : Hp} {Q : VK} {kx vx tg iter : Expr} {scope : Scope} {own : List (Str × Nat)} {pos pos' : Pos} {wi : TI} {g : TG} {tk tv : TE} {use : Option (Value → Sem Unit)} {Qf : Value → Shared → Prop}
    (hu : X.A.units < cLine) (hc : X.calm = true) (hN : X.N.Nodup) (I : Inv X pins σ H s) (hi : PI X tg iter wi) (ok : BlkOk X.N X.env.scope scope own)
    (hg : ∀ (s : Shared) (H : Hp) (C : Addr) (cl : List (Str × Addr)) (fp : List Addr), PG (X.blk s H scope (compEnvC scope cl C X.env) fp) tg g)
    (hk : ∀ (s : Shared) (H : Hp) (C : Addr) (cl : List (Str × Addr)) (fp : List Addr), PE (X.blk s H scope (compEnvC scope cl C X.env) fp) kx tk)
    (he : ∀ (s : Shared) (H : Hp) (C : Addr) (cl : List (Str × Addr)) (fp : List Addr), PE (X.blk s H scope (compEnvC scope cl C X.env) fp) vx tv) (hs : ∀ x, foldedSetIterable iter X.env x = pure x)
    (h : tDcT X.prog X.w X.K wi g tk tv (own.map (·.2)) σ H Q)
    (hend : ∀ D C s' m H', Inv X pins σ H' s' → Q (.ref D) H' → s'.heap.Ns C m → FpOk X pins H' C → compPost (model X.prog X.w) X.A X.xe use Qf (.ref D) C (.ok .next) s') :
    wpAny (model X.prog X.w) X.A (comprehension (.DictComp kx vx [⟨tg, iter, [], 0⟩] scope pos) scope X.env pos' newDict false (eval iter X.env) use) Qf X.xe s := by
  have hfree : ∀ y ∈ scope.names, y.2 = .free → ∃ c, X.env.cells.lookup y.1 = some c := fun y hy e => (ok.free y hy e).elim (fun k => I.ok.has _ (.inl k)) fun k => I.ok.has _ (.inr k)
  refine wpAny_comprehension_free (use := use) rfl hs (closure_ok hfree) ok.kind (fun y hy e => by rw [ok.uniq y hy, e]) (thn (hi.run pins s σ H _ I h) fun xv s1 hx => thn hx fun itv s2 h2 => ?_)
  obtain ⟨it, fp, tn, J, H2, rfl, I2, T, st2, f2, q⟩ := h2
  refine wpAny_newObj_type (newEnv_comp ?_)
  have hDn : H2 s2.heap.objs.size = none := I2.hok.fresh (Nat.le_refl _)
  have hempty := td_empty (P := X.prog) (w := X.w) (H := upd H2 s2.heap.objs.size (td X.prog X.w s2.heap.objs.size [] { cls := .type "dict", data := .dict #[] })) s2.heap I2.big
  have I3 : Inv X pins σ (upd H2 s2.heap.objs.size (td X.prog X.w s2.heap.objs.size [] { cls := .type "dict", data := .dict #[] })) { s2 with heap := s2.heap.push { cls := .type "dict", data := .dict #[] } } :=
    I2.laid (t' := s2.toks) (fun b o e => Heap.get?_push_of_some _ e) (Nat.le_refl _) hempty
  have hq := q s2.heap.objs.size hDn (td X.prog X.w s2.heap.objs.size [] { cls := .type "dict", data := .dict #[] }) ⟨[], _, upd_same, rfl, fun p hp => nomatch hp⟩
  obtain ⟨W, ⟨m0, w0⟩, turn⟩ := hq
  have sz : ∀ b ∈ fp, b < s2.heap.objs.size := fun b hb => let ⟨_, e, _⟩ := T.obj _ _ st2 b hb; Heap.lt_size e
  generalize hs3 : ({ s2 with heap := s2.heap.push { cls := .type "dict", data := .dict #[] } } : Shared) = s3 at I3
  have h3 : s3.heap = s2.heap.push { cls := .type "dict", data := .dict #[] } := by rw [← hs3]
  have f3 : ∀ b ∈ fp, FpOk X pins (upd H2 s2.heap.objs.size (td X.prog X.w s2.heap.objs.size [] { cls := .type "dict", data := .dict #[] })) b ∧ b < s3.heap.objs.size := fun b hb => by
    have lt := sz b hb
    refine ⟨⟨?_, (f2 b hb).2⟩, by rw [h3, Heap.size_push]; exact Nat.lt_succ_of_lt lt⟩
    rw [upd_ne (Nat.ne_of_lt lt)]
    exact (f2 b hb).1
  generalize upd H2 s2.heap.objs.size (td X.prog X.w s2.heap.objs.size [] { cls := .type "dict", data := .dict #[] }) = H3 at I3 w0 f3
  generalize s2.heap.objs.size = D at turn ⊢
  have st3 : tn 0 s3.heap := T.keep _ _ _ st2 fun b _ o e => by rw [h3]; exact Heap.get?_push_of_some _ e
  have I4 := block_start I3 ok hN f3
  have pg := hg s3 H3 s3.heap.objs.size (cellsFrom (s3.heap.objs.size + 1) scope.names (cloFrom X.env.cells scope.names [])) fp
  have pk := hk s3 H3 s3.heap.objs.size (cellsFrom (s3.heap.objs.size + 1) scope.names (cloFrom X.env.cells scope.names [])) fp
  have pe := he s3 H3 s3.heap.objs.size (cellsFrom (s3.heap.objs.size + 1) scope.names (cloFrom X.env.cells scope.names [])) fp
  have cL : (compEnvC scope (cellsFrom (s3.heap.objs.size + 1) scope.names (cloFrom X.env.cells scope.names [])) s3.heap.objs.size X.env).locals = s3.heap.objs.size := rfl
  show codeAny _ _ (.compStart (.DictComp kx vx [⟨tg, iter, [], 0⟩] scope pos) 0 (.ref it) (.ref D) (compEnvC scope (cellsFrom (s3.heap.objs.size + 1) scope.names (cloFrom X.env.cells scope.names [])) s3.heap.objs.size X.env)) _ { s3 with heap := pushCells (s3.heap.push { cls := .type "dict", data := .dict #[] }) scope.names }
  generalize compEnvC scope (cellsFrom (s3.heap.objs.size + 1) scope.names (cloFrom X.env.cells scope.names [])) s3.heap.objs.size X.env = ce at I4 pg pk pe cL ⊢
  generalize hs4 : ({ s3 with heap := pushCells (s3.heap.push { cls := .type "dict", data := .dict #[] }) scope.names } : Shared) = s4 at I4 ⊢
  have st4 : tn 0 s4.heap := T.keep _ _ _ st3 fun b _ o e => by
    rw [← hs4]
    exact pushCells_keeps _ _ _ _ (Heap.get?_push_of_some _ e)
  -- what the iterator's own objects are, within the block
  have own' : ∀ {σ' : St} {H' : Hp} {s' : Shared}, Inv (X.blk s3 H3 scope ce fp) [] σ' H' s' → (∀ b ∈ fp, H' b = none) → ∀ b ∈ fp, FpOk (X.blk s3 H3 scope ce fp) [] H' b := fun {σ' H' s'} I' hn b hb =>
    ⟨hn b hb, (I'.ok.exf b hb).1, I'.ok.exfs b hb, .inl hb, fun x c e => (I'.ok.exf b hb).2 x c e, fun p hp => nomatch (show p ∈ ([] : List (Addr × Obj)) from hp)⟩
  have loop : codeAny (model X.prog X.w) X.A (.compLoop (.DictComp kx vx [⟨tg, iter, [], 0⟩] scope pos) 0 (.ref it) (.ref D) ce) (compPost (model X.prog X.w) X.A X.xe use Qf (.ref D) s3.heap.objs.size) s4 := by
    refine compLoop_anyD (fun n s' => ∃ i H', Inv (X.blk s3 H3 scope ce fp) [] (wipe σ (own.map (·.2))) H' s' ∧ tn i s'.heap ∧ (∀ b ∈ fp, H' b = none) ∧ W i n H') (fun n s5 hI => ?_) m0 ⟨0, H3, I4, st4, fun b hb => (f3 b hb).1.1, w0⟩
    obtain ⟨i, H5, I5, st5, n5, w5⟩ := hI
    rcases turn i n H5 w5 with ⟨stop, qq⟩ | ⟨go, Nx, hNx, step⟩
    · refine thnF (T.done (X.blk s3 H3 scope ce fp) rfl rfl rfl hc i [] s5 _ H5 (fun _ _ => False) I5 (own' I5 n5) st5 stop) fun r s6 ⟨hr, I6⟩ => ?_
      subst hr
      have I7 : Inv X pins σ H5 s6 := I3.call' (ch := fp) I6.os I6.base I6.hok I6.bare fun b hb => ⟨(f3 b hb).1.2.2.2.1, (f3 b hb).1.2.1, (f3 b hb).1.2.2.2.2.1, (f3 b hb).1.2.2.2.2.2⟩
      have nC : H5 s3.heap.objs.size = none := cL ▸ (show H5 ce.locals = none from I6.free)
      obtain ⟨m, hn, _⟩ := I6.loc
      have hn' : s6.heap.Ns s3.heap.objs.size m := cL ▸ (show s6.heap.Ns ce.locals m from hn)
      exact hend D s3.heap.objs.size s6 m H5 I7 qq hn' (I3.fpOk (Nat.le_refl _) nC)
    · refine thnF (T.item (X.blk s3 H3 scope ce fp) rfl rfl rfl hc i [] s5 _ H5 (fun _ _ => False) I5 (own' I5 n5) st5 go) fun r s6 ⟨u, hr, h6⟩ => ?_
      subst hr
      refine thnF h6 fun _ s7 ⟨x, H7, I7, r7, y7, st7, n7⟩ => ?_
      refine thnF (pg.run _ s7 _ H7 x u _ (I7.pinned (own' I7 n7) (T.obj _ _ st7)) r7 (step x H7 y7)) fun _ s8 ⟨σ8, H8, I8, hw8, q8⟩ => ?_
      rw [List.forIn_nil]
      refine wpAny_pure ?_
      rw [if_pos rfl]
      refine thnF (pk.run _ s8 σ8 H8 _ I8 q8) fun kv s10 ⟨yk, H10, I10, r10, q10⟩ => ?_
      refine thnF (pe.run _ s10 σ8 H10 _ I10 q10) fun vv s11 ⟨yv, H11, I11, r11, b, kvs, k, ek, hD11, hz11, hb11, nx⟩ => ?_
      subst ek
      obtain rfl : kv = Value.ref b := r10
      refine dd_compSet (X := X.blk s3 H3 scope ce fp) hu I11 hD11 hz11 hb11 r11 fun o' d' kp' s12 I12 => ?_
      obtain ⟨m', hm, w'⟩ := hNx _ (nx o' d' kp')
      have pin' : ∀ b ∈ fp, ∀ o, s7.heap.get? b = some o → s12.heap.get? b = some o ∧ _ := fun b hb o e =>
        let z := I12.pin (b, o) (List.mem_append_right _ (List.mem_append_right _ (mem_pinsAt hb e)))
        And.intro z.1 z.2.1
      have hl : (wipe σ (own.map (·.2))).length = σ8.length := by rw [← hw8, wipe_length]
      refine ⟨m', hm, i + 1, _, (I12.unpinned (pins := [])).weak hl (fun j v e => ?_), T.keep _ _ _ st7 fun b hb o e => (pin' b hb o e).1, fun b hb => ?_, w'⟩
      · rw [← hw8] at e
        exact (wipe_some e).1
      · obtain ⟨o, e, _⟩ := T.obj _ _ st7 b hb
        exact (pin' b hb o e).2
  exact codeAny_compStart_dict loop (T.self X.A 0 _ _ _ st4 loop)
/-- as a value -/
theorem pe_dcT {kx vx tg iter : Expr} {scope : Scope} {own : List (Str × Nat)} {pos : Pos} {wi : TI} {g : TG} {tk tv : TE} (hu : X.A.units < cLine) (hc : X.calm = true) (hN : X.N.Nodup) (hi : PI X tg iter wi) (ok : BlkOk X.N X.env.scope scope own)
    (hg : ∀ (s : Shared) (H : Hp) (C : Addr) (cl : List (Str × Addr)) (fp : List Addr), PG (X.blk s H scope (compEnvC scope cl C X.env) fp) tg g)
    (hk : ∀ (s : Shared) (H : Hp) (C : Addr) (cl : List (Str × Addr)) (fp : List Addr), PE (X.blk s H scope (compEnvC scope cl C X.env) fp) kx tk)
    (he : ∀ (s : Shared) (H : Hp) (C : Addr) (cl : List (Str × Addr)) (fp : List Addr), PE (X.blk s H scope (compEnvC scope cl C X.env) fp) vx tv) (hs : ∀ x, foldedSetIterable iter X.env x = pure x := by intro _; rfl) :
    PE X (.DictComp kx vx [⟨tg, iter, [], 0⟩] scope pos) (tDcT X.prog X.w X.K wi g tk tv (own.map (·.2))) := by
  refine ⟨fun pins s σ H Q I h => ?_⟩
  rw [arm_eval_DictComp]
  refine dcT_core hu hc hN I hi ok hg hk he hs h fun D C s' m H' I' q hn f => ⟨m, hn, fun h'' sb => ?_⟩
  obtain ⟨f0, f1, f2, f3, f4, f5⟩ := f
  exact ⟨.ref D, H', I'.turned (t' := s'.toks) (fun b o hb e => (sb.2 b hb).trans e) f0 f1 f3 f4 f5, rfl, q⟩
/-- y = {..} -/
theorem ps_setDcT {i : Nat} {y : Str} {py : Pos} {kx vx tg iter : Expr} {scope : Scope} {own : List (Str × Nat)} {pos spos : Pos} {wi : TI} {g : TG} {tk tv : TE} (hu : X.A.units < cLine) (hc : X.calm = true) (hN : X.N.Nodup) (hy : X.N[i]? = some y) (hyl : X.env.scope.names.lookup y = some .local)
    (hsw : swapsWith (.DictComp kx vx [⟨tg, iter, [], 0⟩] scope pos) (some (.Name y py)) spos.line X.env = pure true) (hi : PI X tg iter wi) (ok : BlkOk X.N X.env.scope scope own)
    (hg : ∀ (s : Shared) (H : Hp) (C : Addr) (cl : List (Str × Addr)) (fp : List Addr), PG (X.blk s H scope (compEnvC scope cl C X.env) fp) tg g)
    (hk : ∀ (s : Shared) (H : Hp) (C : Addr) (cl : List (Str × Addr)) (fp : List Addr), PE (X.blk s H scope (compEnvC scope cl C X.env) fp) kx tk)
    (he : ∀ (s : Shared) (H : Hp) (C : Addr) (cl : List (Str × Addr)) (fp : List Addr), PE (X.blk s H scope (compEnvC scope cl C X.env) fp) vx tv) (hs : ∀ x, foldedSetIterable iter X.env x = pure x := by intro _; rfl) :
    PS X (.Assign [.Name y py] (.DictComp kx vx [⟨tg, iter, [], 0⟩] scope pos) spos) (tAsg (tDcT X.prog X.w X.K wi g tk tv (own.map (·.2))) (gName i)) := by
  refine ⟨fun pins s σ H D I h => ?_⟩
  rw [exec_Assign_Name_used _ _ _ _ hsw]
  refine wpAny_bind (wpAny_standAt (wpAny_bind ?_))
  show wpAny _ X.A (do let _ ← comprehension (.DictComp kx vx [⟨tg, iter, [], 0⟩] scope pos) scope X.env (firstIterPos [⟨tg, iter, [], 0⟩] pos) newDict false (eval iter X.env) (some (assign (.Name y py) X.env))) _ _ s
  have h : tDcT X.prog X.w X.K wi g tk tv (own.map (·.2)) σ H (fun x H1 => gName i x σ H1 D.nx) := h
  refine wpAny_bind (thn (dcT_core (Qf := fun _ s' => SP X pins D .next s') hu hc hN I hi ok hg hk he hs h fun L C s' m H' I' q hn f => ?_) fun _ s' hq => wpAny_pure (wpAny_pure hq))
  show wpAny _ _ (assign (.Name y py) X.env (.ref L)) _ _ _
  refine wpAny_assign_Name (store_ok2 (v := V.ref L) I' hN hy (.inl hyl) rfl (fun s2 I2 ⟨a, sb, ha⟩ => ?_) (.inr hyl))
  obtain ⟨f0, f1, f2, f3, f4, f5⟩ := f
  have haC : C ≠ a := ha.elim (fun z => z ▸ f1) fun z e => f4 y a z e.symm
  exact ⟨m, hn.sameBut sb haC, fun h3 sb3 => ⟨_, H', I2.turned (t' := s2.toks) (fun b o hb e => (sb3.2 b hb).trans e) f0 f1 f3 f4 f5, q⟩⟩
theorem sw_dc {kx vx : Expr} {gs : List Comprehension} {scope : Scope} {pos py : Pos} {y : Str} {l : Nat} {env : Env} (hk : env.scope.kind = .function) (hy : env.scope.names.lookup y = some .local) (hl : (py.line == pos.line) = true)
    (ha : (scope.names.any fun (n, k) => n == y && (k == .local || k == .cell)) = false) : swapsWith (.DictComp kx vx gs scope pos) (some (.Name y py)) l env = pure true := by
  have ky : env.kindOf y = some .local := hy
  have hb : env.blockKind = .function := by
    unfold Env.blockKind
    rw [hk] <;> rfl
  unfold swapsWith
  simp only [hb, ky, ha, Expr.pos, hl]
  rfl
/-- over a tuple that stays -/
theorem dcT_tup {P : Program} {w : World} {K : PySem.W.Frag} {a : Addr} {xs : List V} {g : TG} {tk tv : TE} {vs : List Nat} {σ : St} {H1 : Hp} {D : Addr} {o : HO} {Qd : Hp → Prop} (Pv : Nat → Hp → Prop) (h0 : Pv 0 (upd H1 D o)) (hl : ∀ i H, i ≤ xs.length → Pv i H → SqT K H a xs)
    (hs : ∀ i x H, xs[i]? = some x → Pv i H → g x (wipe σ vs) H fun σ2 H2 => wipe σ2 vs = wipe σ vs ∧
      tk σ2 H2 fun y H4 => tv σ2 H4 fun z H5 => ∃ b kvs k, y = .ref b ∧ DD P w K H5 D kvs ∧ kvs.length < sizeLine ∧ SqT K H5 b (k.map V.int) ∧ Puts P w K H5 D kvs k z (Pv (i + 1))) (hd : ∀ H, Pv xs.length H → Qd H) :
    ∃ W : Nat → Nat → Hp → Prop, (∃ m, W 0 m (upd H1 D o)) ∧ ∀ i m H, W i m H →
      ((Itt K a).stop i H ∧ Qd H) ∨ ((Itt K a).go i H ∧ ∃ Nx : Hp → Prop, (∀ H', Nx H' → ∃ m', m' < m ∧ W (i + 1) m' H') ∧ ∀ x H', (Itt K a).yld i H x H' → g x (wipe σ vs) H' fun σ2 H2 => wipe σ2 vs = wipe σ vs ∧
        tk σ2 H2 fun y H4 => tv σ2 H4 fun z H5 => ∃ b kvs k, y = .ref b ∧ DD P w K H5 D kvs ∧ kvs.length < sizeLine ∧ SqT K H5 b (k.map V.int) ∧ Puts P w K H5 D kvs k z Nx) := by
  refine ⟨fun i m H => m + i = xs.length ∧ Pv i H, ⟨xs.length, rfl, h0⟩, fun i m H ⟨e, p⟩ => ?_⟩
  have q := hl i H (by omega) p
  cases m with
  | zero =>
    obtain rfl : i = xs.length := by omega
    exact .inl ⟨⟨xs, q, Nat.le_refl _⟩, hd H p⟩
  | succ m =>
    have hi : i < xs.length := by omega
    refine .inr ⟨⟨xs, xs[i], q, List.getElem?_eq_getElem hi⟩, Pv (i + 1), fun H' p' => ⟨m, Nat.lt_succ_self _, by omega, p'⟩, fun x H' ⟨e', y⟩ => ?_⟩
    subst e'
    exact hs i x _ (y xs q) p
end
end Bx

/-! Bx T: the rules with the module given by name; the text by places; what the top has written. -/
namespace Bx
open PySem PySem.Spec PyProof.Rows L2
section
variable {X : Cx} {tg e l o i f value a b elt kx vx iter : Expr} {te ta tb ty tv tx tl tk : TE} {pos pos' apos cpos p2 : Pos}
theorem pi_tupK (K : PySem.W.Frag) (hl : PE X l tl) (h : X.K = K := by rfl) : PI X tg l (iTup K tl) := h ▸ pi_tup hl
theorem pi_ddK (P : Program) (w : World) (he : PE X e te) (h1 : X.prog = P := by rfl) (h2 : X.w = w := by rfl) : PI X tg e (iDD P w te) := by
  subst h1 h2
  exact pi_dd he
theorem pi_enumTK {es : List Expr} {kk : Nat} {tpos p : Pos} {ta : TA} (K : PySem.W.Frag) (hg : Gl X "enumerate") (hm : X.mg "enumerate" = none) (ha : PA X [e] ta) (hs : starEach [e] X.env = [(false, eval e X.env)] := by rfl) (h : X.K = K := by rfl) :
    PI X (.Tuple es kk tpos) (.Call (.Name "enumerate" p) [e] [] pos) (iEnumT K ta) := h ▸ pi_enumT hg hm ha hs
theorem ix_tupK (K : PySem.W.Frag) (h : X.K = K := by rfl) : IxR X (rIxT K) := h ▸ ix_tup
theorem ix_listK (K : PySem.W.Frag) (h : X.K = K := by rfl) : IxR X (rIxL K) := h ▸ ix_list
theorem sl_tupAK (K : PySem.W.Frag) (h : X.K = K := by rfl) : SlR X (rSlA K) := h ▸ sl_tupA
theorem sl_listK (K : PySem.W.Frag) (h : X.K = K := by rfl) : SlR X (rSlL K) := h ▸ sl_list
theorem op_catAK (K : PySem.W.Frag) (h : X.K = K := by rfl) : OpR X (binaryOp .Add) (rCatA K) := h ▸ op_catA
theorem op_ltTK (K : PySem.W.Frag) (hu : X.A.units + 1 < cLine) (h : X.K = K := by rfl) : OpR X (compareOp .Lt) (rLtT K) := h ▸ op_ltT (by omega)
theorem op_eqDK {k : Nat} (K : PySem.W.Frag) (hr : Room k X.A) (h : X.K = K := by rfl) : OpR X (compareOp .Eq) (rEqD K) := h ▸ op_eqD hr.units
theorem call_isiK (K : PySem.W.Frag) (h : X.K = K := by rfl) : CallR X (.builtin "isinstance") (rIsi K) := h ▸ call_isi
theorem call_len_seqK (K : PySem.W.Frag) (h : X.K = K := by rfl) : CallR X (.builtin "len") (fun xs H Q => ∃ p ys, xs = [.ref p] ∧ (SqL K H p ys ∨ SqT K H p ys) ∧ Q (.int ys.length) H) := h ▸ call_len_seq
theorem call_tuple_ofK (K : PySem.W.Frag) (h : X.K = K := by rfl) : CallR X (.type "tuple") (fun xs H Q => ∃ p ys, xs = [.ref p] ∧ ((SqL K H p ys ∧ ∀ l, H l = none → Q (.ref l) (upd H l (.tup ys))) ∨ (SqT K H p ys ∧ Q (.ref p) H))) := h ▸ call_tuple_of
theorem cr_allK (K : PySem.W.Frag) (hc : X.calm = true) (h : X.K = K := by rfl) : CallR X (.builtin "all") (rAll K) := h ▸ cr_all hc
theorem cr_maxK (K : PySem.W.Frag) (hc : X.calm = true) (h : X.K = K := by rfl) : CallR X (.builtin "max") (rMax K) := h ▸ cr_max hc
theorem cr_minK (K : PySem.W.Frag) (hc : X.calm = true) (h : X.K = K := by rfl) : CallR X (.builtin "min") (rMin K) := h ▸ cr_min hc
theorem cr_sumK (K : PySem.W.Frag) (hc : X.calm = true) (h : X.K = K := by rfl) : CallR X (.builtin "sum") (rSum K) := h ▸ cr_sum hc
theorem cr_sortedSetK (w : World) (hc : X.calm = true) (h : X.w = w := by rfl) : CallR X (.builtin "sorted") (rSortedSet w) := h ▸ cr_sortedSet hc
theorem cr_setIK (K : PySem.W.Frag) (w : World) (hc : X.calm = true) (h : X.K = K := by rfl) (h2 : X.w = w := by rfl) : CallR X (.type "set") (rSetI K w) := by
  subst h h2
  exact cr_setI hc
theorem call_sortedDDK (P : Program) (w : World) (K : PySem.W.Frag) (hc : X.calm = true) (h1 : X.prog = P := by rfl) (h2 : X.w = w := by rfl) (h : X.K = K := by rfl) : CallR X (.builtin "sorted") (rSortedD P w K) := by
  subst h h1 h2
  exact call_sortedDD hc
theorem pe_fldK {f : Str} (K : PySem.W.Frag) (he : PE X e ta) (hb : attributeBase e f X.env (eval e X.env) = eval e X.env) (h : X.K = K := by rfl) : PE X (.Attribute e f pos) (tFld K ta f) := h ▸ pe_fld he hb
theorem ps_fldK {f : Str} (K : PySem.W.Frag) (ha : PE X o ta) (hv : PE X value tv) (hs : swapsWith value (some (.Attribute o f pos')) pos.line X.env = pure false) (h : X.K = K := by rfl) : PS X (.Assign [.Attribute o f pos'] value pos) (sFld K ta tv f) := h ▸ ps_fld ha hv hs
theorem pe_revLK {k : Nat} {p1 p3 : Pos} (K : PySem.W.Frag) (he : PE X e te) (h : X.K = K := by rfl) : PE X (.Subscript e (.Slice none none (some (.UnaryOp .USub (.Constant (.int 1) k p1) p2)) p3) pos) (tRevL K te) := h ▸ pe_revL he
theorem pe_ddgetK (P : Program) (w : World) (K : PySem.W.Frag) (hu : X.A.units + 1 < cLine) (ho : PE X o te) (hi : PE X i ty) (hs : NoSl i) (h1 : X.prog = P := by rfl) (h2 : X.w = w := by rfl) (h : X.K = K := by rfl) : PE X (.Subscript o i pos) (tDDGet P w K te ty) := by
  subst h h1 h2
  exact pe_ddget hu ho hi hs
theorem pe_ddget2K (P : Program) (w : World) (K : PySem.W.Frag) (hu : X.A.units + 1 < cLine) (ho : PE X o te) (he : PE X e ty) (hf : PE X f tx) (m : M2 X o "get" apos e f cpos) (h1 : X.prog = P := by rfl) (h2 : X.w = w := by rfl) (h : X.K = K := by rfl) :
    PE X (.Call (.Attribute o "get" apos) [e, f] [] cpos) (tDDGet2 P w K te ty tx) := by
  subst h h1 h2
  exact pe_ddget2 hu ho he hf m
theorem ps_ddsetK (P : Program) (w : World) (K : PySem.W.Frag) (hu : X.A.units + 1 < cLine) (ho : PE X o te) (hi : PE X i ty) (hv : PE X value tv) (hs : swapsWith value (some (.Subscript o i pos')) pos.line X.env = pure false) (h1 : X.prog = P := by rfl) (h2 : X.w = w := by rfl) (h : X.K = K := by rfl) :
    PS X (.Assign [.Subscript o i pos'] value pos) (sDDSet P w K te ty tv) := by
  subst h h1 h2
  exact ps_ddset hu ho hi hv hs
theorem pe_ddnewK (P : Program) (w : World) (K : PySem.W.Frag) (h1 : X.prog = P := by rfl) (h2 : X.w = w := by rfl) (h : X.K = K := by rfl) : PE X (.Dict [] [] pos) (tDDNew P w K) := by
  subst h h1 h2
  exact pe_ddnew
theorem pe_dd1K (P : Program) (w : World) (K : PySem.W.Frag) (hu : X.A.units + 1 < cLine) (hk : PE X kx tk) (hv : PE X vx tv) (h1 : X.prog = P := by rfl) (h2 : X.w = w := by rfl) (h : X.K = K := by rfl) : PE X (.Dict [some kx] [vx] pos) (tDD1 P w K tk tv) := by
  subst h h1 h2
  exact pe_dd1 (by omega) hk hv
theorem pe_listValsK {p : Pos} (P : Program) (w : World) (K : PySem.W.Frag) (hc : X.calm = true) (he : PE X e te) (hg : Gl X "list") (hm : X.mg "list" = none) (hv : bootBuiltins "list" = some (.type "list")) (hbase : attributeBase e "values" X.env (eval e X.env) = eval e X.env := by rfl)
    (hline : (apos.endLine == cpos.line) = true := by rfl) (hs : starEach [.Call (.Attribute e "values" apos) [] [] cpos] X.env = (false, eval (.Call (.Attribute e "values" apos) [] [] cpos) X.env) :: starEach [] X.env := by rfl) (h1 : X.prog = P := by rfl) (h2 : X.w = w := by rfl) (h : X.K = K := by rfl) :
    PE X (.Call (.Name "list" p) [.Call (.Attribute e "values" apos) [] [] cpos] [] pos) (tListVals P w K te) := by
  subst h h1 h2
  exact pe_listVals hc he hg hm hv hbase hline hs
theorem ps_setDcTK {i : Nat} {y : Str} {py spos : Pos} {scope : Scope} {own : List (Str × Nat)} {wi : TI} {g : TG} (P : Program) (w : World) (K : PySem.W.Frag) (hu : X.A.units + 1 < cLine) (hc : X.calm = true) (hN : X.N.Nodup) (hy : X.N[i]? = some y) (hyl : X.env.scope.names.lookup y = some .local)
    (hsw : swapsWith (.DictComp kx vx [⟨tg, iter, [], 0⟩] scope pos) (some (.Name y py)) spos.line X.env = pure true) (hi : PI X tg iter wi) (ok : BlkOk X.N X.env.scope scope own)
    (hg : ∀ (s : Shared) (H : Hp) (C : Addr) (cl : List (Str × Addr)) (fp : List Addr), PG (X.blk s H scope (compEnvC scope cl C X.env) fp) tg g)
    (hk : ∀ (s : Shared) (H : Hp) (C : Addr) (cl : List (Str × Addr)) (fp : List Addr), PE (X.blk s H scope (compEnvC scope cl C X.env) fp) kx tk)
    (he : ∀ (s : Shared) (H : Hp) (C : Addr) (cl : List (Str × Addr)) (fp : List Addr), PE (X.blk s H scope (compEnvC scope cl C X.env) fp) vx tv) (hs : ∀ x, foldedSetIterable iter X.env x = pure x := by intro _; rfl) (h1 : X.prog = P := by rfl) (h2 : X.w = w := by rfl) (h : X.K = K := by rfl) :
    PS X (.Assign [.Name y py] (.DictComp kx vx [⟨tg, iter, [], 0⟩] scope pos) spos) (tAsg (tDcT P w K wi g tk tv (own.map (·.2))) (gName i)) := by
  subst h h1 h2
  exact ps_setDcT (by omega) hc hN hy hyl hsw hi ok hg hk he hs
theorem m2_by {m : Str} {e f : Expr} (base : attributeBase o m X.env (eval o X.env) = eval o X.env := by rfl)
  (few : ((backTo cpos (starEach [e, f] X.env)).all (fun x => !x.1) && (backToKw cpos (keywordEach [] X.env)).all (fun x => x.1.isSome)
    && decide (([e, f] : List Expr).length + ([] : List Keyword).length + (if ([] : List Keyword).isEmpty then 0 else 1) < 30)) = true := by rfl)
  (line : (apos.endLine == cpos.line) = true := by rfl) (trees : backTo cpos (starEach [e, f] X.env) = [(false, eval e X.env), (false, eval f X.env)] := by rfl) : M2 X o m apos e f cpos := ⟨base, few, line, trees⟩
end
/-! ### the text by places -/
def top (i : Nat) : Stmt := PySem.Challenge.pw_boxedroots_k24_whole_signs_over_boxes.main.body.getD i (.Pass ⟨0, 0, 0, 0⟩)
abbrev s_is_integer : Stmt := top 6
theorem sc_is_integer : FnScope ["thing"] ["thing"] (C8.fnScope s_is_integer) := C8.fnScope_by (by decide +kernel)
abbrev s_is_within : Stmt := top 7
theorem sc_is_within : FnScope ["thing", "least", "most"] ["thing", "least", "most"] (C8.fnScope s_is_within) := C8.fnScope_by (by decide +kernel)
abbrev s_divisor_of : Stmt := top 9
theorem sc_divisor_of : FnScope ["one", "other"] ["one", "other"] (C8.fnScope s_divisor_of) := C8.fnScope_by (by decide +kernel)
abbrev s_is_fraction : Stmt := top 10
theorem sc_is_fraction : FnScope ["thing"] ["thing"] (C8.fnScope s_is_fraction) := C8.fnScope_by (by decide +kernel)
abbrev s_is_below : Stmt := top 11
theorem sc_is_below : FnScope ["one", "other"] ["one", "other"] (C8.fnScope s_is_below) := C8.fnScope_by (by decide +kernel)
abbrev s_sign_of_integer : Stmt := top 12
theorem sc_sign_of_integer : FnScope ["number"] ["number"] (C8.fnScope s_sign_of_integer) := C8.fnScope_by (by decide +kernel)
abbrev s_is_term : Stmt := top 17
theorem sc_is_term : FnScope ["thing", "power"] ["thing"] (C8.fnScope s_is_term) := C8.fnScope_by (by decide +kernel)
abbrev s_Poly_init : Stmt := inClass (top 18) 0
theorem sc_Poly_init : FnScope ["self", "terms", "index", "term"] ["self", "terms"] (C8.fnScope s_Poly_init) := C8.fnScope_by (by decide +kernel)
abbrev s_RawPoly_init : Stmt := inClass (top 19) 0
theorem sc_RawPoly_init : FnScope ["self", "terms"] ["self", "terms"] (C8.fnScope s_RawPoly_init) := C8.fnScope_by (by decide +kernel)
abbrev s_poly_from : Stmt := top 20
theorem sc_poly_from : FnScope ["parts", "powers"] ["parts"] (C8.fnScope s_poly_from) := C8.fnScope_by (by decide +kernel)
abbrev s_constant : Stmt := top 21
theorem sc_constant : FnScope ["number"] ["number"] (C8.fnScope s_constant) := C8.fnScope_by (by decide +kernel)
abbrev s_powers_of : Stmt := top 22
theorem sc_powers_of : FnScope ["k", "many", "other"] ["k", "many"] (C8.fnScope s_powers_of) := C8.fnScope_by (by decide +kernel)
abbrev s_unknown_power : Stmt := top 23
theorem sc_unknown_power : FnScope ["k", "many"] ["k", "many"] (C8.fnScope s_unknown_power) := C8.fnScope_by (by decide +kernel)
abbrev s_sum_with : Stmt := top 24
theorem sc_sum_with : FnScope ["one", "other", "by", "powers", "count", "parts"] ["one", "other", "by"] (C8.fnScope s_sum_with) := C8.fnScope_by (by decide +kernel)
abbrev s_plus : Stmt := top 25
theorem sc_plus : FnScope ["one", "other"] ["one", "other"] (C8.fnScope s_plus) := C8.fnScope_by (by decide +kernel)
abbrev s_times : Stmt := top 26
theorem sc_times : FnScope ["one", "other", "parts", "here", "count", "there", "many", "powers"] ["one", "other"] (C8.fnScope s_times) := C8.fnScope_by (by decide +kernel)
abbrev s_degree_by : Stmt := top 27
theorem sc_degree_by : FnScope ["poly", "k", "powers", "count"] ["poly", "k"] (C8.fnScope s_degree_by) := C8.fnScope_by (by decide +kernel)
abbrev s_without : Stmt := top 28
theorem sc_without : FnScope ["powers", "k"] ["powers", "k"] (C8.fnScope s_without) := C8.fnScope_by (by decide +kernel)
abbrev s_counts_by : Stmt := top 29
theorem sc_counts_by : FnScope ["poly", "k", "found", "powers", "count", "power_here", "parts"] ["poly", "k"] (C8.fnScope s_counts_by) := C8.fnScope_by (by decide +kernel)
abbrev s_is_in : Stmt := top 30
theorem sc_is_in : FnScope ["poly", "many", "powers", "count"] ["poly", "many"] (C8.fnScope s_is_in) := C8.fnScope_by (by decide +kernel)
abbrev s_is_stretch : Stmt := top 33
theorem sc_is_stretch : FnScope ["thing"] ["thing"] (C8.fnScope s_is_stretch) := C8.fnScope_by (by decide +kernel)
abbrev s_is_box : Stmt := top 34
theorem sc_is_box : FnScope ["thing", "one"] ["thing"] (C8.fnScope s_is_box) := C8.fnScope_by (by decide +kernel)
abbrev s_check_box : Stmt := top 35
theorem sc_check_box : FnScope ["poly", "box"] ["poly", "box"] (C8.fnScope s_check_box) := C8.fnScope_by (by decide +kernel)
abbrev s_product_to : Stmt := top 36
theorem sc_product_to : FnScope ["many", "found", "by"] ["many"] (C8.fnScope s_product_to) := C8.fnScope_by (by decide +kernel)
abbrev s_moved : Stmt := top 37
theorem sc_moved : FnScope ["poly", "k", "stretch", "low", "by", "high", "other", "common", "begin", "line", "bottom", "found", "factor", "counts", "count"] ["poly", "k", "stretch"] (C8.fnScope s_moved) := C8.fnScope_by (by decide +kernel)
abbrev s_told_by_counts : Stmt := top 38
theorem sc_told_by_counts : FnScope ["poly", "k", "many", "counts", "found", "i", "here", "j"] ["poly", "k"] (C8.fnScope s_told_by_counts) := C8.fnScope_by (by decide +kernel)
abbrev s_whole_counts : Stmt := top 39
theorem sc_whole_counts : FnScope ["poly", "box", "factor", "k", "stretch", "by"] ["poly", "box"] (C8.fnScope s_whole_counts) := C8.fnScope_by (by decide +kernel)
abbrev s_sign_there : Stmt := top 40
theorem sc_sign_there : FnScope ["poly", "box", "many", "k", "told", "factor", "signs", "powers", "count"] ["poly", "box"] (C8.fnScope s_sign_there) := C8.fnScope_by (by decide +kernel)
abbrev s_sign_over : Stmt := top 41
theorem sc_sign_over : FnScope ["poly", "box"] ["poly", "box"] (C8.fnScope s_sign_over) := C8.fnScope_by (by decide +kernel)
abbrev s__law_hand : Stmt := top 43
theorem sc__law_hand : FnScope ["_law_script", "_law_cells", "_law_cell"] ["_law_script"] (C8.fnScope s__law_hand) := C8.fnScope_by (by decide +kernel)
abbrev s__law_draw : Stmt := top 44
theorem sc__law_draw : FnScope ["_law_hand_here", "_law_many", "_law_cell", "_law_digit", "_law_number"] ["_law_hand_here", "_law_many"] (C8.fnScope s__law_draw) := C8.fnScope_by (by decide +kernel)
abbrev s__law_any : Stmt := top 45
theorem sc__law_any : FnScope ["_law_hand_here", "_law_things"] ["_law_hand_here", "_law_things"] (C8.fnScope s__law_any) := C8.fnScope_by (by decide +kernel)
abbrev s__law_low : Stmt := top 46
theorem sc__law_low : FnScope ["_law_top", "_law_bottom", "_law_one", "_law_other"] ["_law_top", "_law_bottom"] (C8.fnScope s__law_low) := C8.fnScope_by (by decide +kernel)
abbrev s__law_power : Stmt := top 47
theorem sc__law_power : FnScope ["_law_number", "_law_many", "_law_found", "_law_turn"] ["_law_number", "_law_many"] (C8.fnScope s__law_power) := C8.fnScope_by (by decide +kernel)
abbrev s__law_binomial : Stmt := top 48
theorem sc__law_binomial : FnScope ["_law_many", "_law_some", "_law_found", "_law_k"] ["_law_many", "_law_some"] (C8.fnScope s__law_binomial) := C8.fnScope_by (by decide +kernel)
abbrev s__law_poly : Stmt := top 49
theorem sc__law_poly : FnScope ["_law_parts_here", "_law_powers"] ["_law_parts_here"] (C8.fnScope s__law_poly) := C8.fnScope_by (by decide +kernel)
abbrev s__law_parts : Stmt := top 50
theorem sc__law_parts : FnScope ["_law_hand_here", "_law_many", "_law_most", "_law_terms", "_law_great", "_law_found", "_law_k", "_law_powers", "_law_count", "_law_u"] ["_law_hand_here", "_law_many", "_law_most", "_law_terms"] (C8.fnScope s__law_parts) := C8.fnScope_by (by decide +kernel)
abbrev s__law_degrees : Stmt := top 51
theorem sc__law_degrees : FnScope ["_law_parts_here", "_law_many", "_law_k", "_law_powers"] ["_law_parts_here", "_law_many"] (C8.fnScope s__law_degrees) := C8.fnScope_by (by decide +kernel)
abbrev s__law_stretch : Stmt := top 52
theorem sc__law_stretch : FnScope ["_law_hand_here", "_law_bottom", "_law_low_here", "_law_wide"] ["_law_hand_here"] (C8.fnScope s__law_stretch) := C8.fnScope_by (by decide +kernel)
abbrev s__law_box : Stmt := top 53
theorem sc__law_box : FnScope ["_law_hand_here", "_law_many", "_law_k"] ["_law_hand_here", "_law_many"] (C8.fnScope s__law_box) := C8.fnScope_by (by decide +kernel)
abbrev s__law_polar : Stmt := top 54
theorem sc__law_polar : FnScope ["_law_stretch_here", "_law_many", "_law_i", "_law_j", "_law_a", "_law_b", "_law_c", "_law_d", "_law_low_here", "_law_high", "_law_found", "_law_t", "_law_ways"] ["_law_stretch_here", "_law_many", "_law_i", "_law_j"] (C8.fnScope s__law_polar) := C8.fnScope_by (by decide +kernel)
abbrev s__law_indexes : Stmt := top 55
theorem sc__law_indexes : FnScope ["_law_degrees_here", "_law_found", "_law_most", "_law_longer", "_law_index", "_law_k"] ["_law_degrees_here"] (C8.fnScope s__law_indexes) := C8.fnScope_by (by decide +kernel)
abbrev s__law_counts : Stmt := top 56
theorem sc__law_counts : FnScope ["_law_parts_here", "_law_box_here", "_law_degrees_here", "_law_found", "_law_index", "_law_top", "_law_bottom", "_law_powers", "_law_here", "_law_under", "_law_k", "_law_part", "_law_by"] ["_law_parts_here", "_law_box_here"] (C8.fnScope s__law_counts) := C8.fnScope_by (by decide +kernel)
abbrev s__law_sign : Stmt := top 57
theorem sc__law_sign : FnScope ["_law_parts_here", "_law_box_here", "_law_tops", "_law_count"] ["_law_parts_here", "_law_box_here"] (C8.fnScope s__law_sign) := C8.fnScope_by (by decide +kernel)
abbrev s__law_worth : Stmt := top 58
theorem sc__law_worth : FnScope ["_law_parts_here", "_law_point", "_law_top", "_law_bottom", "_law_powers", "_law_here", "_law_under", "_law_k", "_law_place_here"] ["_law_parts_here", "_law_point"] (C8.fnScope s__law_worth) := C8.fnScope_by (by decide +kernel)
abbrev s__law_place : Stmt := top 59
theorem sc__law_place : FnScope ["_law_hand_here", "_law_stretch_here", "_law_a", "_law_b", "_law_c", "_law_d", "_law_under", "_law_s"] ["_law_hand_here", "_law_stretch_here"] (C8.fnScope s__law_place) := C8.fnScope_by (by decide +kernel)
abbrev s__law_about : Stmt := top 60
theorem sc__law_about : FnScope ["_law_place_here", "_law_wide", "_law_by"] ["_law_place_here", "_law_wide", "_law_by"] (C8.fnScope s__law_about) := C8.fnScope_by (by decide +kernel)
abbrev s__law_is_told : Stmt := top 61
theorem sc__law_is_told : FnScope ["_law_poly_here", "_law_parts_here", "_law_box_here", "_law_due", "_law_told"] ["_law_poly_here", "_law_parts_here", "_law_box_here"] (C8.fnScope s__law_is_told) := C8.fnScope_by (by decide +kernel)
abbrev s_law : Stmt := top 62
theorem sc_law : FnScope ["_law_script", "_law_hand_here", "_law_turn", "_law_many", "_law_parts_here", "_law_more", "_law_poly_here", "_law_box_here", "_law_sign_here", "_law_points", "_law_worth_here", "_law_by", "_law_found", "_law_again", "_law_near", "_law_k", "_law_stretch_here", "_law_point", "_law_place_here", "_law_powers"] ["_law_script"] (C8.fnScope s_law) := C8.fnScope_by (by decide +kernel)
/-- what the top has written, as the defs ask for it -/
structure Txt (K : PySem.W.Frag) (mg : Str → Option Value) (CP CR aN : Addr) : Prop where
  isinstance : mg "isinstance" = none
  int : mg "int" = none
  bool : mg "bool" = none
  abs : mg "abs" = none
  tuple : mg "tuple" = none
  len : mg "len" = none
  all : mg "all" = none
  enumerate : mg "enumerate" = none
  sorted : mg "sorted" = none
  range : mg "range" = none
  max : mg "max" = none
  min : mg "min" = none
  set : mg "set" = none
  list : mg "list" = none
  str : mg "str" = none
  sum : mg "sum" = none
  UNKNOWNS : ∃ u, mg "UNKNOWNS" = some u ∧ RelV (.int 4) u
  MOST_POWER : ∃ u, mg "MOST_POWER" = some u ∧ RelV (.int 60) u
  MOST_TERMS : ∃ u, mg "MOST_TERMS" = some u ∧ RelV (.int 300) u
  MOST_STRETCHES : ∃ u, mg "MOST_STRETCHES" = some u ∧ RelV (.int 3) u
  NO_POWERS : ∃ u, mg "NO_POWERS" = some u ∧ RelV (.ref aN) u
  powers : ∀ H, SqT K H aN [.int 0, .int 0, .int 0, .int 0]
  clP : Cls K CP
  clR : Cls K CR
  nP : NoAttr K CP "terms"
  nR : NoAttr K CR "terms"
end Bx

/-! Bx M1: lists of terms as functionals, plain Lean. -/
namespace Bx
abbrev Tm := List Int × Int
def lin (ts : List Tm) (w : List Int → Int) : Int := (ts.map fun t => t.2 * w t.1).sum
def nrm (ts : List Tm) : Nat := (ts.map fun t => t.2.natAbs).sum
def ind (q : List Int) : List Int → Int := fun p => if p = q then 1 else 0
theorem lin_nil (w) : lin [] w = 0 := rfl
theorem lin_cons (t : Tm) (r w) : lin (t :: r) w = t.2 * w t.1 + lin r w := by simp [lin]
theorem lin_append (a b : List Tm) (w) : lin (a ++ b) w = lin a w + lin b w := by simp [lin]
theorem lin_congr {ts : List Tm} {w w' : List Int → Int} (h : ∀ t ∈ ts, w t.1 = w' t.1) : lin ts w = lin ts w' := by
  unfold lin
  congr 1
  exact List.map_congr_left fun t ht => by rw [h t ht]
theorem lin_perm {a b : List Tm} (h : a.Perm b) (w) : lin a w = lin b w := by
  induction h with
  | nil => rfl
  | cons x _ ih => rw [lin_cons, lin_cons, ih]
  | swap x y l =>
    rw [lin_cons, lin_cons, lin_cons, lin_cons]
    omega
  | trans _ _ i1 i2 => rw [i1, i2]
theorem lin_add (ts : List Tm) (u v : List Int → Int) : lin ts (fun q => u q + v q) = lin ts u + lin ts v := by
  induction ts with
  | nil => rfl
  | cons t r ih =>
    rw [lin_cons, lin_cons, lin_cons, ih]
    grind
theorem lin_smul (ts : List Tm) (c : Int) (u : List Int → Int) : lin ts (fun q => c * u q) = c * lin ts u := by
  induction ts with
  | nil => simp [lin]
  | cons t r ih =>
    rw [lin_cons, lin_cons, ih]
    grind
theorem lin_zero {ts : List Tm} {w : List Int → Int} (h : ∀ t ∈ ts, w t.1 = 0) : lin ts w = 0 := by
  rw [lin_congr (w' := fun q => 0 * 0) (fun t ht => by rw [h t ht] <;> rfl), lin_smul]
  omega
theorem lin_ne {ts : List Tm} {w : List Int → Int} (h : lin ts w ≠ 0) : ∃ t ∈ ts, w t.1 ≠ 0 := by
  apply Classical.byContradiction
  intro hn
  apply h
  apply lin_zero
  intro t ht
  apply Classical.byContradiction
  intro h2
  exact hn ⟨t, ht, h2⟩
theorem lin_filter (ts : List Tm) (w) : lin (ts.filter fun t => decide (t.2 ≠ 0)) w = lin ts w := by
  induction ts with
  | nil => rfl
  | cons t r ih =>
    rw [List.filter_cons]
    by_cases h : t.2 = 0
    · rw [if_neg (by simp [h]), ih, lin_cons, h]
      omega
    · rw [if_pos (by simp [h]), lin_cons, lin_cons, ih]
theorem nrm_cons (t : Tm) (r) : nrm (t :: r) = t.2.natAbs + nrm r := by simp [nrm]
theorem nrm_append (a b : List Tm) : nrm (a ++ b) = nrm a + nrm b := by simp [nrm]
theorem nrm_perm {a b : List Tm} (h : a.Perm b) : nrm a = nrm b := by
  induction h with
  | nil => rfl
  | cons x _ ih => rw [nrm_cons, nrm_cons, ih]
  | swap x y l =>
    rw [nrm_cons, nrm_cons, nrm_cons, nrm_cons]
    omega
  | trans _ _ i1 i2 => rw [i1, i2]
theorem nrm_filter (ts : List Tm) : nrm (ts.filter fun t => decide (t.2 ≠ 0)) = nrm ts := by
  induction ts with
  | nil => rfl
  | cons t r ih =>
    rw [List.filter_cons]
    by_cases h : t.2 = 0
    · rw [if_neg (by simp [h]), ih, nrm_cons, h]
      simp
    · rw [if_pos (by simp [h]), nrm_cons, nrm_cons, ih]
theorem mem_nrm {ts : List Tm} {t : Tm} (h : t ∈ ts) : t.2.natAbs ≤ nrm ts := by
  induction ts with
  | nil => exact nomatch h
  | cons u r ih =>
    rw [nrm_cons]
    rcases List.mem_cons.mp h with e | h
    · rw [e]
      omega
    · have := ih h
      omega

/-! ### finite sums -/
def sumN : Nat → (Nat → Int) → Int
  | 0, _ => 0
  | n + 1, f => sumN n f + f n
theorem sumN_congr {n : Nat} {f g : Nat → Int} (h : ∀ i, i < n → f i = g i) : sumN n f = sumN n g := by
  induction n with
  | zero => rfl
  | succ n ih =>
    show sumN n f + f n = sumN n g + g n
    rw [ih fun i hi => h i (by omega), h n (by omega)]
theorem sumN_mul (c : Int) (n : Nat) (f : Nat → Int) : sumN n (fun i => c * f i) = c * sumN n f := by
  induction n with
  | zero => simp [sumN]
  | succ n ih =>
    show sumN n _ + c * f n = c * (sumN n f + f n)
    rw [ih]
    grind
theorem sumN_add (n : Nat) (f g : Nat → Int) : sumN n (fun i => f i + g i) = sumN n f + sumN n g := by
  induction n with
  | zero => rfl
  | succ n ih =>
    show sumN n _ + (f n + g n) = sumN n f + f n + (sumN n g + g n)
    rw [ih]
    omega
theorem sumN_zero {n : Nat} {f : Nat → Int} (h : ∀ i, i < n → f i = 0) : sumN n f = 0 := by
  induction n with
  | zero => rfl
  | succ n ih =>
    show sumN n f + f n = 0
    rw [ih fun i hi => h i (by omega), h n (by omega)] <;> rfl
theorem sumN_swap (n m : Nat) (f : Nat → Nat → Int) : sumN n (fun i => sumN m fun j => f i j) = sumN m (fun j => sumN n fun i => f i j) := by
  induction n with
  | zero => exact (sumN_zero fun _ _ => rfl).symm
  | succ n ih =>
    show sumN n (fun i => sumN m fun j => f i j) + sumN m (fun j => f n j) = sumN m (fun j => sumN n (fun i => f i j) + f n j)
    rw [ih, sumN_add]
theorem sumN_one {n k : Nat} {f : Nat → Int} (hk : k < n) (h : ∀ i, i < n → i ≠ k → f i = 0) : sumN n f = f k := by
  induction n with
  | zero => omega
  | succ n ih =>
    show sumN n f + f n = f k
    by_cases e : k = n
    · subst e
      rw [sumN_zero fun i hi => h i (by omega) (by omega)]
      omega
    · rw [ih (by omega) fun i hi hne => h i (by omega) hne, h n (by omega) (fun z => e z.symm)]
      omega
theorem lin_sumN (ts : List Tm) (n : Nat) (f : Nat → List Int → Int) : lin ts (fun q => sumN n fun i => f i q) = sumN n fun i => lin ts (f i) := by
  induction n with
  | zero => exact lin_zero fun _ _ => rfl
  | succ n ih =>
    show lin ts (fun q => sumN n (fun i => f i q) + f n q) = sumN n (fun i => lin ts (f i)) + lin ts (f n)
    rw [lin_add, ih]

/-! ### one more count at a key -/
def addT : List Tm → List Int → Int → List Tm
  | [], k, d => [(k, d)]
  | (q, c) :: r, k, d => if q = k then (q, c + d) :: r else (q, c) :: addT r k d
def getT (ts : List Tm) (k : List Int) : Option Int := (ts.find? fun t => decide (t.1 = k)).map (·.2)
theorem lin_addT (ts : List Tm) (k d) (w) : lin (addT ts k d) w = lin ts w + d * w k := by
  induction ts with
  | nil => simp [addT, lin]
  | cons t r ih =>
    obtain ⟨q, c⟩ := t
    unfold addT
    by_cases h : q = k
    · rw [if_pos h, lin_cons, lin_cons]
      subst h
      grind
    · rw [if_neg h, lin_cons, lin_cons, ih]
      grind
theorem nrm_addT (ts : List Tm) (k d) : nrm (addT ts k d) ≤ nrm ts + d.natAbs := by
  induction ts with
  | nil => simp [addT, nrm]
  | cons t r ih =>
    obtain ⟨q, c⟩ := t
    unfold addT
    by_cases h : q = k
    · rw [if_pos h, nrm_cons, nrm_cons]
      omega
    · rw [if_neg h, nrm_cons, nrm_cons]
      omega
theorem keys_addT {ts : List Tm} {k d} {q : List Int} (h : q ∈ (addT ts k d).map (·.1)) : q = k ∨ q ∈ ts.map (·.1) := by
  induction ts with
  | nil =>
    left
    simpa [addT] using h
  | cons t r ih =>
    obtain ⟨q', c⟩ := t
    unfold addT at h
    by_cases e : q' = k
    · rw [if_pos e] at h
      right
      exact h
    · rw [if_neg e] at h
      rcases List.mem_cons.mp h with h | h
      · right
        rw [h]
        exact List.mem_cons_self
      · exact (ih h).imp id fun z => List.mem_cons_of_mem _ z
theorem nodup_addT {ts : List Tm} {k d} (h : (ts.map (·.1)).Nodup) : ((addT ts k d).map (·.1)).Nodup := by
  induction ts with
  | nil => simp [addT]
  | cons t r ih =>
    obtain ⟨q', c⟩ := t
    rw [List.map_cons, List.nodup_cons] at h
    unfold addT
    by_cases e : q' = k
    · rw [if_pos e, List.map_cons, List.nodup_cons]
      exact h
    · rw [if_neg e, List.map_cons, List.nodup_cons]
      refine ⟨fun hm => ?_, ih h.2⟩
      rcases keys_addT hm with z | z
      · exact e z
      · exact h.1 z
theorem length_addT (ts : List Tm) (k d) : (addT ts k d).length ≤ ts.length + 1 := by
  induction ts with
  | nil => simp [addT]
  | cons t r ih =>
    obtain ⟨q', c⟩ := t
    unfold addT
    by_cases e : q' = k
    · rw [if_pos e]
      simp
    · rw [if_neg e]
      simp
      omega
theorem getT_cons (t : Tm) (r k) : getT (t :: r) k = if t.1 = k then some t.2 else getT r k := by
  unfold getT
  rw [List.find?_cons]
  by_cases h : t.1 = k
  · simp [h]
  · simp [h]
theorem getT_not {ts : List Tm} {k} (h : k ∉ ts.map (·.1)) : getT ts k = none := by
  induction ts with
  | nil => rfl
  | cons t r ih =>
    rw [getT_cons, if_neg fun z => h (by rw [← z]; exact List.mem_cons_self)]
    exact ih fun z => h (List.mem_cons_of_mem _ z)
theorem getT_mem {ts : List Tm} (nd : (ts.map (·.1)).Nodup) {t : Tm} (h : t ∈ ts) : getT ts t.1 = some t.2 := by
  induction ts with
  | nil => exact nomatch h
  | cons u r ih =>
    rw [List.map_cons, List.nodup_cons] at nd
    rw [getT_cons]
    rcases List.mem_cons.mp h with e | h
    · rw [e, if_pos rfl]
    · rw [if_neg fun z => nd.1 (by rw [z]; exact List.mem_map.mpr ⟨t, h, rfl⟩)]
      exact ih nd.2 h
theorem getT_some {ts : List Tm} {k c} (h : getT ts k = some c) : (k, c) ∈ ts := by
  induction ts with
  | nil => exact nomatch h
  | cons u r ih =>
    rw [getT_cons] at h
    by_cases e : u.1 = k
    · rw [if_pos e] at h
      have e2 := Option.some.inj h
      subst e e2
      exact List.mem_cons_self
    · rw [if_neg e] at h
      exact List.mem_cons_of_mem _ (ih h)
theorem lin_ind {ts : List Tm} (nd : (ts.map (·.1)).Nodup) (q) : lin ts (ind q) = (getT ts q).getD 0 := by
  induction ts with
  | nil => rfl
  | cons t r ih =>
    rw [List.map_cons, List.nodup_cons] at nd
    rw [lin_cons, getT_cons, ih nd.2]
    unfold ind
    by_cases e : t.1 = q
    · rw [if_pos e, if_pos e, getT_not (e ▸ nd.1)]
      simp
    · rw [if_neg e, if_neg e]
      simp
theorem lin_ind_mem {ts : List Tm} (nd : (ts.map (·.1)).Nodup) {t : Tm} (h : t ∈ ts) : lin ts (ind t.1) = t.2 := by
  rw [lin_ind nd, getT_mem nd h] <;> rfl

/-! ### boxes of powers -/
def idxs : List Nat → List (List Int)
  | [] => [[]]
  | D :: r => (List.range (D + 1)).flatMap fun (i : Nat) => (idxs r).map fun q => (i : Int) :: q
def inBox : List Nat → List Int → Prop
  | [], [] => True
  | D :: r, x :: q => 0 ≤ x ∧ x ≤ (D : Int) ∧ inBox r q
  | _, _ => False
theorem mem_idxs : ∀ {Ds : List Nat} {q : List Int}, q ∈ idxs Ds ↔ inBox Ds q
  | [], q => by
    cases q with
    | nil => simp [idxs, inBox]
    | cons => simp [idxs, inBox]
  | D :: r, q => by
    unfold idxs
    rw [List.mem_flatMap]
    constructor
    · rintro ⟨i, hi, hq⟩
      obtain ⟨p, hp, rfl⟩ := List.mem_map.mp hq
      have := List.mem_range.mp hi
      exact ⟨by omega, by omega, mem_idxs.mp hp⟩
    · intro h
      cases q with
      | nil => exact False.elim h
      | cons x p =>
        obtain ⟨h1, h2, h3⟩ := h
        refine ⟨x.toNat, List.mem_range.mpr (by omega), List.mem_map.mpr ⟨p, mem_idxs.mpr h3, ?_⟩⟩
        rw [Int.toNat_of_nonneg h1]
def many : List Nat → Nat
  | [] => 1
  | D :: r => (D + 1) * many r
theorem length_idxs : ∀ Ds : List Nat, (idxs Ds).length = many Ds
  | [] => rfl
  | D :: r => by
    unfold idxs many
    rw [List.length_flatMap]
    have e : ((List.range (D + 1)).map fun (i : Nat) => ((idxs r).map fun q => (i : Int) :: q).length) = (List.range (D + 1)).map fun _ => many r := List.map_congr_left fun i _ => by rw [List.length_map, length_idxs r]
    rw [e, List.map_const', List.sum_replicate_nat, List.length_range]
theorem nodup_idxs : ∀ Ds : List Nat, (idxs Ds).Nodup
  | [] => by simp [idxs]
  | D :: r => by
    unfold idxs
    have hr := nodup_idxs r
    rw [List.nodup_iff_pairwise_ne, List.pairwise_flatMap]
    refine ⟨fun i _ => ?_, ?_⟩
    · rw [List.pairwise_map]
      exact (List.nodup_iff_pairwise_ne.mp hr).imp fun h e => h (List.cons.inj e).2
    · refine (List.nodup_iff_pairwise_ne.mp List.nodup_range).imp fun {i j} h x hx y hy e => ?_
      obtain ⟨p, _, rfl⟩ := List.mem_map.mp hx
      obtain ⟨p', _, rfl⟩ := List.mem_map.mp hy
      have e1 := (List.cons.inj e).1
      omega
structure PW (Ds : List Nat) (ts : List Tm) : Prop where
  nd : (ts.map (·.1)).Nodup
  nz : ∀ t ∈ ts, t.2 ≠ 0
  bx : ∀ t ∈ ts, inBox Ds t.1
theorem PW.len {Ds : List Nat} {ts : List Tm} (p : PW Ds ts) : ts.length ≤ many Ds := by
  rw [← length_idxs, ← List.length_map (f := (·.1))]
  refine p.nd.length_le_of_subset fun q hq => ?_
  obtain ⟨t, ht, rfl⟩ := List.mem_map.mp hq
  exact mem_idxs.mpr (p.bx t ht)
/-- the box from the functional -/
theorem PW.of {Ds : List Nat} {ts : List Tm} (nd : (ts.map (·.1)).Nodup) (nz : ∀ t ∈ ts, t.2 ≠ 0) (h : ∀ q, ¬ inBox Ds q → lin ts (ind q) = 0) : PW Ds ts := by
  refine ⟨nd, nz, fun t ht => ?_⟩
  apply Classical.byContradiction
  intro hb
  have := h t.1 hb
  rw [lin_ind_mem nd ht] at this
  exact nz t ht this
end Bx

/-! Bx M2: the matrices of the change to told counts, plain Lean. -/
namespace Bx
def AA (b s : Int) : Nat → (Nat → Int) → Int
  | 0, f => f 0
  | j + 1, f => AA b s j fun e => b * f e + s * f (e + 1)
def fac : Nat → Int
  | 0 => 1
  | n + 1 => fac n * ((n : Int) + 1)
def TT (D i e : Nat) : Int := if e ≤ i then fac i / fac (i - e) * fac (D - e) else 0
def SS (D i j : Nat) (L H : Int) : Int := AA L (H - L) j (TT D i)
def MM (D : Nat) (L H B : Int) (i j : Nat) : Int := B ^ (D - j) * SS D i j L H
def bl (n : Nat) : Nat → Int
  | 0 => 1
  | k + 1 => bl n k * ((n : Int) - (k : Int)) / ((k : Int) + 1)
def ch (n k : Nat) : Int := if k ≤ n then bl n k else 0
def part (D i j : Nat) (L H : Int) : Int := sumN (j + 1) fun t => ch i t * ch (D - i) (j - t) * H ^ t * L ^ (j - t)
theorem AA_congr {b s : Int} : ∀ {j : Nat} {f g : Nat → Int}, (∀ e, e ≤ j → f e = g e) → AA b s j f = AA b s j g
  | 0, f, g, h => h 0 (Nat.le_refl _)
  | j + 1, f, g, h => by
    show AA b s j (fun e => b * f e + s * f (e + 1)) = AA b s j fun e => b * g e + s * g (e + 1)
    exact AA_congr fun e he => by rw [h e (by omega), h (e + 1) (by omega)]
theorem AA_add {b s : Int} : ∀ {j : Nat} {f g : Nat → Int}, AA b s j (fun e => f e + g e) = AA b s j f + AA b s j g
  | 0, f, g => rfl
  | j + 1, f, g => by
    show AA b s j _ = AA b s j _ + AA b s j _
    rw [← AA_add]
    exact AA_congr fun e _ => by grind
theorem AA_smul {b s c : Int} : ∀ {j : Nat} {f : Nat → Int}, AA b s j (fun e => c * f e) = c * AA b s j f
  | 0, f => rfl
  | j + 1, f => by
    show AA b s j _ = c * AA b s j _
    rw [← AA_smul]
    exact AA_congr fun e _ => by grind
theorem AA_sumN {b s : Int} {j : Nat} : ∀ {n : Nat} {f : Nat → Nat → Int}, AA b s j (fun e => sumN n fun i => f i e) = sumN n fun i => AA b s j (f i)
  | 0, f => by
    show AA b s j (fun e => 0) = 0
    have h := AA_smul (b := b) (s := s) (c := 0) (j := j) (f := fun _ => 0)
    simpa using h
  | n + 1, f => by
    show AA b s j (fun e => sumN n (fun i => f i e) + f n e) = sumN n (fun i => AA b s j (f i)) + AA b s j (f n)
    rw [AA_add, AA_sumN]
theorem AA_hom {b s g : Int} : ∀ {j : Nat} {f : Nat → Int}, AA (g * b) (g * s) j f = g ^ j * AA b s j f
  | 0, f => by simp [AA]
  | j + 1, f => by
    show AA (g * b) (g * s) j _ = g ^ (j + 1) * AA b s j _
    rw [AA_hom, ← AA_smul, ← AA_smul]
    exact AA_congr fun e _ => by grind
theorem SS_hom {D i j : Nat} {L H g : Int} : SS D i j (g * L) (g * H) = g ^ j * SS D i j L H := by
  unfold SS
  rw [← Int.mul_sub, AA_hom]
theorem MM_hom {D i j : Nat} {L H B g : Int} (hj : j ≤ D) : MM D (g * L) (g * H) (g * B) i j = g ^ D * MM D L H B i j := by
  unfold MM
  rw [SS_hom, Int.mul_pow]
  have e : g ^ D = g ^ (D - j) * g ^ j := by rw [← Int.pow_add]; congr 1; omega
  rw [e]
  grind
theorem le3 {D : Nat} (h : D ≤ 3) : D = 0 ∨ D = 1 ∨ D = 2 ∨ D = 3 := by omega
/-- the law's parts and the told counts -/
theorem part_SS {D i j : Nat} (hD : D ≤ 3) (hi : i ≤ D) (hj : j ≤ D) (L H : Int) : part D i j L H * fac D = SS D i j L H * ch D j := by
  rcases le3 hD with rfl | rfl | rfl | rfl <;> rcases le3 (show i ≤ 3 by omega) with rfl | rfl | rfl | rfl <;> rcases le3 (show j ≤ 3 by omega) with rfl | rfl | rfl | rfl <;>
    first
    | (exfalso; omega)
    | (simp [part, SS, AA, TT, ch, bl, fac, sumN]; try grind)
/-- the told counts at a place -/
theorem SS_at {D j : Nat} (hD : D ≤ 3) (hj : j ≤ D) (L H x y : Int) : sumN (D + 1) (fun i => SS D i j L H * (ch D i * x ^ (D - i) * y ^ i)) = fac D * ((L * x + H * y) ^ j * (x + y) ^ (D - j)) := by
  rcases le3 hD with rfl | rfl | rfl | rfl <;> rcases le3 (show j ≤ 3 by omega) with rfl | rfl | rfl | rfl <;>
    first
    | (exfalso; omega)
    | (simp [SS, AA, TT, ch, bl, fac, sumN]; try grind)
end Bx

/-! Bx M3: what a change in one unknown does, plain Lean. -/
namespace Bx
def gk (q : List Int) (k : Nat) : Nat := (q.getD k 0).toNat
def op (k D : Nat) (a : Nat → Nat → Int) (w : List Int → Int) : List Int → Int := fun q => sumN (D + 1) fun i => a i (gk q k) * w (q.set k (i : Int))
def movA (D : Nat) (b s B : Int) (i j : Nat) : Int := B ^ (D - j) * AA b s j fun e => if e = i then 1 else 0
theorem AA_expand {b s : Int} {D j : Nat} (hj : j ≤ D) (f : Nat → Int) : AA b s j f = sumN (D + 1) fun i => AA b s j (fun e => if e = i then 1 else 0) * f i := by
  have h : AA b s j f = AA b s j fun e => sumN (D + 1) fun i => f i * (if e = i then 1 else 0) := AA_congr fun e he => by
    rw [sumN_one (k := e) (by omega) (fun i _ hi => by rw [if_neg (fun z => hi z.symm)]; simp), if_pos rfl]
    simp
  rw [h, AA_sumN]
  exact sumN_congr fun i _ => by rw [AA_smul, Int.mul_comm]
theorem AA_top {b s : Int} : ∀ {j : Nat} {f : Nat → Int}, (∀ e, e < j → f e = 0) → AA b s j f = s ^ j * f j
  | 0, f, _ => by simp [AA]
  | j + 1, f, h => by
    show AA b s j (fun e => b * f e + s * f (e + 1)) = _
    rw [AA_top (fun e he => by rw [h e (by omega), h (e + 1) (by omega)]; simp), h j (by omega)]
    grind
theorem movA_top {D : Nat} {b s B : Int} {j : Nat} (hj : j ≤ D) : movA D b s B D j = if j = D then s ^ D else 0 := by
  unfold movA
  by_cases e : j = D
  · subst e
    rw [AA_top (fun e he => if_neg (by omega)), if_pos rfl, if_pos rfl, Nat.sub_self]
    simp
  · rw [AA_top (fun e he => if_neg (by omega)), if_neg e, if_neg e]
    simp
/-- the length and box of a power list with one place set -/
theorem inBox_len : ∀ {Ds : List Nat} {q : List Int}, inBox Ds q → q.length = Ds.length
  | [], [], _ => rfl
  | _ :: r, x :: q, h => by
    rw [List.length_cons, List.length_cons, inBox_len h.2.2]
  | [], _ :: _, h => False.elim h
  | _ :: _, [], h => False.elim h
theorem inBox_gk : ∀ {Ds : List Nat} {q : List Int} {k : Nat}, inBox Ds q → k < Ds.length → gk q k ≤ Ds.getD k 0 ∧ ((gk q k : Nat) : Int) = q.getD k 0
  | D :: r, x :: q, 0, h, _ => by
    obtain ⟨h1, h2, _⟩ := h
    show x.toNat ≤ D ∧ ((x.toNat : Nat) : Int) = x
    omega
  | D :: r, x :: q, k + 1, h, hk => by
    have := inBox_gk (k := k) h.2.2 (by simpa using hk)
    simpa [gk] using this
  | [], _, _, _, hk => by simp at hk
  | _ :: _, [], _, h, _ => False.elim h
theorem inBox_set : ∀ {Ds : List Nat} {q : List Int} {k : Nat} {i : Nat}, inBox Ds q → k < Ds.length → i ≤ Ds.getD k 0 → inBox Ds (q.set k (i : Int))
  | D :: r, x :: q, 0, i, h, _, hi => by
    have hi : i ≤ D := hi
    exact ⟨by omega, by omega, h.2.2⟩
  | D :: r, x :: q, k + 1, i, h, hk, hi => ⟨h.1, h.2.1, inBox_set (k := k) h.2.2 (by simpa using hk) (by simpa using hi)⟩
  | [], _, _, _, _, hk, _ => by simp at hk
  | _ :: _, [], _, _, h, _, _ => False.elim h
theorem gk_set {q : List Int} {k : Nat} {i : Nat} (h : k < q.length) : gk (q.set k (i : Int)) k = i := by
  unfold gk
  rw [List.getD_eq_getElem?_getD, List.getElem?_set_self h]
  simp
theorem gk_set_ne {q : List Int} {k k' : Nat} {i : Nat} (h : k' ≠ k) : gk (q.set k (i : Int)) k' = gk q k' := by
  unfold gk
  rw [List.getD_eq_getElem?_getD, List.getD_eq_getElem?_getD, List.getElem?_set_ne (Ne.symm h)]
theorem set_gk {Ds : List Nat} {q : List Int} {k : Nat} (h : inBox Ds q) (hk : k < Ds.length) : q.set k ((gk q k : Nat) : Int) = q := by
  rw [(inBox_gk h hk).2]
  have hq : k < q.length := by rw [inBox_len h]; exact hk
  apply List.ext_getElem?
  intro n
  by_cases e : k = n
  · subst e
    rw [List.getElem?_set_self hq, List.getD_eq_getElem?_getD, List.getElem?_eq_getElem hq] <;> rfl
  · rw [List.getElem?_set_ne e]
/-- the terms stay in their box -/
theorem PW.byOp {Ds : List Nat} {ts ts' : List Tm} {k : Nat} {a : Nat → Nat → Int} (p : PW Ds ts) (hk : k < Ds.length) (nd : (ts'.map (·.1)).Nodup) (nz : ∀ t ∈ ts', t.2 ≠ 0) (h : ∀ w, lin ts' w = lin ts (op k (Ds.getD k 0) a w)) : PW Ds ts' := by
  refine PW.of nd nz fun q hq => ?_
  rw [h]
  refine lin_zero fun t ht => sumN_zero fun i hi => ?_
  have : ind q (t.1.set k (i : Int)) = 0 := if_neg fun (e : t.1.set k (i : Int) = q) => hq (by rw [← e]; exact inBox_set (p.bx t ht) hk (by omega))
  rw [this]
  simp
def Top (ts : List Tm) (k D : Nat) : Prop := D = 0 ∨ ∃ w : List Int → Int, lin ts (fun q => if gk q k = D then w q else 0) ≠ 0
theorem Top.has {ts : List Tm} {k D : Nat} (h : Top ts k D) : D = 0 ∨ ∃ t ∈ ts, gk t.1 k = D := by
  rcases h with h | ⟨w, h⟩
  · exact .inl h
  · obtain ⟨t, ht, hw⟩ := lin_ne h
    refine .inr ⟨t, ht, ?_⟩
    apply Classical.byContradiction
    intro hn
    exact hw (if_neg hn)
theorem Top.of {ts : List Tm} {k D : Nat} (nd : (ts.map (·.1)).Nodup) (nz : ∀ t ∈ ts, t.2 ≠ 0) (h : D = 0 ∨ ∃ t ∈ ts, gk t.1 k = D) : Top ts k D := by
  rcases h with h | ⟨t, ht, e⟩
  · exact .inl h
  · refine .inr ⟨ind t.1, ?_⟩
    have z : lin ts (fun q => if gk q k = D then ind t.1 q else 0) = lin ts (ind t.1) := lin_congr fun u _ => by
      unfold ind
      by_cases q : u.1 = t.1
      · rw [q, if_pos e]
      · rw [if_neg q]
        simp
    rw [z, lin_ind_mem nd ht]
    exact nz t ht
/-- the other unknowns' degrees stay, where the change can be undone -/
theorem Top.keep {Ds : List Nat} {ts ts' : List Tm} {k k' D' : Nat} {a a' : Nat → Nat → Int} {δ : Int} (p : PW Ds ts) (hk : k < Ds.length) (hkk : k' ≠ k) (h : ∀ w, lin ts' w = lin ts (op k (Ds.getD k 0) a w)) (hδ : δ ≠ 0)
    (inv : ∀ m j, m ≤ Ds.getD k 0 → j ≤ Ds.getD k 0 → sumN (Ds.getD k 0 + 1) (fun i => a i j * a' m i) = if m = j then δ else 0) (t : Top ts k' D') : Top ts' k' D' := by
  rcases t with t | ⟨w, hw⟩
  · exact .inl t
  · refine .inr ⟨op k (Ds.getD k 0) a' w, ?_⟩
    rw [h]
    have e : lin ts (op k (Ds.getD k 0) a fun q => if gk q k' = D' then op k (Ds.getD k 0) a' w q else 0) = lin ts (fun q => δ * (if gk q k' = D' then w q else 0)) := by
      refine lin_congr fun u hu => ?_
      have hb := p.bx u hu
      have hq : k < u.1.length := by rw [inBox_len hb]; exact hk
      obtain ⟨hj, _⟩ := inBox_gk hb hk
      generalize hD : Ds.getD k 0 = D at hj inv
      show sumN (D + 1) (fun i => a i (gk u.1 k) * (if gk (u.1.set k (i : Int)) k' = D' then sumN (D + 1) (fun m => a' m (gk (u.1.set k (i : Int)) k) * w ((u.1.set k (i : Int)).set k (m : Int))) else 0)) = _
      have e1 : ∀ i, i < D + 1 → (a i (gk u.1 k) * (if gk (u.1.set k (i : Int)) k' = D' then sumN (D + 1) (fun m => a' m (gk (u.1.set k (i : Int)) k) * w ((u.1.set k (i : Int)).set k (m : Int))) else 0)) =
          sumN (D + 1) (fun m => (if gk u.1 k' = D' then w (u.1.set k (m : Int)) else 0) * (a i (gk u.1 k) * a' m i)) := fun i hi => by
        rw [gk_set_ne hkk, gk_set hq]
        by_cases c : gk u.1 k' = D'
        · rw [if_pos c, ← sumN_mul]
          refine sumN_congr fun m hm => ?_
          rw [if_pos c, List.set_set]
          grind
        · rw [if_neg c, sumN_zero fun m hm => by rw [if_neg c]; simp]
          simp
      rw [sumN_congr e1, sumN_swap, sumN_one (k := gk u.1 k) (by omega)]
      · rw [sumN_mul, inv _ _ hj hj, if_pos rfl, set_gk hb hk]
        grind
      · intro m hm hne
        rw [sumN_mul, inv m _ (by omega) hj, if_neg hne]
        simp
    rw [e, lin_smul]
    intro z
    rcases Int.mul_eq_zero.mp z with z | z
    · exact hδ z
    · exact hw z
theorem Top.moved {Ds : List Nat} {ts ts' : List Tm} {k : Nat} {b s B : Int} (p : PW Ds ts) (hk : k < Ds.length) (h : ∀ w, lin ts' w = lin ts (Bx.op k (Ds.getD k 0) (movA (Ds.getD k 0) b s B) w)) (hs : s ≠ 0) (t : Top ts k (Ds.getD k 0)) : Top ts' k (Ds.getD k 0) := by
  rcases t with t | ⟨w, hw⟩
  · exact .inl t
  · refine .inr ⟨w, ?_⟩
    rw [h]
    have e : lin ts (Bx.op k (Ds.getD k 0) (movA (Ds.getD k 0) b s B) fun q => if gk q k = Ds.getD k 0 then w q else 0) = lin ts (fun q => s ^ (Ds.getD k 0) * (if gk q k = Ds.getD k 0 then w q else 0)) := by
      refine lin_congr fun u hu => ?_
      have hb := p.bx u hu
      have hq : k < u.1.length := by rw [inBox_len hb]; exact hk
      obtain ⟨hj, _⟩ := inBox_gk hb hk
      have hset := set_gk hb hk
      generalize hD : Ds.getD k 0 = D at hj
      show sumN (D + 1) (fun i => movA D b s B i (gk u.1 k) * (if gk (u.1.set k (i : Int)) k = D then w (u.1.set k (i : Int)) else 0)) = _
      rw [sumN_one (k := D) (by omega) (fun i hi hne => by rw [gk_set hq, if_neg hne]; simp), gk_set hq, if_pos rfl, movA_top hj]
      by_cases c : gk u.1 k = D
      · rw [if_pos c, if_pos c]
        rw [c] at hset
        rw [hset]
      · rw [if_neg c, if_neg c]
        simp
    rw [e, lin_smul]
    intro z
    rcases Int.mul_eq_zero.mp z with z | z
    · exact (Int.pow_ne_zero hs) z
    · exact hw z
def movI (D : Nat) (b s B : Int) (m i : Nat) : Int := B ^ m * s ^ (D - i) * (ch i m * (-b) ^ (i - m))
theorem mov_inv {D : Nat} (hD : D ≤ 3) (b s B : Int) (m j : Nat) (hm : m ≤ D) (hj : j ≤ D) : sumN (D + 1) (fun i => movA D b s B i j * movI D b s B m i) = if m = j then (B * s) ^ D else 0 := by
  rcases le3 hD with rfl | rfl | rfl | rfl <;> rcases le3 (show m ≤ 3 by omega) with rfl | rfl | rfl | rfl <;> rcases le3 (show j ≤ 3 by omega) with rfl | rfl | rfl | rfl <;>
    first
    | (exfalso; omega)
    | (simp [movA, movI, AA, ch, bl, sumN]; try grind)
def tolI (D m i : Nat) : Int := (-1) ^ (m + i) * ch m i * ch D m
theorem tol_inv {D : Nat} (hD : D ≤ 3) (m j : Nat) (hm : m ≤ D) (hj : j ≤ D) : sumN (D + 1) (fun i => TT D i j * tolI D m i) = if m = j then fac D else 0 := by
  rcases le3 hD with rfl | rfl | rfl | rfl <;> rcases le3 (show m ≤ 3 by omega) with rfl | rfl | rfl | rfl <;> rcases le3 (show j ≤ 3 by omega) with rfl | rfl | rfl | rfl <;>
    first
    | (exfalso; omega)
    | decide
/-- moved, then told: one matrix -/
theorem op_both {Ds : List Nat} {k : Nat} {b s B : Int} {w : List Int → Int} {q : List Int} (hb : inBox Ds q) (hk : k < Ds.length) :
    op k (Ds.getD k 0) (movA (Ds.getD k 0) b s B) (op k (Ds.getD k 0) (TT (Ds.getD k 0)) w) q = op k (Ds.getD k 0) (MM (Ds.getD k 0) b (b + s) B) w q := by
  have hq : k < q.length := by rw [inBox_len hb]; exact hk
  obtain ⟨hj, _⟩ := inBox_gk hb hk
  generalize Ds.getD k 0 = D at hj
  have e1 : op k D (movA D b s B) (op k D (TT D) w) q = sumN (D + 1) fun i => sumN (D + 1) fun m => w (q.set k (m : Int)) * (B ^ (D - gk q k) * (AA b s (gk q k) (fun e => if e = i then 1 else 0) * TT D m i)) := by
    refine sumN_congr fun i hi => ?_
    show movA D b s B i (gk q k) * sumN (D + 1) (fun m => TT D m (gk (q.set k (i : Int)) k) * w ((q.set k (i : Int)).set k (m : Int))) = _
    rw [gk_set hq, ← sumN_mul]
    refine sumN_congr fun m hm => ?_
    rw [List.set_set]
    unfold movA
    grind
  rw [e1, sumN_swap]
  refine sumN_congr fun m hm => ?_
  rw [sumN_mul, sumN_mul, ← AA_expand hj]
  unfold MM SS
  rw [show b + s - b = s by omega]
  grind
end Bx

/-! Bx M4: signs of all counts, plain Lean. -/
namespace Bx
structure Bz where
  D : Nat
  L : Int
  H : Int
  B : Int
def Bz.m (z : Bz) (i j : Nat) : Int := MM z.D z.L z.H z.B i j
def prodL : List Bz → List Int → List Int → Int
  | z :: r, i :: idx, j :: q => z.m i.toNat j.toNat * prodL r idx q
  | _, _, _ => 1
def opsFrom : Nat → List Bz → (List Int → Int) → List Int → Int
  | _, [], w => w
  | k, z :: r, w => op k z.D z.m (opsFrom (k + 1) r w)
theorem inBox_zero : ∀ {n : Nat} {p q : List Int}, inBox (List.replicate n 0) p → inBox (List.replicate n 0) q → p = q
  | 0, [], [], _, _ => rfl
  | 0, _ :: _, _, h, _ => False.elim h
  | 0, [], _ :: _, _, h => False.elim h
  | n + 1, x :: p, y :: q, h, h' => by
    obtain ⟨a1, a2, a3⟩ := h
    obtain ⟨b1, b2, b3⟩ := h'
    rw [inBox_zero a3 b3, show x = y by omega]
  | n + 1, [], _, h, _ => False.elim h
  | n + 1, _ :: _, [], _, h => False.elim h
theorem gk_app {p q : List Int} {x : Int} {k : Nat} (h : p.length = k) : gk (p ++ x :: q) k = x.toNat := by
  subst h
  unfold gk
  rw [List.getD_eq_getElem?_getD, List.getElem?_append_right (Nat.le_refl _), Nat.sub_self] <;> rfl
theorem set_app {p q : List Int} {x y : Int} {k : Nat} (h : p.length = k) : (p ++ x :: q).set k y = (p ++ [y]) ++ q := by
  subst h
  rw [List.set_append_right _ _ (Nat.le_refl _), Nat.sub_self, List.append_assoc] <;> rfl
theorem opsFrom_ind : ∀ {bs : List Bz} {n k : Nat} {pre pre' idx q : List Int}, pre.length = k → pre'.length = k → inBox (bs.map (·.D) ++ List.replicate n 0) idx → inBox (bs.map (·.D) ++ List.replicate n 0) q →
    opsFrom k bs (ind (pre ++ idx)) (pre' ++ q) = if pre = pre' then prodL bs idx q else 0
  | [], n, k, pre, pre', idx, q, hp, hp', hi, hq => by
    have e := inBox_zero hi hq
    subst e
    show (if pre' ++ idx = pre ++ idx then (1 : Int) else 0) = if pre = pre' then prodL [] idx idx else 0
    have e1 : prodL [] idx idx = 1 := by cases idx <;> rfl
    rw [e1]
    by_cases c : pre = pre'
    · rw [if_pos (by rw [c]), if_pos c]
    · rw [if_neg c, if_neg fun z => c (List.append_cancel_right z).symm]
  | z :: r, n, k, pre, pre', x :: idx, y :: q, hp, hp', hi, hq => by
    obtain ⟨a1, a2, a3⟩ := hi
    obtain ⟨b1, b2, b3⟩ := hq
    have a2 : x ≤ (z.D : Int) := a2
    show sumN (z.D + 1) (fun i => z.m i (gk (pre' ++ y :: q) k) * opsFrom (k + 1) r (ind (pre ++ x :: idx)) ((pre' ++ y :: q).set k (i : Int))) = _
    have step : ∀ i : Nat, opsFrom (k + 1) r (ind (pre ++ x :: idx)) ((pre' ++ y :: q).set k (i : Int)) = if pre ++ [x] = pre' ++ [(i : Int)] then prodL r idx q else 0 := fun i => by
      rw [set_app hp', show pre ++ x :: idx = (pre ++ [x]) ++ idx by rw [List.append_assoc] <;> rfl]
      exact opsFrom_ind (by simp [hp]) (by simp [hp']) a3 b3
    rw [gk_app hp', sumN_congr fun i _ => by rw [step i]]
    by_cases c : pre = pre'
    · rw [if_pos c, sumN_one (k := x.toNat) (by omega)]
      · rw [if_pos (by rw [c, Int.toNat_of_nonneg a1])] <;> rfl
      · intro i hi hne
        rw [if_neg fun e => hne ?_]
        · simp
        · have := List.append_inj_right e (by rw [hp, hp'])
          have e2 : x = (i : Int) := by simpa using this
          omega
    · rw [if_neg c]
      refine sumN_zero fun i hi => ?_
      rw [if_neg fun e => c (List.append_inj_left e (by rw [hp, hp']))]
      simp
  | _ :: _, _, _, _, _, [], _, _, _, h, _ => False.elim h
  | _ :: _, _, _, _, _, _ :: _, [], _, _, _, h => False.elim h
theorem pos_r {a x : Int} (ha : 0 < a) (h : 0 < a * x) : 0 < x := Int.lt_of_mul_lt_mul_left (a := a) (by simpa using h) (Int.le_of_lt ha)
/-! ### one sign for all -/
def sgnAll {α : Type} (l : List α) (f : α → Int) : Int := if (l.all fun x => decide (0 < f x)) = true then 1 else if (l.all fun x => decide (f x < 0)) = true then -1 else 0
theorem all_iff {α : Type} {l : List α} {p : α → Prop} [DecidablePred p] : (l.all fun x => decide (p x)) = true ↔ ∀ x ∈ l, p x := by simp
theorem sgnAll_congr {α : Type} {l : List α} {f g : α → Int} (h : ∀ x ∈ l, ∃ a b : Int, 0 < a ∧ 0 < b ∧ a * f x = b * g x) : sgnAll l f = sgnAll l g := by
  have h1 : (∀ x ∈ l, 0 < f x) ↔ ∀ x ∈ l, 0 < g x := forall_congr' fun x => forall_congr' fun hx => by
    obtain ⟨a, b, ha, hb, e⟩ := h x hx
    constructor
    · intro z
      have : 0 < b * g x := e ▸ Int.mul_pos ha z
      exact pos_r hb this
    · intro z
      have : 0 < a * f x := e ▸ Int.mul_pos hb z
      exact pos_r ha this
  have h2 : (∀ x ∈ l, f x < 0) ↔ ∀ x ∈ l, g x < 0 := forall_congr' fun x => forall_congr' fun hx => by
    obtain ⟨a, b, ha, hb, e⟩ := h x hx
    constructor
    · intro z
      have : 0 < b * -g x := by rw [Int.mul_neg, ← e, ← Int.mul_neg]; exact Int.mul_pos ha (by omega)
      have := pos_r hb this
      omega
    · intro z
      have : 0 < a * -f x := by rw [Int.mul_neg, e, ← Int.mul_neg]; exact Int.mul_pos hb (by omega)
      have := pos_r ha this
      omega
  unfold sgnAll
  simp only [all_iff, h1, h2]
theorem sgnAll_map {α β : Type} {l : List α} {g : α → β} {f : β → Int} : sgnAll (l.map g) f = sgnAll l (fun x => f (g x)) := by
  unfold sgnAll
  simp only [List.all_map, Function.comp_def]
theorem sgnAll_mem {α : Type} {l m : List α} {f : α → Int} (h : ∀ x, x ∈ l ↔ x ∈ m) : sgnAll l f = sgnAll m f := by
  unfold sgnAll
  simp only [all_iff, h]
theorem sgnAll_pos {α : Type} {l : List α} {f : α → Int} (h : sgnAll l f = 1) : ∀ x ∈ l, 0 < f x := by
  unfold sgnAll at h
  split at h
  · rename_i h1
    exact all_iff.mp h1
  · split at h <;> omega
theorem sgnAll_neg {α : Type} {l : List α} {f : α → Int} (h : sgnAll l f = -1) : ∀ x ∈ l, f x < 0 := by
  unfold sgnAll at h
  split at h
  · omega
  · split at h
    · rename_i h1
      exact all_iff.mp h1
    · omega
theorem sgnAll_cases {α : Type} (l : List α) (f : α → Int) : sgnAll l f = 1 ∨ sgnAll l f = -1 ∨ sgnAll l f = 0 := by
  unfold sgnAll
  split
  · exact .inl rfl
  · split
    · exact .inr (.inl rfl)
    · exact .inr (.inr rfl)
def sg (c : Int) : Int := (if 0 < c then 1 else 0) - (if c < 0 then 1 else 0)
theorem sg_pos {c : Int} (h : 0 < c) : sg c = 1 := by unfold sg; rw [if_pos h, if_neg (by omega)] <;> rfl
theorem sg_neg {c : Int} (h : c < 0) : sg c = -1 := by unfold sg; rw [if_neg (by omega), if_pos h] <;> rfl
theorem many_pos : ∀ Ds : List Nat, 0 < many Ds
  | [] => Nat.one_pos
  | D :: r => Nat.mul_pos (Nat.succ_pos D) (many_pos r)
/-- what sign_there tells -/
theorem told_sign {Ds : List Nat} {ts : List Tm} (p : PW Ds ts) {signs : List Int} (hp : signs.Pairwise (· < ·)) (hs : ∀ s, s ∈ signs ↔ ∃ t ∈ ts, s = sg t.2) :
    (if ts.length = many Ds ∧ signs.length = 1 then signs.getD 0 0 else 0) = sgnAll (idxs Ds) (fun q => lin ts (ind q)) := by
  by_cases hl : ts.length = many Ds
  · -- every place of the box is a key
    have full : ∀ q, q ∈ idxs Ds → ∃ t ∈ ts, t.1 = q := by
      intro q hq
      apply Classical.byContradiction
      intro hn
      have nq : q ∉ ts.map (·.1) := fun hm => by
        obtain ⟨t, ht, e⟩ := List.mem_map.mp hm
        exact hn ⟨t, ht, e⟩
      have nd : (q :: ts.map (·.1)).Nodup := List.nodup_cons.mpr ⟨nq, p.nd⟩
      have le := nd.length_le_of_subset (l₂ := idxs Ds) fun x hx => by
        rcases List.mem_cons.mp hx with e | hx
        · rw [e]
          exact hq
        · obtain ⟨t, ht, rfl⟩ := List.mem_map.mp hx
          exact mem_idxs.mpr (p.bx t ht)
      rw [length_idxs, List.length_cons, List.length_map] at le
      omega
    have cf : ∀ q, q ∈ idxs Ds → ∃ t ∈ ts, t.1 = q ∧ lin ts (ind q) = t.2 := fun q hq => by
      obtain ⟨t, ht, e⟩ := full q hq
      exact ⟨t, ht, e, by rw [← e]; exact lin_ind_mem p.nd ht⟩
    have ne : ∃ t, t ∈ ts := by
      have : 0 < ts.length := by rw [hl]; exact many_pos Ds
      exact ⟨ts[0], List.getElem_mem this⟩
    by_cases h1 : ∀ t ∈ ts, 0 < t.2
    · have es : signs = [1] := by
        have hm : ∀ s ∈ signs, s = 1 := fun s h => by
          obtain ⟨t, ht, e⟩ := (hs s).mp h
          rw [e, sg_pos (h1 t ht)]
        obtain ⟨t, ht⟩ := ne
        have h1m : (1 : Int) ∈ signs := (hs 1).mpr ⟨t, ht, (sg_pos (h1 t ht)).symm⟩
        match signs, hp, hm, h1m with
        | [a], _, hm, _ => rw [hm a (by simp)]
        | a :: b :: r, hp, hm, _ =>
          have := (List.pairwise_cons.mp hp).1 b (by simp)
          rw [hm a (by simp), hm b (by simp)] at this
          omega
      rw [if_pos ⟨hl, by rw [es] <;> rfl⟩, es]
      unfold sgnAll
      rw [if_pos (all_iff.mpr fun q hq => by obtain ⟨t, ht, _, e⟩ := cf q hq; show 0 < lin ts (ind q); rw [e]; exact h1 t ht)] <;> rfl
    · by_cases h2 : ∀ t ∈ ts, t.2 < 0
      · have es : signs = [-1] := by
          have hm : ∀ s ∈ signs, s = -1 := fun s h => by
            obtain ⟨t, ht, e⟩ := (hs s).mp h
            rw [e, sg_neg (h2 t ht)]
          obtain ⟨t, ht⟩ := ne
          have h1m : (-1 : Int) ∈ signs := (hs (-1)).mpr ⟨t, ht, (sg_neg (h2 t ht)).symm⟩
          match signs, hp, hm, h1m with
          | [a], _, hm, _ => rw [hm a (by simp)]
          | a :: b :: r, hp, hm, _ =>
            have := (List.pairwise_cons.mp hp).1 b (by simp)
            rw [hm a (by simp), hm b (by simp)] at this
            omega
        rw [if_pos ⟨hl, by rw [es] <;> rfl⟩, es]
        unfold sgnAll
        rw [if_neg, if_pos (all_iff.mpr fun q hq => by obtain ⟨t, ht, _, e⟩ := cf q hq; show lin ts (ind q) < 0; rw [e]; exact h2 t ht)]
        · rfl
        · rw [all_iff]
          intro h
          obtain ⟨t, ht⟩ := ne
          have : 0 < lin ts (ind t.1) := h t.1 (mem_idxs.mpr (p.bx t ht))
          rw [lin_ind_mem p.nd ht] at this
          have := h2 t ht
          omega
      · -- both signs
        have e1 : ∃ t ∈ ts, 0 < t.2 := by
          apply Classical.byContradiction
          intro hn
          exact h2 fun t ht => by
            have := p.nz t ht
            have : ¬ 0 < t.2 := fun z => hn ⟨t, ht, z⟩
            omega
        have e2 : ∃ t ∈ ts, t.2 < 0 := by
          apply Classical.byContradiction
          intro hn
          exact h1 fun t ht => by
            have := p.nz t ht
            have : ¬ t.2 < 0 := fun z => hn ⟨t, ht, z⟩
            omega
        obtain ⟨t, ht, c⟩ := e1
        obtain ⟨u, hu, d⟩ := e2
        have s1 : (1 : Int) ∈ signs := (hs 1).mpr ⟨t, ht, (sg_pos c).symm⟩
        have s2 : (-1 : Int) ∈ signs := (hs (-1)).mpr ⟨u, hu, (sg_neg d).symm⟩
        rw [if_neg]
        · unfold sgnAll
          rw [if_neg, if_neg]
          · rw [all_iff]
            intro h
            have : lin ts (ind t.1) < 0 := h t.1 (mem_idxs.mpr (p.bx t ht))
            rw [lin_ind_mem p.nd ht] at this
            omega
          · rw [all_iff]
            intro h
            have : 0 < lin ts (ind u.1) := h u.1 (mem_idxs.mpr (p.bx u hu))
            rw [lin_ind_mem p.nd hu] at this
            omega
        · rintro ⟨_, h⟩
          match signs, h, s1, s2 with
          | [a], _, s1, s2 =>
            have a1 : (1 : Int) = a := by simpa using s1
            have a2 : (-1 : Int) = a := by simpa using s2
            omega
  · rw [if_neg fun z => hl z.1]
    -- a place of the box without a count
    have : ∃ q ∈ idxs Ds, lin ts (ind q) = 0 := by
      apply Classical.byContradiction
      intro hn
      apply hl
      refine Nat.le_antisymm p.len ?_
      rw [← length_idxs, ← List.length_map (f := (·.1)) (as := ts)]
      refine (nodup_idxs Ds).length_le_of_subset fun q hq => ?_
      have hne : lin ts (ind q) ≠ 0 := fun z => hn ⟨q, hq, z⟩
      obtain ⟨t, ht, e⟩ := lin_ne hne
      refine List.mem_map.mpr ⟨t, ht, ?_⟩
      apply Classical.byContradiction
      intro h
      exact e (if_neg h)
    obtain ⟨q, hq, e⟩ := this
    unfold sgnAll
    rw [if_neg, if_neg]
    · rw [all_iff]
      intro h
      have : lin ts (ind q) < 0 := h q hq
      omega
    · rw [all_iff]
      intro h
      have : 0 < lin ts (ind q) := h q hq
      omega

/-! ### at a place of the box -/
def prodP : List Bz → List (Int × Int) → List Int → Int
  | z :: r, (p, q) :: ps, j :: js => p ^ j.toNat * q ^ (z.D - j.toNat) * prodP r ps js
  | _, _, _ => 1
inductive Within : List Bz → List (Int × Int) → Prop
  | nil : Within [] []
  | cons {z : Bz} {p q : Int} {r ps} (hD : z.D ≤ 3) (hB : 0 < z.B) (hW : z.L < z.H) (hq : 0 < q) (h1 : z.L * q ≤ p * z.B) (h2 : p * z.B ≤ z.H * q) (t : Within r ps) : Within (z :: r) ((p, q) :: ps)
theorem sumN_pos {n : Nat} {f : Nat → Int} (h : ∀ i, i < n → 0 ≤ f i) (k : Nat) (hk : k < n) (hp : 0 < f k) : 0 < sumN n f := by
  induction n with
  | zero => omega
  | succ n ih =>
    show 0 < sumN n f + f n
    have nn : ∀ m, m ≤ n → 0 ≤ sumN m f := fun m => by
      induction m with
      | zero => intro _; exact Int.le_refl 0
      | succ m i2 =>
        intro hm
        show 0 ≤ sumN m f + f m
        have := i2 (by omega)
        have := h m (by omega)
        omega
    by_cases e : k = n
    · subst e
      have := nn k (Nat.le_refl _)
      omega
    · have := ih (fun i hi => h i (by omega)) (by omega)
      have := h n (by omega)
      omega
theorem fac_pos : ∀ n, 0 < fac n
  | 0 => by decide
  | n + 1 => Int.mul_pos (fac_pos n) (by omega)
theorem ch_nonneg {D i : Nat} (hD : D ≤ 3) (hi : i ≤ D) : 0 < ch D i := by
  rcases le3 hD with rfl | rfl | rfl | rfl <;> rcases le3 (show i ≤ 3 by omega) with rfl | rfl | rfl | rfl <;>
    first
    | (exfalso; omega)
    | decide
theorem MM_at {D j : Nat} (hD : D ≤ 3) (hj : j ≤ D) (L H B p q : Int) : sumN (D + 1) (fun i => (ch D i * (H * q - p * B) ^ (D - i) * (p * B - L * q) ^ i) * MM D L H B i j) = fac D * (B * (H - L)) ^ D * (p ^ j * q ^ (D - j)) := by
  have h := SS_at hD hj L H (H * q - p * B) (p * B - L * q)
  have e : sumN (D + 1) (fun i => (ch D i * (H * q - p * B) ^ (D - i) * (p * B - L * q) ^ i) * MM D L H B i j) = B ^ (D - j) * sumN (D + 1) (fun i => SS D i j L H * (ch D i * (H * q - p * B) ^ (D - i) * (p * B - L * q) ^ i)) := by
    rw [← sumN_mul]
    refine sumN_congr fun i _ => ?_
    unfold MM
    grind
  rw [e, h, show L * (H * q - p * B) + H * (p * B - L * q) = p * (B * (H - L)) by grind, show H * q - p * B + (p * B - L * q) = q * (H - L) by grind]
  have e2 : D = j + (D - j) := by omega
  rw [show (B * (H - L)) ^ D = (B * (H - L)) ^ j * (B * (H - L)) ^ (D - j) by rw [← Int.pow_add, ← e2]]
  simp only [Int.mul_pow]
  grind
theorem prod_pos : ∀ {bs : List Bz} {ps : List (Int × Int)}, Within bs ps → ∀ {ts : List Tm}, (∀ t ∈ ts, ∃ q r, t.1 = q ++ r ∧ inBox (bs.map (·.D)) q) → (∀ idx, inBox (bs.map (·.D)) idx → 0 < lin ts (prodL bs idx)) → 0 < lin ts (prodP bs ps)
  | [], [], .nil, ts, hb, h => by
    have := h [] True.intro
    have e : lin ts (prodP [] []) = lin ts (prodL [] []) := lin_congr fun t _ => by cases t.1 <;> rfl
    rw [e]
    exact this
  | z :: r, (p, q) :: ps, .cons hD hB hW hq h1 h2 tl, ts, hb, h => by
    have hx : 0 ≤ z.H * q - p * z.B := by omega
    have hy : 0 ≤ p * z.B - z.L * q := by omega
    have key : ∀ i : Nat, i ≤ z.D → 0 < lin (ts.map fun t => (t.1.tail, t.2 * z.m i (gk t.1 0))) (prodP r ps) := fun i hi => by
      refine prod_pos tl (fun t ht => ?_) fun idx hx => ?_
      · obtain ⟨u, hu, rfl⟩ := List.mem_map.mp ht
        obtain ⟨a, b, e, hbx⟩ := hb u hu
        cases a with
        | nil => exact False.elim hbx
        | cons x a => exact ⟨a, b, by rw [e] <;> rfl, hbx.2.2⟩
      · have := h ((i : Int) :: idx) ⟨by omega, by show (i : Int) ≤ (z.D : Int); omega, hx⟩
        have e : lin ts (prodL (z :: r) ((i : Int) :: idx)) = lin (ts.map fun t => (t.1.tail, t.2 * z.m i (gk t.1 0))) (prodL r idx) := by
          unfold lin
          rw [List.map_map]
          congr 1
          refine List.map_congr_left fun t ht => ?_
          obtain ⟨a, b, e, hbx⟩ := hb t ht
          cases a with
          | nil => exact False.elim hbx
          | cons x a =>
            show t.2 * prodL (z :: r) ((i : Int) :: idx) t.1 = t.2 * z.m i (gk t.1 0) * prodL r idx t.1.tail
            rw [e]
            show t.2 * (z.m (i : Int).toNat x.toNat * prodL r idx (a ++ b)) = t.2 * z.m i x.toNat * prodL r idx (a ++ b)
            rw [Int.toNat_natCast]
            grind
        rw [← e]
        exact this
    have tot : sumN (z.D + 1) (fun i => (ch z.D i * (z.H * q - p * z.B) ^ (z.D - i) * (p * z.B - z.L * q) ^ i) * lin (ts.map fun t => (t.1.tail, t.2 * z.m i (gk t.1 0))) (prodP r ps)) =
        fac z.D * (z.B * (z.H - z.L)) ^ z.D * lin ts (prodP (z :: r) ((p, q) :: ps)) := by
      have e1 : ∀ i, lin (ts.map fun t => (t.1.tail, t.2 * z.m i (gk t.1 0))) (prodP r ps) = lin ts (fun u => z.m i (gk u 0) * prodP r ps u.tail) := fun i => by
        unfold lin
        rw [List.map_map]
        congr 1
        refine List.map_congr_left fun t ht => ?_
        show t.2 * z.m i (gk t.1 0) * prodP r ps t.1.tail = t.2 * (z.m i (gk t.1 0) * prodP r ps t.1.tail)
        grind
      rw [sumN_congr fun i _ => by rw [e1 i, ← lin_smul], ← lin_sumN, ← lin_smul]
      refine lin_congr fun t ht => ?_
      obtain ⟨a, b, e, hbx⟩ := hb t ht
      cases a with
      | nil => exact False.elim hbx
      | cons x a =>
        rw [e]
        have hj : x.toNat ≤ z.D := by
          obtain ⟨b1, b2, _⟩ := hbx
          have b2 : x ≤ (z.D : Int) := b2
          omega
        show sumN (z.D + 1) (fun i => ch z.D i * (z.H * q - p * z.B) ^ (z.D - i) * (p * z.B - z.L * q) ^ i * (z.m i x.toNat * prodP r ps (a ++ b))) = fac z.D * (z.B * (z.H - z.L)) ^ z.D * (p ^ x.toNat * q ^ (z.D - x.toNat) * prodP r ps (a ++ b))
        have m := MM_at hD hj z.L z.H z.B p q
        rw [sumN_congr fun i _ => show _ = prodP r ps (a ++ b) * ((ch z.D i * (z.H * q - p * z.B) ^ (z.D - i) * (p * z.B - z.L * q) ^ i) * MM z.D z.L z.H z.B i x.toNat) by unfold Bz.m; grind, sumN_mul, m]
        grind
    have pos : 0 < sumN (z.D + 1) (fun i => (ch z.D i * (z.H * q - p * z.B) ^ (z.D - i) * (p * z.B - z.L * q) ^ i) * lin (ts.map fun t => (t.1.tail, t.2 * z.m i (gk t.1 0))) (prodP r ps)) := by
      have nn : ∀ i, i < z.D + 1 → 0 ≤ (ch z.D i * (z.H * q - p * z.B) ^ (z.D - i) * (p * z.B - z.L * q) ^ i) * lin (ts.map fun t => (t.1.tail, t.2 * z.m i (gk t.1 0))) (prodP r ps) := fun i hi =>
        Int.mul_nonneg (Int.mul_nonneg (Int.mul_nonneg (Int.le_of_lt (ch_nonneg hD (by omega))) (Int.pow_nonneg hx)) (Int.pow_nonneg hy)) (Int.le_of_lt (key i (by omega)))
      by_cases c : 0 < z.H * q - p * z.B
      · refine sumN_pos nn 0 (by omega) ?_
        refine Int.mul_pos (Int.mul_pos (Int.mul_pos (ch_nonneg hD (by omega)) (Int.pow_pos c)) ?_) (key 0 (by omega))
        simp
      · refine sumN_pos nn z.D (by omega) ?_
        have d : 0 < p * z.B - z.L * q := by
          have : 0 < (z.H - z.L) * q := Int.mul_pos (by omega) hq
          rw [Int.sub_mul] at this
          omega
        refine Int.mul_pos (Int.mul_pos (Int.mul_pos (ch_nonneg hD (by omega)) ?_) (Int.pow_pos d)) (key z.D (by omega))
        rw [Nat.sub_self]
        simp
    rw [tot] at pos
    have c0 : 0 < fac z.D * (z.B * (z.H - z.L)) ^ z.D := Int.mul_pos (fac_pos _) (Int.pow_pos (Int.mul_pos hB (by omega)))
    exact pos_r c0 pos
end Bx

/-! Bx P: what stands in the heap: terms, polynomials, stretches; the promises. -/
namespace Bx
open PySem PySem.Spec PyProof.Rows L2
theorem same_new {H : Hp} {p : Addr} {o : HO} (hn : H p = none) : Same H (upd H p o) := fun b u e => by
  rw [upd_ne (ne_of_none e hn)]
  exact e
theorem same_upd {H0 H : Hp} {p : Addr} {o : HO} (s : Same H0 H) (hn : H0 p = none) : Same H0 (upd H p o) := fun b u e => by
  rw [upd_ne (ne_of_none e hn)]
  exact s b u e
theorem same_tup {K : PySem.W.Frag} {H H' : Hp} {a : Addr} {xs : List V} (e : Same H H') (h : SqT K H a xs) : SqT K H' a xs := by
  rcases h with (h | ⟨o, h⟩) | h
  · exact .inl (.inl (e _ _ h))
  · exact .inl (.inr ⟨o, e _ _ h⟩)
  · exact .inr h
theorem sqT_at {K : PySem.W.Frag} {H : Hp} {p : Addr} {xs : List V} : SqT K (upd H p (.tup xs)) p xs := .inl (.inl upd_same)
theorem sqL_at {K : PySem.W.Frag} {H : Hp} {p : Addr} {xs : List V} : SqL K (upd H p (.lst xs)) p xs := .inl (.inl upd_same)
theorem paired_mono {α β : Type} {F G : α → β → Prop} (h : ∀ a b, F a b → G a b) {xs : List α} {ys : List β} (p : Paired F xs ys) : Paired G xs ys := by
  induction p with
  | nil => exact .nil
  | cons x _ ih => exact .cons (h _ _ x) ih
theorem paired_at {α β : Type} {F : α → β → Prop} {xs : List α} {ys : List β} (p : Paired F xs ys) : ∀ {i : Nat} {x : α}, xs[i]? = some x → ∃ y, ys[i]? = some y ∧ F x y := by
  induction p with
  | nil =>
    intro i x h
    cases h
  | cons h _ ih =>
    intro i x hi
    cases i with
    | zero =>
      cases hi
      exact ⟨_, rfl, h⟩
    | succ i => exact ih hi
theorem paired_len {α β : Type} {F : α → β → Prop} {xs : List α} {ys : List β} (p : Paired F xs ys) : xs.length = ys.length := Paired.length p
def TermAt (K : PySem.W.Frag) (H : Hp) (v : V) (t : Tm) : Prop := ∃ r q, v = .ref r ∧ SqT K H r [.ref q, .int t.2] ∧ SqT K H q (t.1.map V.int)
def TermsAt (K : PySem.W.Frag) (H : Hp) (a : Addr) (ts : List Tm) : Prop := ∃ vs, SqT K H a vs ∧ Paired (TermAt K H) vs ts
def PolyAt (K : PySem.W.Frag) (CP CR : Addr) (H : Hp) (p : Addr) (ts : List Tm) : Prop := ∃ C dx a, (C = CP ∨ C = CR) ∧ H p = some (.ins C dx [("terms", .ref a)]) ∧ TermsAt K H a ts
theorem TermAt.same {K : PySem.W.Frag} {H H' : Hp} {v : V} {t : Tm} (s : Same H H') (h : TermAt K H v t) : TermAt K H' v t :=
  let ⟨r, q, e, h1, h2⟩ := h; ⟨r, q, e, same_tup s h1, same_tup s h2⟩
theorem TermsAt.same {K : PySem.W.Frag} {H H' : Hp} {a : Addr} {ts : List Tm} (s : Same H H') (h : TermsAt K H a ts) : TermsAt K H' a ts :=
  let ⟨vs, h1, h2⟩ := h; ⟨vs, same_tup s h1, paired_mono (fun _ _ x => x.same s) h2⟩
theorem PolyAt.same {K : PySem.W.Frag} {CP CR : Addr} {H H' : Hp} {p : Addr} {ts : List Tm} (s : Same H H') (h : PolyAt K CP CR H p ts) : PolyAt K CP CR H' p ts :=
  let ⟨C, dx, a, c, e, t⟩ := h; ⟨C, dx, a, c, s _ _ e, t.same s⟩
theorem DD.same {P : Program} {w : World} {K : PySem.W.Frag} {H H' : Hp} {a : Addr} {kvs : List (List Int × V)} (s : Same H H') (d : DD P w K H a kvs) : DD P w K H' a kvs :=
  d.keep (fun o e => s _ _ e) fun b ys h => same_tup s h
structure S4 where
  a : Int
  b : Int
  c : Int
  d : Int
def StretchAt (K : PySem.W.Frag) (H : Hp) (v : V) (z : S4) : Prop := ∃ r l h, v = .ref r ∧ SqT K H r [.ref l, .ref h] ∧ SqT K H l [.int z.a, .int z.b] ∧ SqT K H h [.int z.c, .int z.d]
def BoxAt (K : PySem.W.Frag) (H : Hp) (a : Addr) (bs : List S4) : Prop := ∃ vs, SqT K H a vs ∧ Paired (StretchAt K H) vs bs
theorem StretchAt.same {K : PySem.W.Frag} {H H' : Hp} {v : V} {z : S4} (s : Same H H') (x : StretchAt K H v z) : StretchAt K H' v z :=
  let ⟨r, l, h, e, h1, h2, h3⟩ := x; ⟨r, l, h, e, same_tup s h1, same_tup s h2, same_tup s h3⟩
theorem BoxAt.same {K : PySem.W.Frag} {H H' : Hp} {a : Addr} {bs : List S4} (s : Same H H') (h : BoxAt K H a bs) : BoxAt K H' a bs :=
  let ⟨vs, h1, h2⟩ := h; ⟨vs, same_tup s h1, paired_mono (fun _ _ x => x.same s) h2⟩
/-- a stretch in lowest terms, low below high, of numbers of few bits -/
structure S4.Ok (z : S4) : Prop where
  hb : 0 < z.b
  hd : 0 < z.d
  lt : z.a * z.d < z.c * z.b
  g1 : Int.gcd z.a z.b = 1
  g2 : Int.gcd z.c z.d = 1
  ba : z.a.natAbs < 2 ^ 300
  bb : z.b.natAbs ≤ 2 ^ 146
  bc : z.c.natAbs < 2 ^ 300
  bd : z.d.natAbs ≤ 2 ^ 146
/-! ### the tables of counts -/
def toKV (ts : List Tm) : List (List Int × V) := ts.map fun t => (t.1, V.int t.2)
theorem valV_toKV (k : List Int) : ∀ ts : List Tm, valV (toKV ts) k = (getT ts k).map V.int
  | [] => rfl
  | t :: r => by
    have ih := valV_toKV k r
    unfold toKV at *
    rw [List.map_cons, getT_cons]
    by_cases h : t.1 = k
    · rw [valV_pos (p := (t.1, V.int t.2)) h, if_pos h] <;> rfl
    · rw [valV_neg (p := (t.1, V.int t.2)) h, if_neg h]
      exact ih
theorem map_not {k : List Int} {y : V} : ∀ {ts : List Tm}, k ∉ ts.map (·.1) → ((toKV ts).map fun kv => if kv.1 = k then (kv.1, y) else kv) = toKV ts
  | [], _ => rfl
  | t :: r, h => by
    have ih := map_not (k := k) (y := y) (ts := r) fun z => h (List.mem_cons_of_mem _ z)
    unfold toKV at *
    rw [List.map_cons, List.map_cons, ih]
    rw [if_neg fun (z : t.1 = k) => h (by rw [← z]; exact List.mem_cons_self)]
theorem putK_addT {ts : List Tm} (nd : (ts.map (·.1)).Nodup) (k : List Int) (d : Int) : putK (toKV ts) k (.int ((getT ts k).getD 0 + d)) = toKV (addT ts k d) := by
  induction ts with
  | nil =>
    show putK [] k _ = _
    rw [putK_new _ rfl]
    simp [getT, toKV, addT]
  | cons t r ih =>
    rw [List.map_cons, List.nodup_cons] at nd
    obtain ⟨q, c⟩ := t
    by_cases h : q = k
    · subst h
      unfold putK
      rw [valV_any, valV_toKV, getT_cons, if_pos rfl, if_pos (show (Option.map V.int (some c)).isSome = true from rfl)]
      have e : toKV ((q, c) :: r) = (q, V.int c) :: toKV r := rfl
      rw [e, List.map_cons, if_pos rfl, map_not nd.1]
      unfold addT
      rw [if_pos rfl] <;> rfl
    · have ih := ih nd.2
      have e : toKV ((q, c) :: r) = (q, V.int c) :: toKV r := rfl
      rw [getT_cons, if_neg h]
      unfold addT
      rw [if_neg h, e]
      unfold putK at ih ⊢
      rw [List.any_cons, show (decide ((q, V.int c).1 = k)) = false from decide_eq_false h, Bool.false_or]
      split at ih
      · rename_i hc
        rw [if_pos hc, List.map_cons, if_neg h, ih] <;> rfl
      · rename_i hc
        rw [if_neg hc, List.cons_append, ih] <;> rfl
theorem length_toKV (ts : List Tm) : (toKV ts).length = ts.length := List.length_map ..
theorem toKV_snoc {ts : List Tm} {k : List Int} (c : Int) (h : k ∉ ts.map (·.1)) : putK (toKV ts) k (.int c) = toKV (ts ++ [(k, c)]) := by
  rw [putK_new _ (by rw [valV_toKV, getT_not h] <;> rfl)]
  unfold toKV
  rw [List.map_append] <;> rfl
/-! ### readings that come again and again -/
section
variable {K : PySem.W.Frag} {H : Hp} {Q : VK} {i : Int} {a : Addr} {xs : List V}
theorem isi_int (q : Q (.bl true) H) : rIsi K [.int i, .ty "int"] H Q := ⟨_, _, _, _, true, rfl, .ty _, .base (.int i), kit_ty (by decide +kernel), q⟩
theorem isi_bool (q : Q (.bl false) H) : rIsi K [.int i, .ty "bool"] H Q := ⟨_, _, _, _, false, rfl, .ty _, .base (.int i), kit_ty (by decide +kernel), q⟩
theorem ty_tup (h : SqT K H a xs) : TyX K H (.ref a) (.type "tuple") := by
  rcases h with (h | ⟨o, h⟩) | ⟨o, its, n, h, c, _⟩
  · exact .base (.tup h)
  · exact .fTuple h
  · exact .kTuple h c
theorem isi_tup (h : SqT K H a xs) (q : Q (.bl true) H) : rIsi K [.ref a, .ty "tuple"] H Q := ⟨_, _, _, _, true, rfl, .ty _, ty_tup h, kit_ty (by decide +kernel), q⟩
end
/-! ### what stays when only lists change; lists made item by item -/
def Ste (H H' : Hp) : Prop := ∀ b o, (∀ l, o ≠ HO.lst l) → H b = some o → H' b = some o
theorem Ste.of {H H' : Hp} (s : Same H H') : Ste H H' := fun b o _ e => s b o e
theorem Ste.trans {H H1 H2 : Hp} (a : Ste H H1) (b : Ste H1 H2) : Ste H H2 := fun c o n e => b c o n (a c o n e)
theorem Ste.upd {H : Hp} {D : Addr} {l : List V} {o : HO} (e : H D = some (.lst l)) : Ste H (upd H D o) := fun b u n h => by
  rw [upd_ne (ne_of h e (n l))]
  exact h
theorem Ste.tup {K : PySem.W.Frag} {H H' : Hp} {a : Addr} {xs : List V} (s : Ste H H') (h : SqT K H a xs) : SqT K H' a xs := by
  rcases h with (h | ⟨o, h⟩) | h
  · exact .inl (.inl (s _ _ (fun _ z => nomatch z) h))
  · exact .inl (.inr ⟨o, s _ _ (fun _ z => nomatch z) h⟩)
  · exact .inr h
theorem Ste.term {K : PySem.W.Frag} {H H' : Hp} {v : V} {t : Tm} (s : Ste H H') (h : TermAt K H v t) : TermAt K H' v t :=
  let ⟨r, q, e, h1, h2⟩ := h; ⟨r, q, e, s.tup h1, s.tup h2⟩
theorem Ste.poly {K : PySem.W.Frag} {CP CR : Addr} {H H' : Hp} {p : Addr} {ts : List Tm} (s : Ste H H') (h : PolyAt K CP CR H p ts) : PolyAt K CP CR H' p ts :=
  let ⟨C, dx, a, c, e, vs, h1, h2⟩ := h; ⟨C, dx, a, c, s _ _ (fun _ z => nomatch z) e, vs, s.tup h1, paired_mono (fun _ _ x => s.term x) h2⟩
theorem Ste.stretch {K : PySem.W.Frag} {H H' : Hp} {v : V} {z : S4} (s : Ste H H') (x : StretchAt K H v z) : StretchAt K H' v z :=
  let ⟨r, l, h, e, h1, h2, h3⟩ := x; ⟨r, l, h, e, s.tup h1, s.tup h2, s.tup h3⟩
theorem Ste.dd {P : Program} {w : World} {K : PySem.W.Frag} {H H' : Hp} {a : Addr} {kvs : List (List Int × V)} (s : Ste H H') (d : DD P w K H a kvs) : DD P w K H' a kvs := by
  obtain ⟨xs, o, e, ek, t⟩ := d
  exact ⟨xs, o, s _ _ (fun _ z => nomatch z) e, ek, fun p hp => s.tup (t p hp)⟩
def Acc (H0 : Hp) (D : Addr) (R : Nat → V → Hp → Prop) (i : Nat) (H : Hp) : Prop := Same H0 H ∧ ∃ acc : List V, H D = some (.lst acc) ∧ acc.length = i ∧ ∀ j y, acc[j]? = some y → R j y H
theorem acc_zero {H0 : Hp} {D : Addr} {R : Nat → V → Hp → Prop} (hD : H0 D = none) : Acc H0 D R 0 (upd H0 D (.lst [])) :=
  ⟨same_new hD, [], upd_same, rfl, fun j y h => by simp at h⟩
theorem acc_step {H0 H H4 : Hp} {D : Addr} {R : Nat → V → Hp → Prop} {i : Nat} {y : V} (hD : H0 D = none) (st : ∀ j y Ha Hb, Ste Ha Hb → R j y Ha → R j y Hb) (a : Acc H0 D R i H) (hi : i ≤ 1000) (s : Same H H4) (r : R i y H4) :
    ∃ acc, H4 D = some (.lst acc) ∧ acc.length < sizeLine ∧ Acc H0 D R (i + 1) (upd H4 D (.lst (acc ++ [y]))) := by
  obtain ⟨s0, acc, e, hl, hr⟩ := a
  have e4 := s _ _ e
  have u : Ste H4 (upd H4 D (.lst (acc ++ [y]))) := Ste.upd e4
  refine ⟨acc, e4, by rw [hl]; exact Nat.lt_of_le_of_lt hi (by decide), same_upd (s0.trans s) hD, acc ++ [y], upd_same, by simp [hl], fun j z hz => ?_⟩
  by_cases c : j < acc.length
  · rw [List.getElem?_append_left c] at hz
    exact st _ _ _ _ ((Ste.of s).trans u) (hr j z hz)
  · rw [List.getElem?_append_right (by omega)] at hz
    have e0 : j - acc.length = 0 := by
      apply Classical.byContradiction
      intro hn
      rw [List.getElem?_eq_none (by simp; omega)] at hz
      cases hz
    rw [e0] at hz
    cases hz
    have : j = i := by omega
    subst this
    exact st _ _ _ _ u r
theorem acc_tup {K : PySem.W.Frag} {H0 H : Hp} {D : Addr} {R : Nat → V → Hp → Prop} {i : Nat} {a : Addr} {xs : List V} (x : Acc H0 D R i H) (h : SqT K H0 a xs) : SqT K H a xs := same_tup x.1 h
/-- the items beside a list -/
theorem paired_of {α β : Type} {F : α → β → Prop} : ∀ {xs : List α} {ys : List β}, xs.length = ys.length → (∀ (j : Nat) x y, xs[j]? = some x → ys[j]? = some y → F x y) → Paired F xs ys
  | [], [], _, _ => .nil
  | x :: xs, y :: ys, hl, h => .cons (h 0 x y rfl rfl) (paired_of (by simpa using hl) fun j u v h1 h2 => h (j + 1) u v (by simpa using h1) (by simpa using h2))
  | [], _ :: _, hl, _ => by simp at hl
  | _ :: _, [], hl, _ => by simp at hl
end Bx

/-! Bx W1: the small defs of checks, fractions. -/
namespace Bx
open PySem PySem.Spec PyProof.Rows L2
def spIsInteger : Sp := fun vs H Q _ => ∃ i, vs = [.int i] ∧ Q (.bl true) H
def spIsWithin : Sp := fun vs H Q _ => ∃ i a b, vs = [.int i, .int a, .int b] ∧ a ≤ i ∧ i ≤ b ∧ Q (.bl true) H
def spDivisor : Sp := fun vs H Q _ => ∃ a b : Int, vs = [.int a, .int b] ∧ Q (.int ((Int.gcd a b : Nat) : Int)) H
def spIsFraction (K : PySem.W.Frag) : Sp := fun vs H Q _ => ∃ r a b, vs = [.ref r] ∧ SqT K H r [.int a, .int b] ∧ 0 < b ∧ Int.gcd a b = 1 ∧ Q (.bl true) H
def spIsBelow (K : PySem.W.Frag) : Sp := fun vs H Q _ => ∃ r r' a b c d, vs = [.ref r, .ref r'] ∧ SqT K H r [.int a, .int b] ∧ SqT K H r' [.int c, .int d] ∧ (a.natAbs < 2 ^ 1000 ∧ b.natAbs < 2 ^ 1000 ∧ c.natAbs < 2 ^ 1000 ∧ d.natAbs < 2 ^ 1000) ∧ Q (.bl (decide (a * d < c * b))) H
def spSign : Sp := fun vs H Q _ => ∃ c, vs = [.int c] ∧ Q (.int (sg c)) H
--SP is_integer := spIsInteger
--SP is_within := spIsWithin
--SP divisor_of := spDivisor
--SP is_fraction := spIsFraction K
--SP is_below := spIsBelow K
--SP sign_of_integer := spSign
theorem gcd_step {a b : Int} (ha : 0 ≤ a) (hb : 0 ≤ b) : Int.gcd b (a % b) = Int.gcd a b := by
  obtain ⟨n, rfl⟩ := Int.eq_ofNat_of_zero_le ha
  obtain ⟨m, rfl⟩ := Int.eq_ofNat_of_zero_le hb
  rw [← Int.natCast_emod]
  show Nat.gcd m (n % m) = Nat.gcd n m
  rw [Nat.gcd_comm n m, Nat.gcd_rec m n, Nat.gcd_comm]
variable {P : Program} {w : World} {K : PySem.W.Frag} {mg : Str → Option Value} {base : Heap} {CP CR aN : Addr}
theorem ok_is_integer {f : Addr} {fd : FuncData} (F : C8.Def K mg "is_integer" s_is_integer f fd) (b : Binds K fd ["thing"] []) (T : Txt K mg CP CR aN) : C8.Cal P w K mg base 1 "is_integer" (spIsInteger) [] := by
  refine C8.cal0 F b .nil sc_is_integer (fun vs H Q E h => ?_) (fun cdv A outer s H vs Q E hr h => ?_)
  · obtain ⟨i, rfl, _⟩ := h
    rfl
  · obtain ⟨i, rfl, q⟩ := h
    have nd := sc_is_integer.nd
    refine ⟨_, (pss_one (ps_ret (pe_and (pe_callB (call_isiK K) (by rfl) T.isinstance (by decide +kernel) (pa_cons (pv 0) (pa_cons (pe_bltn (v := .ty "int") (by rfl) T.int (by decide +kernel) rfl) pa_nil))) (pe_one (pe_not (pe_callB (call_isiK K) (by rfl) T.isinstance (by decide +kernel) (pa_cons (pv 0) (pa_cons (pe_bltn (v := .ty "bool") (by rfl) T.bool (by decide +kernel) rfl) pa_nil)))))))), ?_⟩
    refine ⟨_, rfl, _, _, _, _, true, rfl, .ty _, .base (.int _), kit_ty (by decide +kernel), _, rfl, ?_⟩
    refine ⟨_, rfl, _, _, _, _, false, rfl, .ty _, .base (.int _), kit_ty (by decide +kernel), _, rfl, ?_⟩
    exact q
theorem ok_is_within {f : Addr} {fd : FuncData} (F : C8.Def K mg "is_within" s_is_within f fd) (b : Binds K fd ["thing", "least", "most"] []) (T : Txt K mg CP CR aN) (c_is_integer : C8.Cal P w K mg base 1 "is_integer" (spIsInteger) []) : C8.Cal P w K mg base 2 "is_within" (spIsWithin) [] := by
  refine C8.cal0 F b .nil sc_is_within (fun vs H Q E h => ?_) (fun cdv A outer s H vs Q E hr h => ?_)
  · obtain ⟨i, a, b, rfl, _⟩ := h
    rfl
  · obtain ⟨i, a, b, rfl, h1, h2, q⟩ := h
    have nd := sc_is_within.nd
    refine ⟨_, (pss_one (ps_ret (pe_and (C8.pe_c c_is_integer hr (by decide) (by rfl) (pa_cons (pv 0) pa_nil)) (pe_one (pe_chain op_le op_le (pv 1) (pv 0) (pv 2)))))), ?_⟩
    refine ⟨_, rfl, ?_⟩
    refine ⟨i, rfl, true, rfl, ?_⟩
    refine ⟨_, rfl, _, rfl, _, _, rfl, rfl, ?_⟩
    refine ⟨_, rfl, ?_⟩
    rw [decide_eq_true h1]
    refine ⟨_, rfl, _, _, rfl, rfl, ?_⟩
    show Q (.bl (decide (i ≤ b))) H
    rw [decide_eq_true h2]
    exact q
theorem ok_divisor_of {f : Addr} {fd : FuncData} (F : C8.Def K mg "divisor_of" s_divisor_of f fd) (b : Binds K fd ["one", "other"] []) (T : Txt K mg CP CR aN) : C8.Cal P w K mg base 1 "divisor_of" (spDivisor) [] := by
  refine C8.cal0 F b .nil sc_divisor_of (fun vs H Q E h => ?_) (fun cdv A outer s H vs Q E hr h => ?_)
  · obtain ⟨a, b, rfl, _⟩ := h
    rfl
  · obtain ⟨x, y, rfl, q⟩ := h
    have nd := sc_divisor_of.nd
    refine ⟨_, (pss_cons (ps_par (i := 0) (j := 1) rfl nd rfl rfl (by decide) rfl rfl (pa_cons (pe_callB call_abs (by rfl) T.abs (by decide +kernel) (pa_cons (pv 0) pa_nil)) (pa_cons (pe_callB call_abs (by rfl) T.abs (by decide +kernel) (pa_cons (pv 1) pa_nil)) pa_nil)) (by rfl))
    (pss_cons (ps_while PassesOwn.never (pt_cmpR op_gt (pv 1) pe_int (nomark _))
      (pss_one (ps_par (i := 0) (j := 1) rfl nd rfl rfl (by decide) rfl rfl (pa_cons (pv 1) (pa_cons (pe_op op_mod (pv 0) (pv 1)) pa_nil)) (by rfl))))
    (pss_one (ps_ret (pv 0))))), ?_⟩
    refine ⟨_, rfl, _, rfl, _, rfl, _, rfl, _, _, rfl, ?_⟩
    refine while_by (fun σ H' => ∃ a b : Int, σ = [some (.int a), some (.int b)] ∧ 0 ≤ a ∧ 0 ≤ b ∧ Int.gcd a b = Int.gcd x y ∧ H' = H) (fun σ _ => match σ with | [_, some (.int b)] => b.toNat | _ => 0)
      ⟨_, _, rfl, by split <;> omega, by split <;> omega, ?_, rfl⟩ ?_ (fun σ H Q Q' hq ⟨v, e, i, j, e1, e2, k, e3, q⟩ => ⟨v, e, i, j, e1, e2, k, e3, hq _ _ q⟩)
    · split <;> split <;> simp [Int.gcd]
    · rintro σ H' ⟨a, b, rfl, ha, hb, hg, rfl⟩
      refine ⟨_, rfl, _, _, rfl, rfl, _, rfl, ?_⟩
      by_cases c : 0 < b
      · rw [decide_eq_true c]
        refine ⟨_, rfl, _, rfl, _, rfl, _, _, rfl, rfl, c, ?_⟩
        refine ⟨_, _, rfl, ⟨b, a % b, rfl, hb, Int.emod_nonneg _ (by omega), ?_, rfl⟩, ?_⟩
        · exact (gcd_step ha hb).trans hg
        · have h1 := Int.emod_lt_of_pos a c
          have h2 := Int.emod_nonneg a (show b ≠ 0 by omega)
          show (a % b).toNat < b.toNat
          omega
      · rw [decide_eq_false c]
        refine ⟨_, rfl, ?_⟩
        have e : b = 0 := by omega
        subst e
        rw [Int.gcd_zero_right] at hg
        rw [← hg] at q
        rw [show ((a.natAbs : Nat) : Int) = a by omega] at q
        exact q
theorem ok_is_fraction {f : Addr} {fd : FuncData} (F : C8.Def K mg "is_fraction" s_is_fraction f fd) (b : Binds K fd ["thing"] []) (T : Txt K mg CP CR aN) (c_divisor_of : C8.Cal P w K mg base 1 "divisor_of" (spDivisor) []) (c_is_integer : C8.Cal P w K mg base 1 "is_integer" (spIsInteger) []) : C8.Cal P w K mg base 2 "is_fraction" (spIsFraction K) [] := by
  refine C8.cal0 F b .nil sc_is_fraction (fun vs H Q E h => ?_) (fun cdv A outer s H vs Q E hr h => ?_)
  · obtain ⟨r, a, b, rfl, _⟩ := h
    rfl
  · obtain ⟨r, a, b, rfl, h1, hb, hg, q⟩ := h
    have nd := sc_is_fraction.nd
    refine ⟨_, (pss_cons (ps_if (PW.pt (pw_or (pt_not (pt_val (pe_callB (call_isiK K) (by rfl) T.isinstance (by decide +kernel) (pa_cons (pv 0) (pa_cons (pe_bltn (v := .ty "tuple") (by rfl) T.tuple (by decide +kernel) rfl) pa_nil))))) (pw_or (pt_cmpR op_ne (pe_callB (call_len_seqK K) (by rfl) T.len PySem.boot_len (pa_cons (pv 0) pa_nil)) pe_int (nomark _)) (pw_or (pt_not (pt_val (C8.pe_c c_is_integer hr (by decide) (by rfl) (pa_cons (pe_ix (ix_tupK K) (pv 0) pe_int (fun _ _ => rfl)) pa_nil)))) (pw_or1 (pt_not (pt_val (C8.pe_c c_is_integer hr (by decide) (by rfl) (pa_cons (pe_ix (ix_tupK K) (pv 0) pe_int (fun _ _ => rfl)) pa_nil)))))))))
      (pss_one (ps_ret pe_bl))
      pss_nil)
    (pss_one (ps_ret (pe_and (pe_cmpR op_gt (pe_ix (ix_tupK K) (pv 0) pe_int (fun _ _ => rfl)) pe_int (nomark _)) (pe_one (pe_cmpR op_eq (C8.pe_c c_divisor_of hr (by decide) (by rfl) (pa_cons (pe_ix (ix_tupK K) (pv 0) pe_int (fun _ _ => rfl)) (pa_cons (pe_ix (ix_tupK K) (pv 0) pe_int (fun _ _ => rfl)) pa_nil))) pe_int (nomark _))))))), ?_⟩
    refine ⟨_, rfl, _, _, _, _, true, rfl, .ty _, ty_tup h1, kit_ty (by decide +kernel), _, rfl, ?_⟩
    refine ⟨_, rfl, _, _, rfl, .inr h1, rfl, _, rfl, ?_⟩
    refine ⟨_, rfl, _, _, _, _, rfl, rfl, h1, (by rfl), _, rfl, true, rfl, _, rfl, _, _, _, _, rfl, rfl, h1, (by rfl), _, rfl, true, rfl, ?_⟩
    refine ⟨_, rfl, _, _, _, _, rfl, rfl, h1, (by rfl), _, _, rfl, rfl, ?_⟩
    refine ⟨_, rfl, ?_⟩
    rw [decide_eq_true hb]
    refine ⟨_, rfl, _, _, _, _, rfl, rfl, h1, (by rfl), _, rfl, _, _, _, _, rfl, rfl, h1, (by rfl), _, _, rfl, rfl, ?_⟩
    rw [hg]
    exact q
theorem ok_is_below {f : Addr} {fd : FuncData} (F : C8.Def K mg "is_below" s_is_below f fd) (b : Binds K fd ["one", "other"] []) (T : Txt K mg CP CR aN) : C8.Cal P w K mg base 1 "is_below" (spIsBelow K) [] := by
  refine C8.cal0 F b .nil sc_is_below (fun vs H Q E h => ?_) (fun cdv A outer s H vs Q E hr h => ?_)
  · obtain ⟨r, r', a, b, c, d, rfl, _⟩ := h
    rfl
  · obtain ⟨r, r', a, b, c, d, rfl, h1, h2, ⟨ba, bb, bc, bd⟩, q⟩ := h
    have nd := sc_is_below.nd
    refine ⟨_, (pss_one (ps_ret (pe_cmpR op_lt (pe_op op_mulW (pe_ix (ix_tupK K) (pv 0) pe_int (fun _ _ => rfl)) (pe_ix (ix_tupK K) (pv 1) pe_int (fun _ _ => rfl))) (pe_op op_mulW (pe_ix (ix_tupK K) (pv 1) pe_int (fun _ _ => rfl)) (pe_ix (ix_tupK K) (pv 0) pe_int (fun _ _ => rfl))) (nomark _)))), ?_⟩
    refine ⟨_, rfl, _, _, _, _, rfl, rfl, h1, (by rfl), _, rfl, _, _, _, _, rfl, rfl, h2, (by rfl), _, _, rfl, rfl, (wide_mul ba bd (by decide) (by decide) (by decide)), ?_⟩
    refine ⟨_, rfl, _, _, _, _, rfl, rfl, h2, (by rfl), _, rfl, _, _, _, _, rfl, rfl, h1, (by rfl), _, _, rfl, rfl, (wide_mul bc bb (by decide) (by decide) (by decide)), _, _, rfl, rfl, ?_⟩
    exact q
theorem ok_sign_of_integer {f : Addr} {fd : FuncData} (F : C8.Def K mg "sign_of_integer" s_sign_of_integer f fd) (b : Binds K fd ["number"] []) (T : Txt K mg CP CR aN) : C8.Cal P w K mg base 1 "sign_of_integer" (spSign) [] := by
  refine C8.cal0 F b .nil sc_sign_of_integer (fun vs H Q E h => ?_) (fun cdv A outer s H vs Q E hr h => ?_)
  · obtain ⟨c, rfl, _⟩ := h
    rfl
  · obtain ⟨c, rfl, q⟩ := h
    have nd := sc_sign_of_integer.nd
    refine ⟨_, (pss_one (ps_ret (pe_op op_sub (pe_callTy call_int1 (by rfl) T.int (by decide +kernel) (pa_cons (pe_cmpR op_gt (pv 0) pe_int (nomark _)) pa_nil)) (pe_callTy call_int1 (by rfl) T.int (by decide +kernel) (pa_cons (pe_cmpR op_lt (pv 0) pe_int (nomark _)) pa_nil))))), ?_⟩
    refine ⟨_, rfl, _, _, rfl, rfl, ?_⟩
    refine .inr ⟨_, rfl, ?_⟩
    refine ⟨_, rfl, _, _, rfl, rfl, ?_⟩
    refine .inr ⟨_, rfl, ?_⟩
    refine ⟨_, _, rfl, rfl, ?_⟩
    unfold sg at q
    simpa using q
end Bx

/-! Bx W2: terms, polynomials made. -/
namespace Bx
open PySem PySem.Spec PyProof.Rows L2
def spIsTerm (K : PySem.W.Frag) : Sp := fun vs H Q _ => ∃ v t, vs = [v] ∧ TermAt K H v t ∧ t.2 ≠ 0 ∧ t.1.length = 4 ∧ (∀ x ∈ t.1, 0 ≤ x ∧ x ≤ 60) ∧ ∀ H', Same H H' → Q (.bl true) H'
def spPolyInit (K : PySem.W.Frag) (CP : Addr) : Sp := fun vs H Q _ => ∃ p dx a ts, vs = [.ref p, .ref a] ∧ H p = some (.ins CP dx []) ∧ TermsAt K H a ts ∧ ts.length ≤ 64 ∧ (∀ t ∈ ts, t.2 ≠ 0 ∧ t.1.length = 4 ∧ ∀ x ∈ t.1, 0 ≤ x ∧ x ≤ 60) ∧ ts.Pairwise (fun t u => HT.lexLt t.1 u.1 = true) ∧
  ∀ H', (∀ b o, b ≠ p → H b = some o → H' b = some o) → H' p = some (.ins CP dx [("terms", .ref a)]) → Q .non H'
def spRawInit (CR : Addr) : Sp := fun vs H Q _ => ∃ p dx a, vs = [.ref p, .ref a] ∧ H p = some (.ins CR dx []) ∧ Q .non (upd H p (.ins CR dx [("terms", .ref a)]))
def spPolyFrom (P : Program) (w : World) (K : PySem.W.Frag) (CP CR : Addr) : Sp := fun vs H Q _ => ∃ d us, vs = [.ref d] ∧ DD P w K H d (toKV us) ∧ (us.map (·.1)).Nodup ∧ (∀ u ∈ us, u.1.length = 4 ∧ TS.Bd 64 u.1) ∧ us.length < 64 ∧
  ∀ H' p ts, Same H H' → PolyAt K CP CR H' p ts → ts.Perm (us.filter fun t => decide (t.2 ≠ 0)) → Q (.ref p) H'
def spConstant (K : PySem.W.Frag) (CP CR : Addr) : Sp := fun vs H Q _ => ∃ n : Int, vs = [.int n] ∧ ∀ H' p ts, Same H H' → PolyAt K CP CR H' p ts → ts.Perm ([(([0, 0, 0, 0] : List Int), n)].filter fun t => decide (t.2 ≠ 0)) → Q (.ref p) H'
def spPowersOf (K : PySem.W.Frag) : Sp := fun vs H Q _ => ∃ k : Nat, ∃ m : Int, vs = [.int k, .int m] ∧ k < 4 ∧ ∀ H' p, Same H H' → SqT K H' p ((([0, 0, 0, 0] : List Int).set k m).map V.int) → Q (.ref p) H'
def spUnknown (K : PySem.W.Frag) (CP CR : Addr) : Sp := fun vs H Q _ => ∃ k : Nat, ∃ m : Int, vs = [.int k, .int m] ∧ k < 4 ∧ 0 ≤ m ∧ m < 64 ∧ ∀ H' p ts, Same H H' → PolyAt K CP CR H' p ts → ts = [(([0, 0, 0, 0] : List Int).set k m, (1 : Int))] → Q (.ref p) H'
--SP is_integer := spIsInteger
--SP is_within := spIsWithin
--SP is_term := spIsTerm K
--SP Poly_init := spPolyInit K CP
--SP RawPoly_init := spRawInit CR
--SP poly_from := spPolyFrom P w K CP CR
--SP constant := spConstant K CP CR
--SP powers_of := spPowersOf K
--SP unknown_power := spUnknown K CP CR
variable {P : Program} {w : World} {K : PySem.W.Frag} {mg : Str → Option Value} {base : Heap} {CP CR aN : Addr}
theorem ok_is_term {f : Addr} {fd : FuncData} (F : C8.Def K mg "is_term" s_is_term f fd) (b : Binds K fd ["thing"] []) (T : Txt K mg CP CR aN) (c_is_integer : C8.Cal P w K mg base 1 "is_integer" (spIsInteger) []) (c_is_within : C8.Cal P w K mg base 2 "is_within" (spIsWithin) []) : C8.Cal P w K mg base 3 "is_term" (spIsTerm K) [] := by
  refine C8.cal0 F b .nil sc_is_term (fun vs H Q E h => ?_) (fun cdv A outer s H vs Q E hr h => ?_)
  · obtain ⟨v, t, rfl, _⟩ := h
    rfl
  · obtain ⟨v, ⟨ps, c⟩, rfl, ⟨r, a, rfl, h1, h2⟩, hc, hl, hb, q⟩ := h
    have hl : ps.length = 4 := hl
    have nd := sc_is_term.nd
    refine ⟨_, (pss_cons (ps_if (PW.pt (pw_or (pt_not (pt_val (pe_callB (call_isiK K) (by rfl) T.isinstance (by decide +kernel) (pa_cons (pv 0) (pa_cons (pe_bltn (v := .ty "tuple") (by rfl) T.tuple (by decide +kernel) rfl) pa_nil))))) (pw_or (pt_cmpR op_ne (pe_callB (call_len_seqK K) (by rfl) T.len PySem.boot_len (pa_cons (pv 0) pa_nil)) pe_int (nomark _)) (pw_or (pt_not (pt_val (C8.pe_c c_is_integer hr (by decide) (by rfl) (pa_cons (pe_ix (ix_tupK K) (pv 0) pe_int (fun _ _ => rfl)) pa_nil)))) (pw_or1 (pt_cmpR op_eq (pe_ix (ix_tupK K) (pv 0) pe_int (fun _ _ => rfl)) pe_int (nomark _)))))))
      (pss_one (ps_ret pe_bl))
      pss_nil)
    (pss_cons (ps_if (PW.pt (pw_or (pt_not (pt_val (pe_callB (call_isiK K) (by rfl) T.isinstance (by decide +kernel) (pa_cons (pe_ix (ix_tupK K) (pv 0) pe_int (fun _ _ => rfl)) (pa_cons (pe_bltn (v := .ty "tuple") (by rfl) T.tuple (by decide +kernel) rfl) pa_nil))))) (pw_or1 (pt_cmpR op_ne (pe_callB (call_len_seqK K) (by rfl) T.len PySem.boot_len (pa_cons (pe_ix (ix_tupK K) (pv 0) pe_int (fun _ _ => rfl)) pa_nil)) (C8.pe_gc (v := .int 4) (by rfl) T.UNKNOWNS) (nomark _)))))
      (pss_one (ps_ret pe_bl))
      pss_nil)
    (pss_one (ps_ret (pe_callB (cr_allK K rfl) (by rfl) T.all (by decide +kernel) (pa_cons (pe_lc (own := [("power", 1)]) (g := (gName 1)) (tt := tYes) rfl nd (pi_tupK K (pe_ix (ix_tupK K) (pv 0) pe_int (fun _ _ => rfl))) (blkOk_by (own := [("power", 1)]) (N := ["thing", "power"]) (sc := C8.fnScope s_is_term) (by decide +kernel)) (fun _ _ _ _ _ => (pg_name (i := 1) nd rfl (Or.inl rfl))) (fun _ _ _ _ _ => pts_nil) (fun _ _ _ _ _ => (C8.pe_c c_is_within hr (by decide) (by rfl) (pa_cons (pv 1) (pa_cons pe_int (pa_cons (C8.pe_gc (v := .int 60) (by rfl) T.MOST_POWER) pa_nil)))))) pa_nil)))))), ?_⟩
    refine ⟨_, rfl, _, _, _, _, true, rfl, .ty _, ty_tup h1, kit_ty (by decide +kernel), _, rfl, ?_⟩
    refine ⟨_, rfl, _, _, rfl, .inr h1, rfl, _, rfl, ?_⟩
    refine ⟨_, rfl, _, _, _, _, rfl, rfl, h1, (by rfl), _, rfl, true, rfl, _, rfl, _, _, _, _, rfl, rfl, h1, (by rfl), rfl, _, rfl, ?_⟩
    have hc : decide (V.int c = V.int 0) = false := decide_eq_false fun z => hc (by cases z; rfl)
    rw [hc]
    refine ⟨_, rfl, _, _, _, _, rfl, rfl, h1, (by rfl), _, _, _, _, true, rfl, .ty _, ty_tup h2, kit_ty (by decide +kernel), _, rfl, ?_⟩
    refine ⟨_, rfl, _, _, _, _, rfl, rfl, h1, (by rfl), _, _, rfl, .inr h2, rfl, _, rfl, ?_⟩
    have hl4 : decide (V.int (((ps.map V.int).length : Nat) : Int) = V.int 4) = true := decide_eq_true (by rw [List.length_map, hl]; rfl)
    rw [hl4]
    refine ⟨_, rfl, _, _, _, _, rfl, rfl, h1, (by rfl), _, rfl, ⟨_, h2⟩, ?_⟩
    intro D hD
    refine lc_tup (K := K) (a := a) (xs := ps.map V.int) (fun i H' => H' = upd H D (.lst ((List.replicate i true).map V.bl))) rfl (fun i H' _ e => by rw [e]; exact same_tup (same_new hD) h2) (fun i x H' hx e => ?_) (fun H' e => ?_)
    · subst e
      rw [List.getElem?_map] at hx
      cases hp : ps[i]? with
      | none =>
        rw [hp] at hx
        cases hx
      | some u =>
        rw [hp] at hx
        cases hx
        have hu := hb u (List.mem_of_getElem? hp)
        refine ⟨rfl, _, rfl, ?_⟩
        refine ⟨_, _, _, rfl, hu.1, hu.2, ?_⟩
        have hi : i < ps.length := (List.getElem?_eq_some_iff.mp hp).1
        refine ⟨_, upd_same, by rw [List.length_map, List.length_replicate]; exact Nat.lt_of_lt_of_le (show i < 4 by omega) (by decide), ?_⟩
        rw [upd_upd, List.replicate_succ', List.map_append] <;> rfl
    · subst e
      refine ⟨D, List.replicate (ps.map V.int).length true, rfl, sqL_at, ?_⟩
      rw [show (List.replicate (ps.map V.int).length true).all id = true by simp]
      exact q _ (same_new hD)
theorem ok_Poly_init {f : Addr} {fd : FuncData} (M : Mk K CP f) (hm : mg "Poly" = some (.ref CP)) (F : C8.Fun K "__init__" "Poly.__init__" s_Poly_init f fd) (b : Binds K fd ["self", "terms"] []) (T : Txt K mg CP CR aN) (c_is_term : C8.Cal P w K mg base 3 "is_term" (spIsTerm K) []) : C8.Mak P w K mg base 4 "Poly" CP (spPolyInit K CP) [] := by
  refine C8.mak0 M hm F b .nil sc_Poly_init (fun vs H Q E h => ?_) (fun cdv A outer s H vs Q E hr h => ?_)
  · obtain ⟨p, dx, a, ts, rfl, _⟩ := h
    rfl
  · obtain ⟨p, dx, a, ts, rfl, hp, ⟨vs, hT, hP⟩, hlen, hok, hord, q⟩ := h
    have nd := sc_Poly_init.nd
    refine ⟨_, (pss_cons (ps_if (PW.pt (pw_or (pt_not (pt_val (pe_callB (call_isiK K) (by rfl) T.isinstance (by decide +kernel) (pa_cons (pv 1) (pa_cons (pe_bltn (v := .ty "tuple") (by rfl) T.tuple (by decide +kernel) rfl) pa_nil))))) (pw_or1 (pt_cmpR op_gt (pe_callB (call_len_seqK K) (by rfl) T.len PySem.boot_len (pa_cons (pv 1) pa_nil)) (C8.pe_gc (v := .int 300) (by rfl) T.MOST_TERMS) (nomark _)))))
      (pss_one ps_never)
      pss_nil)
    (pss_cons (ps_for PassesOwn.never rfl (pi_enumTK K (by rfl) T.enumerate (pa_cons (pv 1) pa_nil)) (pg_tup rfl (pgs_cons (pg_name (i := 2) nd rfl (Or.inl rfl)) (pgs_cons (pg_name (i := 3) nd rfl (Or.inl rfl)) pgs_nil)))
      (pss_one (ps_if (PW.pt (pw_or (pt_not (pt_val (C8.pe_c c_is_term hr (by decide) (by rfl) (pa_cons (pv 3) pa_nil)))) (pw_or1 (PW.pt (pw_and (pt_cmpR op_gt (pv 2) pe_int (nomark _)) (pw_and1 (pt_not (pt_cmpR (op_ltTK K (hu_of hr)) (pe_ix (ix_tupK K) (pe_ix (ix_tupK K) (pv 1) (pe_op op_sub (pv 2) pe_int) (fun _ _ => rfl)) pe_int (fun _ _ => rfl)) (pe_ix (ix_tupK K) (pv 3) pe_int (fun _ _ => rfl)) (nomark _)))))))))
        (pss_one ps_never)
        pss_nil)))
    (pss_one (ps_fldK K (pv 0) (pv 1) rfl)))), ?_⟩
    have hl := paired_len hP
    refine ⟨_, rfl, _, _, _, _, true, rfl, .ty _, ty_tup hT, kit_ty (by decide +kernel), _, rfl, ?_⟩
    refine ⟨_, rfl, _, _, rfl, .inr hT, _, _, rfl, rfl, _, rfl, ?_⟩
    have h300 : decide ((300 : Int) < ((vs.length : Nat) : Int)) = false := decide_eq_false (by omega)
    rw [h300]
    refine ⟨_, rfl, _, _, rfl, hT, ?_⟩
    refine for_enumT (K := K) (a := a) (xs := vs) (fun i σ H' => ∃ m t, σ = [some (.ref p), some (.ref a), m, t] ∧ Same H H') ⟨_, _, rfl, Same.refl _⟩ (fun i σ H' _ ⟨_, _, _, s⟩ => same_tup s hT) (fun i x Tt σ H' hx ⟨m, t, e, s⟩ hTt => ?_) (fun σ H' ⟨m, t, e, s⟩ => ?_)
    · subst e
      obtain ⟨t, ht, tm⟩ := paired_at hP hx
      have s1 : Same H (upd H' Tt (.tup [.int (i : Nat), x])) := s.trans (same_new hTt)
      refine ⟨_, _, rfl, sqT_at, rfl, _, _, rfl, _, _, rfl, rfl, ?_⟩
      have ok := hok t (List.mem_of_getElem? ht)
      refine ⟨_, rfl, ?_⟩
      refine ⟨_, t, rfl, tm.same s1, ok.1, ok.2.1, ok.2.2, fun H2 s2 => ?_⟩
      refine ⟨true, rfl, _, rfl, _, _, rfl, rfl, _, rfl, ?_⟩
      by_cases c : (0 : Int) < ((i : Nat) : Int)
      · rw [decide_eq_true c]
        obtain ⟨j, rfl⟩ : ∃ j, i = j + 1 := ⟨i - 1, by omega⟩
        have hj1 : j + 1 < vs.length := (List.getElem?_eq_some_iff.mp hx).1
        have hj : j < vs.length := by omega
        obtain ⟨u, hu, um⟩ := paired_at hP (List.getElem?_eq_getElem hj)
        have e1 : ((j + 1 : Nat) : Int) - 1 = ((j : Nat) : Int) := by omega
        have hat : atI vs (((j + 1 : Nat) : Int) - 1) = some vs[j] := by rw [e1]; exact atI_nat (List.getElem?_eq_getElem hj)
        obtain ⟨ur, uq, eu, u1, u2⟩ := um.same (s1.trans s2)
        obtain ⟨tr, tq, et, t1, t2⟩ := tm.same (s1.trans s2)
        have hlt : HT.lexLt u.1 t.1 = true := by
          have := List.pairwise_iff_getElem.mp hord j (j + 1) (by omega) (by omega) (by omega)
          rw [List.getElem?_eq_some_iff] at hu ht
          obtain ⟨_, eu⟩ := hu
          obtain ⟨_, et⟩ := ht
          rw [eu, et] at this
          exact this
        refine ⟨_, rfl, _, rfl, _, _, rfl, rfl, _, _, _, _, rfl, rfl, (same_tup (s1.trans s2) hT), hat, ?_⟩
        rw [eu]
        refine ⟨_, _, _, _, rfl, rfl, u1, (by rfl), _, rfl, ?_⟩
        refine ⟨_, _, _, _, et, rfl, t1, rfl, ?_⟩
        refine ⟨_, _, _, _, rfl, rfl, u2, t2, _, rfl, ?_⟩
        rw [hlt]
        exact ⟨_, _, rfl, s1.trans s2⟩
      · rw [decide_eq_false c]
        exact ⟨_, _, rfl, s1.trans s2⟩
    · subst e
      refine ⟨_, rfl, _, rfl, _, _, _, _, rfl, (s _ _ hp), T.clP, T.nP, (by show 0 < 1000; decide), ?_⟩
      refine q _ (fun b o hb e => ?_) upd_same
      rw [upd_ne hb]
      exact s _ _ e
theorem ok_RawPoly_init {f : Addr} {fd : FuncData} (M : Mk K CR f) (hm : mg "RawPoly" = some (.ref CR)) (F : C8.Fun K "__init__" "RawPoly.__init__" s_RawPoly_init f fd) (b : Binds K fd ["self", "terms"] []) (T : Txt K mg CP CR aN) : C8.Mak P w K mg base 1 "RawPoly" CR (spRawInit CR) [] := by
  refine C8.mak0 M hm F b .nil sc_RawPoly_init (fun vs H Q E h => ?_) (fun cdv A outer s H vs Q E hr h => ?_)
  · obtain ⟨p, dx, a, rfl, _⟩ := h
    rfl
  · obtain ⟨p, dx, a, rfl, hp, q⟩ := h
    have nd := sc_RawPoly_init.nd
    refine ⟨_, (pss_one (ps_fldK K (pv 0) (pv 1) rfl)), ?_⟩
    refine ⟨_, rfl, _, rfl, _, _, _, _, rfl, hp, T.clR, T.nR, (by show 0 < 1000; decide), ?_⟩
    exact q
def tsOf (us : List Tm) (ks : List (List Int)) : List Tm := (ks.map fun k => (k, (getT us k).getD 0)).filter fun t => decide (t.2 ≠ 0)
theorem tsOf_perm {us : List Tm} {ks : List (List Int)} (nd : (us.map (·.1)).Nodup) (h : ks.Perm (us.map (·.1))) : (tsOf us ks).Perm (us.filter fun t => decide (t.2 ≠ 0)) := by
  unfold tsOf
  refine List.Perm.filter _ ?_
  refine (h.map _).trans (List.Perm.of_eq ?_)
  rw [List.map_map]
  refine (List.map_congr_left fun t ht => ?_).trans (List.map_id _)
  show (t.1, (getT us t.1).getD 0) = t
  rw [getT_mem nd ht] <;> rfl
theorem tsOf_snoc (us : List Tm) (ks : List (List Int)) (k : List Int) (c : Int) (h : getT us k = some c) : tsOf us (ks ++ [k]) = if c = 0 then tsOf us ks else tsOf us ks ++ [(k, c)] := by
  unfold tsOf
  rw [List.map_append, List.filter_append]
  by_cases e : c = 0
  · rw [if_pos e]
    subst e
    simp [h]
  · rw [if_neg e]
    simp [h, e]
/-- the list of terms that the comprehension makes -/
def Made (K : PySem.W.Frag) (H0 : Hp) (D : Addr) (ts : List Tm) (H : Hp) : Prop := Same H0 H ∧ ∃ acc : List V, H D = some (.lst acc) ∧ Paired (TermAt K H) acc ts
theorem Made.snoc {K : PySem.W.Frag} {H0 H : Hp} {D r q : Addr} {ts : List Tm} {k : List Int} {c : Int} (hD : H0 D = none) (m : Made K H0 D ts H) (hr : H r = none) (hq : SqT K H q (k.map V.int)) (hl : ts.length ≤ 1000) :
    ∃ acc, (upd H r (.tup [.ref q, .int c])) D = some (.lst acc) ∧ acc.length < sizeLine ∧ Made K H0 D (ts ++ [(k, c)]) (upd (upd H r (.tup [.ref q, .int c])) D (.lst (acc ++ [.ref r]))) := by
  obtain ⟨s, acc, e, hp⟩ := m
  have s1 : Same H (upd H r (.tup [.ref q, .int c])) := same_new hr
  have e1 := s1 _ _ e
  have u : Ste (upd H r (.tup [.ref q, .int c])) (upd (upd H r (.tup [.ref q, .int c])) D (.lst (acc ++ [.ref r]))) := Ste.upd e1
  refine ⟨acc, e1, by rw [paired_len hp]; exact Nat.lt_of_le_of_lt hl (by decide), same_upd (s.trans s1) hD, _, upd_same, ?_⟩
  exact Paired.snoc (paired_mono (fun _ _ x => u.term (x.same s1)) hp) ⟨r, q, rfl, u.tup sqT_at, u.tup (same_tup s1 hq)⟩
theorem ok_poly_from {f : Addr} {fd : FuncData} (F : C8.Def K mg "poly_from" s_poly_from f fd) (b : Binds K fd ["parts"] []) (T : Txt K mg CP CR aN) (m_RawPoly : C8.Mak P w K mg base 1 "RawPoly" CR (spRawInit CR) []) : C8.Cal P w K mg base 3 "poly_from" (spPolyFrom P w K CP CR) [] := by
  refine C8.cal0 F b .nil sc_poly_from (fun vs H Q E h => ?_) (fun cdv A outer s H vs Q E hr h => ?_)
  · obtain ⟨d, us, rfl, _⟩ := h
    rfl
  · obtain ⟨d, us, rfl, hd, nu, hb, hl, q⟩ := h
    have nd := sc_poly_from.nd
    refine ⟨_, (pss_one (ps_ret (C8.pe_mk m_RawPoly hr (by decide) (by rfl) (pa_cons (pe_callTy (call_tuple_ofK K) (by rfl) T.tuple (by decide +kernel) (pa_cons (pe_lc (own := [("powers", 1)]) (g := (gName 1)) rfl nd (pi_list (pe_callB (call_sortedDDK P w K rfl) (by rfl) T.sorted (by decide +kernel) (pa_cons (pv 0) pa_nil))) (blkOk_by (own := [("powers", 1)]) (N := ["parts", "powers"]) (sc := C8.fnScope s_poly_from) (by decide +kernel)) (fun _ _ _ _ _ => (pg_name (i := 1) nd rfl (Or.inl rfl))) (fun _ _ _ _ _ => (pts_one (pt_cmpR op_ne (pe_ddgetK P w K (hu_of hr) (pv 0) (pv 1) (fun _ _ => rfl)) pe_int (nomark _)))) (fun _ _ _ _ _ => (pe_tup (pa_cons (pv 1) (pa_cons (pe_ddgetK P w K (hu_of hr) (pv 0) (pv 1) (fun _ _ => rfl)) pa_nil))))) pa_nil)) pa_nil)))), ?_⟩
    refine ⟨_, rfl, _, _, rfl, hd, ⟨64, 4, (by decide), fun kv hkv => by obtain ⟨u, hu, rfl⟩ := List.mem_map.mp hkv; exact hb u hu⟩, (by rw [length_toKV]; exact hl), ?_⟩
    intro L l hL hP hS hl0
    have hLu : (L.map (·.2)).Perm (us.map (·.1)) := hL.trans (List.Perm.of_eq (by unfold toKV; rw [List.map_map]; rfl))
    have hLl : L.length = us.length := by have := hLu.length_eq; rwa [List.length_map, List.length_map] at this
    refine ⟨_, rfl, ⟨_, sqL_at⟩, fun D hD => ?_⟩
    have sl : Same H (upd H l (.lst (L.map fun q => V.ref q.1))) := same_new hl0
    refine lc_list (K := K) (a := l) (xs := L.map fun q => V.ref q.1) (fun i H' => Made K (upd H l (.lst (L.map fun q => V.ref q.1))) D (tsOf us ((L.take i).map (·.2))) H') ⟨same_new hD, [], upd_same, .nil⟩ (fun i H' _ m => m.1.seq sqL_at) (fun i x H' hx m => ?_) (fun H' m => ?_)
    · rw [List.getElem?_map] at hx
      cases hi : L[i]? with
      | none =>
        rw [hi] at hx
        cases hx
      | some u =>
        rw [hi] at hx
        cases hx
        have s' := sl.trans m.1
        have hu := List.mem_of_getElem? hi
        have hk : u.2 ∈ us.map (·.1) := hLu.mem_iff.mp (List.mem_map.mpr ⟨u, hu, rfl⟩)
        obtain ⟨t, ht, et⟩ := List.mem_map.mp hk
        have hg : getT us u.2 = some t.2 := by rw [← et]; exact getT_mem nu ht
        have hv : valV (toKV us) u.2 = some (.int t.2) := by rw [valV_toKV, hg] <;> rfl
        have hq := same_tup s' (hS u hu)
        have htk : (L.take (i + 1)).map (·.2) = (L.take i).map (·.2) ++ [u.2] := by rw [List.take_add_one, hi, List.map_append] <;> rfl
        have hd' := hd.same s'
        have hlen : (tsOf us ((L.take i).map (·.2))).length ≤ 1000 := by
          refine Nat.le_trans (List.length_filter_le ..) ?_
          rw [List.length_map, List.length_map, List.length_take]
          omega
        refine ⟨rfl, _, rfl, _, rfl, _, _, _, _, _, rfl, rfl, hd', hq, hv, rfl, _, rfl, ?_⟩
        have e : (!decide (V.int t.2 = V.int 0)) = decide (t.2 ≠ 0) := by
          by_cases c : t.2 = 0
          · rw [c] <;> rfl
          · rw [decide_eq_true c, decide_eq_false fun z => c (V.int.inj z)] <;> rfl
        rw [e]
        by_cases c : t.2 = 0
        · rw [decide_eq_false (fun z => z c)]
          show Made _ _ _ _ _
          rw [htk, tsOf_snoc us _ _ _ hg, if_pos c]
          exact m
        · rw [decide_eq_true c]
          refine ⟨_, rfl, _, rfl, _, rfl, _, _, _, _, _, rfl, rfl, hd', hq, hv, (by show 2 ≤ sizeLine; decide), ?_⟩
          intro r hr
          rw [htk, tsOf_snoc us _ _ _ hg, if_neg c]
          exact m.snoc hD hr hq hlen
    · obtain ⟨sm, acc, hacc, hpa⟩ := m
      refine ⟨D, acc, rfl, .inl ⟨.inl (.inl hacc), fun t ht => ?_⟩⟩
      intro x dx hx hdx hne
      have st : Same H' (upd H' t (.tup acc)) := same_new ht
      have sd : Same (upd H' t (.tup acc)) (upd (upd H' t (.tup acc)) dx (.own x)) := same_new hdx
      have hx2 : (upd (upd H' t (.tup acc)) dx (.own x)) x = none := by rw [upd_ne (Ne.symm hne)]; exact hx
      refine ⟨x, dx, t, rfl, upd_same, rfl, ?_⟩
      rw [upd_upd]
      have sx : Same (upd (upd H' t (.tup acc)) dx (.own x)) (upd (upd (upd H' t (.tup acc)) dx (.own x)) x (.ins CR dx [("terms", .ref t)])) := same_new hx2
      have sall := st.trans (sd.trans sx)
      refine q _ x _ (sl.trans (sm.trans sall)) ⟨CR, dx, t, .inr rfl, upd_same, acc, same_tup (sd.trans sx) sqT_at, paired_mono (fun _ _ z => z.same sall) hpa⟩ ?_
      rw [List.take_of_length_le (by simp)]
      exact tsOf_perm nu hLu
theorem ok_constant {f : Addr} {fd : FuncData} (F : C8.Def K mg "constant" s_constant f fd) (b : Binds K fd ["number"] []) (T : Txt K mg CP CR aN) (c_poly_from : C8.Cal P w K mg base 3 "poly_from" (spPolyFrom P w K CP CR) []) : C8.Cal P w K mg base 4 "constant" (spConstant K CP CR) [] := by
  refine C8.cal0 F b .nil sc_constant (fun vs H Q E h => ?_) (fun cdv A outer s H vs Q E hr h => ?_)
  · obtain ⟨n, rfl, _⟩ := h
    rfl
  · obtain ⟨n, rfl, q⟩ := h
    have nd := sc_constant.nd
    refine ⟨_, (pss_one (ps_ret (C8.pe_c c_poly_from hr (by decide) (by rfl) (pa_cons (pe_dd1K P w K (hu_of hr) (C8.pe_gc (v := .ref aN) (by rfl) T.NO_POWERS) (pv 0)) pa_nil)))), ?_⟩
    intro p hp o D0
    refine ⟨_, rfl, aN, [0, 0, 0, 0], rfl, D0, T.powers _, fun o' d' kp => ?_⟩
    have s1 : Same H (upd (upd H p o) p o') := same_upd (same_new hp) hp
    refine ⟨p, [([0, 0, 0, 0], n)], rfl, d' D0, by simp, fun u hu => ?_, by show 1 < 64; decide, fun H' p ts s hP hperm => q H' p ts (s1.trans s) hP hperm⟩
    have e : u = ([0, 0, 0, 0], n) := by simpa using hu
    rw [e]
    exact ⟨rfl, fun m hm => by have : m = 0 := by simpa using hm
                               omega⟩
theorem ok_powers_of {f : Addr} {fd : FuncData} (F : C8.Def K mg "powers_of" s_powers_of f fd) (b : Binds K fd ["k", "many"] []) (T : Txt K mg CP CR aN) : C8.Cal P w K mg base 1 "powers_of" (spPowersOf K) [] := by
  refine C8.cal0 F b .nil sc_powers_of (fun vs H Q E h => ?_) (fun cdv A outer s H vs Q E hr h => ?_)
  · obtain ⟨k, m, rfl, _⟩ := h
    rfl
  · obtain ⟨k, m, rfl, hk, q⟩ := h
    have nd := sc_powers_of.nd
    refine ⟨_, (pss_one (ps_ret (pe_callTy (call_tuple_ofK K) (by rfl) T.tuple (by decide +kernel) (pa_cons (pe_lc (own := [("other", 2)]) (g := (gName 2)) (tt := tYes) rfl nd (pi_range1 (by rfl) T.range (pa_cons (C8.pe_gc (v := .int 4) (by rfl) T.UNKNOWNS) pa_nil)) (blkOk_by (own := [("other", 2)]) (N := ["k", "many", "other"]) (sc := C8.fnScope s_powers_of) (by decide +kernel)) (fun _ _ _ _ _ => (pg_name (i := 2) nd rfl (Or.inl rfl))) (fun _ _ _ _ _ => pts_nil) (fun _ _ _ _ _ => (pe_ifExp (pt_cmpR op_eq (pv 2) (pv 0) (nomark _)) (pv 1) pe_int))) pa_nil)))), ?_⟩
    refine ⟨(4 : Int), rfl, (by decide), (by decide), ?_⟩
    intro D hD
    refine lc_range (lo := 0) (n := 4) (fun i H' => H' = upd H D (.lst (((([0, 0, 0, 0] : List Int).set k m).take i).map V.int))) rfl (fun i H' hi e => ?_) (fun H' e => ?_)
    · subst e
      have hat : (([0, 0, 0, 0] : List Int).set k m)[i]? = some (if i = k then m else 0) := by
        by_cases c : i = k
        · subst c
          rw [if_pos rfl, List.getElem?_set_self (by simpa using hi)]
        · rw [if_neg c, List.getElem?_set_ne (Ne.symm c)]
          rcases (show i = 0 ∨ i = 1 ∨ i = 2 ∨ i = 3 by omega) with rfl | rfl | rfl | rfl <;> rfl
      have fin : ∀ x : Int, x = (if i = k then m else 0) → ∃ acc, (upd H D (.lst (((([0, 0, 0, 0] : List Int).set k m).take i).map V.int))) D = some (.lst acc) ∧ acc.length < sizeLine ∧
          upd (upd H D (.lst (((([0, 0, 0, 0] : List Int).set k m).take i).map V.int))) D (.lst (acc ++ [.int x])) = upd H D (.lst (((([0, 0, 0, 0] : List Int).set k m).take (i + 1)).map V.int)) := fun x hx => by
        refine ⟨_, upd_same, ?_, ?_⟩
        · rw [List.length_map, List.length_take]
          exact Nat.lt_of_le_of_lt (Nat.min_le_left ..) (Nat.lt_of_lt_of_le hi (by decide))
        · rw [upd_upd, List.take_add_one, hat, hx, List.map_append] <;> rfl
      refine ⟨rfl, _, rfl, _, rfl, rfl, _, rfl, ?_⟩
      by_cases c : i = k
      · have e : decide (V.int (0 + ((i : Nat) : Int)) = V.int ((k : Nat) : Int)) = true := decide_eq_true (by rw [c, Int.zero_add])
        rw [e]
        refine ⟨_, rfl, ?_⟩
        exact fin m (by rw [if_pos c])
      · have e : decide (V.int (0 + ((i : Nat) : Int)) = V.int ((k : Nat) : Int)) = false := decide_eq_false fun z => c (by have := V.int.inj z; omega)
        rw [e]
        exact fin 0 (by rw [if_neg c])
    · subst e
      refine ⟨D, _, rfl, .inl ⟨sqL_at, fun t ht => ?_⟩⟩
      refine q _ t ((same_new hD).trans (same_new ht)) ?_
      have e : (([0, 0, 0, 0] : List Int).set k m).take 4 = ([0, 0, 0, 0] : List Int).set k m := List.take_of_length_le (by simp)
      rw [e]
      exact sqT_at
theorem ok_unknown_power {f : Addr} {fd : FuncData} (F : C8.Def K mg "unknown_power" s_unknown_power f fd) (b : Binds K fd ["k", "many"] []) (T : Txt K mg CP CR aN) (c_poly_from : C8.Cal P w K mg base 3 "poly_from" (spPolyFrom P w K CP CR) []) (c_powers_of : C8.Cal P w K mg base 1 "powers_of" (spPowersOf K) []) : C8.Cal P w K mg base 4 "unknown_power" (spUnknown K CP CR) [] := by
  refine C8.cal0 F b .nil sc_unknown_power (fun vs H Q E h => ?_) (fun cdv A outer s H vs Q E hr h => ?_)
  · obtain ⟨k, m, rfl, _⟩ := h
    rfl
  · obtain ⟨k, m, rfl, hk, h0, h64, q⟩ := h
    have nd := sc_unknown_power.nd
    refine ⟨_, (pss_one (ps_ret (C8.pe_c c_poly_from hr (by decide) (by rfl) (pa_cons (pe_dd1K P w K (hu_of hr) (C8.pe_c c_powers_of hr (by decide) (by rfl) (pa_cons (pv 0) (pa_cons (pv 1) pa_nil))) pe_int) pa_nil)))), ?_⟩
    intro p hp o D0
    refine ⟨_, rfl, _, rfl, k, m, rfl, hk, ?_⟩
    intro H1 t s1 ht
    refine ⟨t, ([0, 0, 0, 0] : List Int).set k m, rfl, D0.same s1, ht, fun o' d' kp => ?_⟩
    have s2 : Same H (upd H1 p o') := same_upd ((same_new hp).trans s1) hp
    refine ⟨p, [(([0, 0, 0, 0] : List Int).set k m, 1)], rfl, d' (D0.same s1), by simp, fun u hu => ?_, by show 1 < 64; decide, fun H' p ts s hP hperm => q H' p ts (s2.trans s) hP (List.perm_singleton.mp hperm)⟩
    have e : u = (([0, 0, 0, 0] : List Int).set k m, 1) := by simpa using hu
    rw [e]
    refine ⟨by simp, fun x hx => ?_⟩
    rcases List.mem_or_eq_of_mem_set hx with h | h
    · have : x = 0 := by simpa using h
      omega
    · omega
end Bx

/-! Bx W3: sums, products. -/
namespace Bx
open PySem PySem.Spec PyProof.Rows L2
/-- powers are four, from 0 to n; counts are not 0 -/
structure PG (n : Int) (ts : List Tm) : Prop where
  nd : (ts.map (·.1)).Nodup
  nz : ∀ t ∈ ts, t.2 ≠ 0
  l4 : ∀ t ∈ ts, t.1.length = 4
  en : ∀ t ∈ ts, ∀ x ∈ t.1, 0 ≤ x ∧ x ≤ n
def KeysOk (n : Int) (us : List Tm) : Prop := ∀ q ∈ us.map (·.1), q.length = 4 ∧ ∀ x ∈ q, 0 ≤ x ∧ x ≤ n
theorem KeysOk.bd {n : Int} {us : List Tm} (h : KeysOk n us) (hn : n ≤ 63) : ∀ u ∈ us, u.1.length = 4 ∧ TS.Bd 64 u.1 := fun u hu => by
  obtain ⟨h1, h2⟩ := h u.1 (List.mem_map.mpr ⟨u, hu, rfl⟩)
  refine ⟨h1, fun x hx => ?_⟩
  have := h2 x hx
  omega
theorem KeysOk.add {n : Int} {us : List Tm} {k : List Int} {d : Int} (h : KeysOk n us) (hk : k.length = 4 ∧ ∀ x ∈ k, 0 ≤ x ∧ x ≤ n) : KeysOk n (addT us k d) := fun q hq => by
  rcases keys_addT hq with e | e
  · rw [e]
    exact hk
  · exact h q e
theorem PG.keys {n : Int} {ts : List Tm} (p : PG n ts) : KeysOk n ts := fun q hq => by
  obtain ⟨t, ht, rfl⟩ := List.mem_map.mp hq
  exact ⟨p.l4 t ht, p.en t ht⟩
theorem PG.ofPerm {n : Int} {us ts : List Tm} (nd : (us.map (·.1)).Nodup) (hk : KeysOk n us) (h : ts.Perm (us.filter fun t => decide (t.2 ≠ 0))) : PG n ts ∧ (∀ w, lin ts w = lin us w) ∧ nrm ts = nrm us := by
  have mem : ∀ t ∈ ts, t ∈ us ∧ t.2 ≠ 0 := fun t ht => by
    have := List.mem_filter.mp (h.mem_iff.mp ht)
    exact ⟨this.1, by simpa using this.2⟩
  refine ⟨⟨?_, fun t ht => (mem t ht).2, fun t ht => (hk t.1 (List.mem_map.mpr ⟨t, (mem t ht).1, rfl⟩)).1, fun t ht => (hk t.1 (List.mem_map.mpr ⟨t, (mem t ht).1, rfl⟩)).2⟩, fun w => ?_, ?_⟩
  · exact (h.map (·.1)).nodup_iff.mpr (nd.sublist ((List.filter_sublist (l := us)).map _))
  · rw [lin_perm h, lin_filter]
  · rw [nrm_perm h, nrm_filter]
theorem PG.mono {n m : Int} {ts : List Tm} (p : PG n ts) (h : n ≤ m) : PG m ts := ⟨p.nd, p.nz, p.l4, fun t ht x hx => by have := p.en t ht x hx; omega⟩
theorem take_snoc {α : Type} {l : List α} {i : Nat} {x : α} (h : l[i]? = some x) : l.take (i + 1) = l.take i ++ [x] := by
  rw [List.take_add_one, h] <;> rfl
theorem nrm_take_le (ts : List Tm) (i : Nat) : nrm (ts.take i) ≤ nrm ts := by
  have h := congrArg nrm (List.take_append_drop i ts)
  rw [nrm_append] at h
  omega
theorem lin_one (t : Tm) (w) : lin [t] w = t.2 * w t.1 := by simp [lin]
theorem nrm_one (t : Tm) : nrm [t] = t.2.natAbs := by simp [nrm]
theorem fieldOk {K : PySem.W.Frag} {mg : Str → Option Value} {CP CR aN C : Addr} (T : Txt K mg CP CR aN) (c : C = CP ∨ C = CR) : Cls K C ∧ NoAttr K C "terms" := by
  rcases c with rfl | rfl
  · exact ⟨T.clP, T.nP⟩
  · exact ⟨T.clR, T.nR⟩
theorem get_int (ts : List Tm) (k : List Int) : (valV (toKV ts) k).getD (.int 0) = V.int ((getT ts k).getD 0) := by
  rw [valV_toKV]
  cases getT ts k <;> rfl
def spSum (K : PySem.W.Frag) (CP CR : Addr) : Sp := fun vs H Q _ => ∃ p1 p2 by' ts1 ts2 n, vs = [.ref p1, .ref p2, .int by'] ∧ PolyAt K CP CR H p1 ts1 ∧ PolyAt K CP CR H p2 ts2 ∧ PG n ts1 ∧ PG n ts2 ∧ n ≤ 63 ∧ ts1.length + ts2.length < 64 ∧ by'.natAbs < 2 ^ 100000 ∧ nrm ts2 < 2 ^ 100000 ∧
  ∀ H' p ts, Same H H' → PolyAt K CP CR H' p ts → PG n ts → (∀ w, lin ts w = lin ts1 w + by' * lin ts2 w) → nrm ts ≤ nrm ts1 + by'.natAbs * nrm ts2 → Q (.ref p) H'
def spPlus (K : PySem.W.Frag) (CP CR : Addr) : Sp := fun vs H Q _ => ∃ p1 p2 ts1 ts2 n, vs = [.ref p1, .ref p2] ∧ PolyAt K CP CR H p1 ts1 ∧ PolyAt K CP CR H p2 ts2 ∧ PG n ts1 ∧ PG n ts2 ∧ n ≤ 63 ∧ ts1.length + ts2.length < 64 ∧ nrm ts2 < 2 ^ 100000 ∧
  ∀ H' p ts, Same H H' → PolyAt K CP CR H' p ts → PG n ts → (∀ w, lin ts w = lin ts1 w + lin ts2 w) → nrm ts ≤ nrm ts1 + nrm ts2 → Q (.ref p) H'
def addP (a b : List Int) : List Int := List.zipWith (· + ·) a b
def spTimes (K : PySem.W.Frag) (CP CR : Addr) : Sp := fun vs H Q _ => ∃ p1 p2 ts1 ts2 n1 n2, vs = [.ref p1, .ref p2] ∧ PolyAt K CP CR H p1 ts1 ∧ PolyAt K CP CR H p2 ts2 ∧ PG n1 ts1 ∧ PG n2 ts2 ∧ n1 + n2 ≤ 63 ∧ ts1.length * ts2.length < 64 ∧ nrm ts1 < 2 ^ 100000 ∧ nrm ts2 < 2 ^ 100000 ∧
  ∀ H' p ts, Same H H' → PolyAt K CP CR H' p ts → PG (n1 + n2) ts → (∀ w, lin ts w = lin ts1 fun a => lin ts2 fun b => w (addP a b)) → nrm ts ≤ nrm ts1 * nrm ts2 → Q (.ref p) H'
--SP poly_from := spPolyFrom P w K CP CR
--SP sum_with := spSum K CP CR
--SP plus := spPlus K CP CR
--SP times := spTimes K CP CR
variable {P : Program} {w : World} {K : PySem.W.Frag} {mg : Str → Option Value} {base : Heap} {CP CR aN : Addr}
theorem ok_sum_with {f : Addr} {fd : FuncData} (F : C8.Def K mg "sum_with" s_sum_with f fd) (b : Binds K fd ["one", "other", "by"] []) (T : Txt K mg CP CR aN) (c_poly_from : C8.Cal P w K mg base 3 "poly_from" (spPolyFrom P w K CP CR) []) : C8.Cal P w K mg base 4 "sum_with" (spSum K CP CR) [] := by
  refine C8.cal0 F b .nil sc_sum_with (fun vs H Q E h => ?_) (fun cdv A outer s H vs Q E hr h => ?_)
  · obtain ⟨p1, p2, by', ts1, ts2, n, rfl, _⟩ := h
    rfl
  · obtain ⟨p1, p2, by', ts1, ts2, n, rfl, ⟨C1, dx1, a1, c1, e1, vs1, hT1, hP1⟩, ⟨C2, dx2, a2, c2, e2, vs2, hT2, hP2⟩, g1, g2, hn, hlen, hby, hnr, q⟩ := h
    obtain ⟨cl1, no1⟩ := fieldOk T c1
    obtain ⟨cl2, no2⟩ := fieldOk T c2
    have hl1 := paired_len hP1
    have hl2 := paired_len hP2
    have nd := sc_sum_with.nd
    refine ⟨_, (pss_cons (ps_setDcTK P w K (i := 5) (own := [("powers", 3), ("count", 4)]) (g := (gTup K 2 (gCons (gName 3) (gCons (gName 4) gNil)))) (hu_of hr) rfl nd rfl rfl (sw_dc rfl rfl rfl (by decide +kernel)) (pi_tupK K (pe_fldK K (pv 0) rfl)) (blkOk_by (own := [("powers", 3), ("count", 4)]) (N := ["one", "other", "by", "powers", "count", "parts"]) (sc := C8.fnScope s_sum_with) (by decide +kernel)) (fun _ _ _ _ _ => (pg_tup rfl (pgs_cons (pg_name (i := 3) nd rfl (Or.inl rfl)) (pgs_cons (pg_name (i := 4) nd rfl (Or.inl rfl)) pgs_nil)))) (fun _ _ _ _ _ => (pv 3)) (fun _ _ _ _ _ => (pv 4)))
    (pss_cons (ps_for PassesOwn.never rfl (pi_tupK K (pe_fldK K (pv 1) rfl)) (pg_tup rfl (pgs_cons (pg_name (i := 3) nd rfl (Or.inl rfl)) (pgs_cons (pg_name (i := 4) nd rfl (Or.inl rfl)) pgs_nil)))
      (pss_one (ps_ddsetK P w K (hu_of hr) (pv 5) (pv 3) (pe_op op_add (pe_ddget2K P w K (hu_of hr) (pv 5) (pv 3) pe_int m2_by) (pe_op op_mulW (pv 2) (pv 4))) rfl)))
    (pss_one (ps_ret (C8.pe_c c_poly_from hr (by decide) (by rfl) (pa_cons (pv 5) pa_nil)))))), ?_⟩
    refine ⟨_, rfl, _, _, _, _, _, rfl, e1, cl1, no1, rfl, _, rfl, ⟨_, hT1⟩, ?_⟩
    intro D hD o D0
    have hbd1 : ∀ i, i ≤ vs1.length → i < sizeLine := fun i hi => Nat.lt_of_lt_of_le (show i < 64 by omega) (by decide)
    refine dcT_tup (K := K) (P := P) (w := w) (a := a1) (xs := vs1) (fun i H' => Same H H' ∧ DD P w K H' D (toKV (ts1.take i))) ⟨same_new hD, D0⟩ (fun i H' _ m => same_tup m.1 hT1) (fun i x H' hx m => ?_) (fun H1 m => ?_)
    · obtain ⟨s, hd⟩ := m
      obtain ⟨t, ht, r, k, rfl, t1, t2⟩ := paired_at hP1 hx
      have t1' := same_tup s t1
      have t2' := same_tup s t2
      have hlt : i < ts1.length := (List.getElem?_eq_some_iff.mp ht).1
      refine ⟨_, _, rfl, t1', rfl, _, _, rfl, _, _, rfl, rfl, rfl, _, rfl, _, rfl, k, _, t.1, rfl, hd, ?_, t2', fun o' d' kp => ⟨same_upd s hD, ?_⟩⟩
      · rw [length_toKV, List.length_take]
        exact hbd1 _ (by omega)
      · have hk : t.1 ∉ (ts1.take i).map (·.1) := fun hm => by
          have nd2 := g1.nd
          have e := congrArg (List.map (·.1)) (List.take_append_drop i ts1)
          rw [← e, List.map_append, List.nodup_append] at nd2
          refine nd2.2.2 _ hm t.1 ?_ rfl
          refine List.mem_map.mpr ⟨t, List.mem_of_getElem? (i := 0) ?_, rfl⟩
          rw [List.getElem?_drop]
          exact ht
        rw [take_snoc ht, show ts1.take i ++ [t] = ts1.take i ++ [(t.1, t.2)] from rfl, ← toKV_snoc t.2 hk]
        exact d' hd
    · obtain ⟨s, hd⟩ := m
      rw [hl1, List.take_length] at hd
      refine ⟨_, rfl, _, _, _, _, _, rfl, (s _ _ e2), cl2, no2, rfl, _, rfl, ⟨_, same_tup s hT2⟩, ?_⟩
      refine for_tup (K := K) (a := a2) (xs := vs2) (fun i σ H' => ∃ x3 x4 us, σ = [some (.ref p1), some (.ref p2), some (.int by'), x3, x4, some (.ref D)] ∧ Same H H' ∧ DD P w K H' D (toKV us) ∧ (us.map (·.1)).Nodup ∧ (∀ w, lin us w = lin ts1 w + by' * lin (ts2.take i) w) ∧
        nrm us ≤ nrm ts1 + by'.natAbs * nrm (ts2.take i) ∧ KeysOk n us ∧ us.length ≤ ts1.length + i) ⟨_, _, ts1, rfl, s, hd, g1.nd, fun w => by simp [lin], by simp [nrm], g1.keys, Nat.le_refl _⟩ (fun i σ H' _ ⟨_, _, _, _, s, _⟩ => same_tup s hT2) (fun i x σ H' hx m => ?_) (fun σ H' m => ?_)
      · obtain ⟨x3, x4, us, rfl, s, hd, nu, hli, hnn, hk, hln⟩ := m
        obtain ⟨t, ht, r, k, rfl, t1, t2⟩ := paired_at hP2 hx
        have t1' := same_tup s t1
        have t2' := same_tup s t2
        have htm := List.mem_of_getElem? ht
        have htl : i < ts2.length := (List.getElem?_eq_some_iff.mp ht).1
        have hsz : t.2.natAbs < 2 ^ 100000 := Nat.lt_of_le_of_lt (mem_nrm htm) hnr
        refine ⟨_, _, rfl, t1', rfl, _, _, rfl, _, _, rfl, rfl, ?_⟩
        refine ⟨_, rfl, _, rfl, ⟨_, hd⟩, _, rfl, _, _, t.1, rfl, hd, t2', ?_⟩
        refine ⟨_, rfl, _, rfl, _, _, rfl, rfl, wide_mul hby hsz (by decide) (by decide) (by decide), _, _, get_int us t.1, rfl, ?_⟩
        refine ⟨_, rfl, _, rfl, _, _, _, t.1, rfl, rfl, hd, ?_, t2', fun o' d' kp => ?_⟩
        · rw [length_toKV]
          exact Nat.lt_of_lt_of_le (show us.length < 64 by omega) (by decide)
        · refine ⟨_, _, addT us t.1 (by' * t.2), rfl, same_upd s hD, ?_, nodup_addT nu, fun w => ?_, ?_, hk.add ⟨g2.l4 t htm, g2.en t htm⟩, ?_⟩
          · rw [← putK_addT nu]
            exact d' hd
          · rw [lin_addT, hli, take_snoc ht, lin_append, lin_one]
            grind
          · refine Nat.le_trans (nrm_addT ..) ?_
            rw [take_snoc ht, nrm_append, nrm_one, Int.natAbs_mul, Nat.mul_add]
            omega
          · have := length_addT us t.1 (by' * t.2)
            omega
      · obtain ⟨x3, x4, us, rfl, s, hd, nu, hli, hnn, hk, hln⟩ := m
        rw [hl2, List.take_length] at hli hnn
        refine ⟨_, rfl, ?_⟩
        refine ⟨D, us, rfl, hd, nu, hk.bd hn, by omega, fun H2 p ts s2 hP hperm => ?_⟩
        obtain ⟨gp, gl, gn⟩ := PG.ofPerm nu hk hperm
        exact q H2 p ts (s.trans s2) hP gp (fun w => by rw [gl, hli]) (by rw [gn]; exact hnn)
theorem ok_plus {f : Addr} {fd : FuncData} (F : C8.Def K mg "plus" s_plus f fd) (b : Binds K fd ["one", "other"] []) (T : Txt K mg CP CR aN) (c_sum_with : C8.Cal P w K mg base 4 "sum_with" (spSum K CP CR) []) : C8.Cal P w K mg base 5 "plus" (spPlus K CP CR) [] := by
  refine C8.cal0 F b .nil sc_plus (fun vs H Q E h => ?_) (fun cdv A outer s H vs Q E hr h => ?_)
  · obtain ⟨p1, p2, ts1, ts2, n, rfl, _⟩ := h
    rfl
  · obtain ⟨p1, p2, ts1, ts2, n, rfl, h1, h2, g1, g2, hn, hlen, hnr, q⟩ := h
    have nd := sc_plus.nd
    refine ⟨_, (pss_one (ps_ret (C8.pe_c c_sum_with hr (by decide) (by rfl) (pa_cons (pv 0) (pa_cons (pv 1) (pa_cons pe_int pa_nil)))))), ?_⟩
    refine ⟨_, rfl, _, rfl, _, _, _, _, _, n, rfl, h1, h2, g1, g2, hn, hlen, (by decide +kernel), hnr, ?_⟩
    intro H' p ts s hP gp hl hnn
    exact q H' p ts s hP gp (fun w => by rw [hl]; omega) (by simpa using hnn)
theorem four {l : List Int} (h : l.length = 4) : ∃ a b c d, l = [a, b, c, d] := by
  match l, h with
  | [a, b, c, d], _ => exact ⟨a, b, c, d, rfl⟩
theorem ok_times {f : Addr} {fd : FuncData} (F : C8.Def K mg "times" s_times f fd) (b : Binds K fd ["one", "other"] []) (T : Txt K mg CP CR aN) (c_poly_from : C8.Cal P w K mg base 3 "poly_from" (spPolyFrom P w K CP CR) []) : C8.Cal P w K mg base 4 "times" (spTimes K CP CR) [] := by
  refine C8.cal0 F b .nil sc_times (fun vs H Q E h => ?_) (fun cdv A outer s H vs Q E hr h => ?_)
  · obtain ⟨p1, p2, ts1, ts2, n1, n2, rfl, _⟩ := h
    rfl
  · obtain ⟨p1, p2, ts1, ts2, n1, n2, rfl, ⟨C1, dx1, a1, c1, e1, vs1, hT1, hP1⟩, ⟨C2, dx2, a2, c2, e2, vs2, hT2, hP2⟩, g1, g2, hn, hlen, hnr1, hnr2, q⟩ := h
    obtain ⟨cl1, no1⟩ := fieldOk T c1
    obtain ⟨cl2, no2⟩ := fieldOk T c2
    have hl1 := paired_len hP1
    have hl2 := paired_len hP2
    have nd := sc_times.nd
    refine ⟨_, (pss_cons (ps_set (i := 2) nd rfl (Or.inl rfl) (pe_ddnewK P w K))
    (pss_cons (ps_for PassesOwn.never rfl (pi_tupK K (pe_fldK K (pv 0) rfl)) (pg_tup rfl (pgs_cons (pg_name (i := 3) nd rfl (Or.inl rfl)) (pgs_cons (pg_name (i := 4) nd rfl (Or.inl rfl)) pgs_nil)))
      (pss_one (ps_for PassesOwn.never rfl (pi_tupK K (pe_fldK K (pv 1) rfl)) (pg_tup rfl (pgs_cons (pg_name (i := 5) nd rfl (Or.inl rfl)) (pgs_cons (pg_name (i := 6) nd rfl (Or.inl rfl)) pgs_nil)))
        (pss_cons (ps_set (i := 7) nd rfl (Or.inl rfl) (pe_tup (pa_cons (pe_op op_add (pe_ix (ix_tupK K) (pv 3) pe_int (fun _ _ => rfl)) (pe_ix (ix_tupK K) (pv 5) pe_int (fun _ _ => rfl))) (pa_cons (pe_op op_add (pe_ix (ix_tupK K) (pv 3) pe_int (fun _ _ => rfl)) (pe_ix (ix_tupK K) (pv 5) pe_int (fun _ _ => rfl))) (pa_cons (pe_op op_add (pe_ix (ix_tupK K) (pv 3) pe_int (fun _ _ => rfl)) (pe_ix (ix_tupK K) (pv 5) pe_int (fun _ _ => rfl))) (pa_cons (pe_op op_add (pe_ix (ix_tupK K) (pv 3) pe_int (fun _ _ => rfl)) (pe_ix (ix_tupK K) (pv 5) pe_int (fun _ _ => rfl))) pa_nil))))))
          (pss_one (ps_ddsetK P w K (hu_of hr) (pv 2) (pv 7) (pe_op op_add (pe_ddget2K P w K (hu_of hr) (pv 2) (pv 7) pe_int m2_by) (pe_op op_mulW (pv 4) (pv 6))) rfl))))))
    (pss_one (ps_ret (C8.pe_c c_poly_from hr (by decide) (by rfl) (pa_cons (pv 2) pa_nil)))))), ?_⟩
    intro D hD o D0
    have s0 : Same H (upd H D o) := same_new hD
    refine ⟨_, rfl, _, _, _, _, _, rfl, (s0 _ _ e1), cl1, no1, rfl, _, rfl, ⟨_, same_tup s0 hT1⟩, ?_⟩
    refine for_tup (K := K) (a := a1) (xs := vs1) (fun i σ H' => ∃ x3 x4 x5 x6 x7 us, σ = [some (.ref p1), some (.ref p2), some (.ref D), x3, x4, x5, x6, x7] ∧ Same H H' ∧ DD P w K H' D (toKV us) ∧ (us.map (·.1)).Nodup ∧ (∀ w, lin us w = lin (ts1.take i) fun a => lin ts2 fun b => w (addP a b)) ∧
      nrm us ≤ nrm (ts1.take i) * nrm ts2 ∧ KeysOk (n1 + n2) us ∧ us.length ≤ i * ts2.length) ⟨_, _, _, _, _, [], rfl, s0, D0, List.nodup_nil, fun w => rfl, by simp [nrm], (fun q hq => nomatch hq), by simp⟩ (fun i σ H' _ ⟨_, _, _, _, _, _, _, s, _⟩ => same_tup s hT1) (fun i x σ H' hx m => ?_) (fun σ H' m => ?_)
    · obtain ⟨x3, x4, x5, x6, x7, us, rfl, s, hd, nu, hli, hnn, hk, hln⟩ := m
      obtain ⟨t, ht, r, k, rfl, t1, t2⟩ := paired_at hP1 hx
      have t1' := same_tup s t1
      have htm := List.mem_of_getElem? ht
      have hti : i < ts1.length := (List.getElem?_eq_some_iff.mp ht).1
      refine ⟨_, _, rfl, t1', rfl, _, _, rfl, _, _, rfl, rfl, ?_⟩
      refine ⟨_, rfl, _, _, _, _, _, rfl, (s _ _ e2), cl2, no2, rfl, _, rfl, ⟨_, same_tup s hT2⟩, ?_⟩
      refine for_tup (K := K) (a := a2) (xs := vs2) (fun j σ H' => ∃ x5 x6 x7 us, σ = [some (.ref p1), some (.ref p2), some (.ref D), some (.ref k), some (.int t.2), x5, x6, x7] ∧ Same H H' ∧ DD P w K H' D (toKV us) ∧ (us.map (·.1)).Nodup ∧
        (∀ w, lin us w = (lin (ts1.take i) fun a => lin ts2 fun b => w (addP a b)) + t.2 * lin (ts2.take j) fun b => w (addP t.1 b)) ∧
        nrm us ≤ nrm (ts1.take i) * nrm ts2 + t.2.natAbs * nrm (ts2.take j) ∧ KeysOk (n1 + n2) us ∧ us.length ≤ i * ts2.length + j) ⟨_, _, _, us, rfl, s, hd, nu, fun w => by rw [hli]; simp [lin], by simpa [nrm] using hnn, hk, hln⟩ (fun i σ H' _ ⟨_, _, _, _, _, s, _⟩ => same_tup s hT2) (fun j y σ H2 hy m => ?_) (fun σ H2 m => ?_)
      · obtain ⟨x5, x6, x7, us, rfl, s, hd, nu, hli, hnn, hk, hln⟩ := m
        obtain ⟨u, hu, r2, k2, rfl, u1, u2⟩ := paired_at hP2 hy
        have u1' := same_tup s u1
        have hum := List.mem_of_getElem? hu
        have huj : j < ts2.length := (List.getElem?_eq_some_iff.mp hu).1
        obtain ⟨A0, A1, A2, A3, eA⟩ := four (g1.l4 t htm)
        obtain ⟨B0, B1, B2, B3, eB⟩ := four (g2.l4 u hum)
        have k1' : SqT K H2 k [.int A0, .int A1, .int A2, .int A3] := by
          have := same_tup s t2
          rw [eA] at this
          exact this
        have k2' : SqT K H2 k2 [.int B0, .int B1, .int B2, .int B3] := by
          have := same_tup s u2
          rw [eB] at this
          exact this
        refine ⟨_, _, rfl, u1', rfl, _, _, rfl, _, _, rfl, rfl, ?_⟩
        refine ⟨_, rfl, _, _, _, _, rfl, rfl, k1', (by rfl), _, rfl, _, _, _, _, rfl, rfl, k2', (by rfl), _, _, rfl, rfl, _, rfl, _, _, _, _, rfl, rfl, k1', (by rfl), _, rfl, _, _, _, _, rfl, rfl, k2', (by rfl), _, _, rfl, rfl, _, rfl, _, _, _, _, rfl, rfl, k1', (by rfl), _, rfl, _, _, _, _, rfl, rfl, k2', (by rfl), _, _, rfl, rfl, _, rfl, _, _, _, _, rfl, rfl, k1', (by rfl), _, rfl, _, _, _, _, rfl, rfl, k2', (by rfl), _, _, rfl, rfl, (by show 4 ≤ sizeLine; decide), ?_⟩
        intro pw hpw
        have s3 : Same H (upd H2 pw (.tup [.int (A0 + B0), .int (A1 + B1), .int (A2 + B2), .int (A3 + B3)])) := s.trans (same_new hpw)
        have hd3 := hd.same (same_new (o := .tup [.int (A0 + B0), .int (A1 + B1), .int (A2 + B2), .int (A3 + B3)]) hpw)
        have ek : addP t.1 u.1 = [A0 + B0, A1 + B1, A2 + B2, A3 + B3] := by rw [eA, eB] <;> rfl
        have hkt : SqT K (upd H2 pw (.tup [.int (A0 + B0), .int (A1 + B1), .int (A2 + B2), .int (A3 + B3)])) pw ((addP t.1 u.1).map V.int) := by
          rw [ek]
          exact sqT_at
        have sz1 : t.2.natAbs < 2 ^ 100000 := Nat.lt_of_le_of_lt (mem_nrm htm) hnr1
        have sz2 : u.2.natAbs < 2 ^ 100000 := Nat.lt_of_le_of_lt (mem_nrm hum) hnr2
        have hus : us.length < 64 := by
          have h1 : (i + 1) * ts2.length ≤ ts1.length * ts2.length := Nat.mul_le_mul_right _ hti
          rw [Nat.add_mul] at h1
          omega
        refine ⟨_, rfl, _, rfl, ⟨_, hd3⟩, _, rfl, _, _, addP t.1 u.1, rfl, hd3, hkt, ?_⟩
        refine ⟨_, rfl, _, rfl, _, _, rfl, rfl, wide_mul sz1 sz2 (by decide) (by decide) (by decide), _, _, get_int us _, rfl, ?_⟩
        refine ⟨_, rfl, _, rfl, _, _, _, addP t.1 u.1, rfl, rfl, hd3, ?_, hkt, fun o' d' kp => ?_⟩
        · rw [length_toKV]
          exact Nat.lt_of_lt_of_le hus (by decide)
        · refine ⟨_, _, _, addT us (addP t.1 u.1) (t.2 * u.2), rfl, same_upd s3 hD, ?_, nodup_addT nu, fun w => ?_, ?_, hk.add ?_, ?_⟩
          · rw [← putK_addT nu]
            exact d' hd3
          · rw [lin_addT, hli, take_snoc hu, lin_append, lin_one]
            grind
          · refine Nat.le_trans (nrm_addT ..) ?_
            rw [take_snoc hu, nrm_append, nrm_one, Int.natAbs_mul, Nat.mul_add]
            omega
          · rw [ek]
            have h1 := g1.en t htm
            have h2 := g2.en u hum
            rw [eA] at h1
            rw [eB] at h2
            refine ⟨rfl, fun x hx => ?_⟩
            simp only [List.mem_cons, List.not_mem_nil, or_false] at hx h1 h2
            rcases hx with rfl | rfl | rfl | rfl
            · have := h1 A0 (.inl rfl)
              have := h2 B0 (.inl rfl)
              omega
            · have := h1 A1 (.inr (.inl rfl))
              have := h2 B1 (.inr (.inl rfl))
              omega
            · have := h1 A2 (.inr (.inr (.inl rfl)))
              have := h2 B2 (.inr (.inr (.inl rfl)))
              omega
            · have := h1 A3 (.inr (.inr (.inr rfl)))
              have := h2 B3 (.inr (.inr (.inr rfl)))
              omega
          · have := length_addT us (addP t.1 u.1) (t.2 * u.2)
            omega
      · obtain ⟨x5, x6, x7, us, rfl, s, hd, nu, hli, hnn, hk, hln⟩ := m
        rw [hl2, List.take_length] at hli hnn
        refine ⟨_, _, _, _, _, us, rfl, s, hd, nu, fun w => ?_, ?_, hk, ?_⟩
        · rw [hli, take_snoc ht, lin_append, lin_one]
        · rw [take_snoc ht, nrm_append, nrm_one, Nat.add_mul]
          exact hnn
        · rw [hl2] at hln
          rw [Nat.add_mul]
          omega
    · obtain ⟨x3, x4, x5, x6, x7, us, rfl, s, hd, nu, hli, hnn, hk, hln⟩ := m
      rw [hl1, List.take_length] at hli hnn
      rw [hl1] at hln
      refine ⟨_, rfl, ?_⟩
      refine ⟨D, us, rfl, hd, nu, hk.bd hn, by omega, fun H2 p ts s2 hP hperm => ?_⟩
      obtain ⟨gp, gl, gn⟩ := PG.ofPerm nu hk hperm
      exact q H2 p ts (s.trans s2) hP gp (fun w => by rw [gl, hli]) (by rw [gn]; exact hnn)
end Bx

/-! Bx W4: degrees, counts by one unknown, the unknowns that a polynomial has. -/
namespace Bx
open PySem PySem.Spec PyProof.Rows L2
theorem slA_from {K : PySem.W.Frag} {H : Hp} {a : Addr} {ns : List Int} {m : Nat} {Q : VK} (h : SqT K H a (ns.map V.int)) (hm : m ≤ ns.length) (q : ∀ H' p, Same H H' → SqT K H' p ((ns.drop m).map V.int) → Q (.ref p) H') : rSlA K (.ref a) (some (m : Int)) none H Q := by
  have e0 : HT.sIx (ns.map V.int).length 0 (some (m : Int)) = m := by rw [HT.sIx_nat, List.length_map]; omega
  refine ⟨a, _, rfl, h, fun c => ?_, fun c p hp => q _ p (same_new hp) ?_⟩
  · rw [e0] at c
    refine q H a (Same.refl _) ?_
    rw [c.1]
    exact h
  · have e : cutV (ns.map V.int) (some (m : Int)) none = (ns.drop m).map V.int := by
      unfold cutV
      rw [e0, HT.sIx_none, List.take_of_length_le (by rw [List.length_drop]; omega), List.map_drop]
    rw [e]
    exact sqT_at
theorem slA_to {K : PySem.W.Frag} {H : Hp} {a : Addr} {ns : List Int} {m : Nat} {Q : VK} (h : SqT K H a (ns.map V.int)) (hm : m ≤ ns.length) (q : ∀ H' p, Same H H' → SqT K H' p ((ns.take m).map V.int) → Q (.ref p) H') : rSlA K (.ref a) none (some (m : Int)) H Q := by
  have e0 : HT.sIx (ns.map V.int).length (ns.map V.int).length (some (m : Int)) = m := by rw [HT.sIx_nat, List.length_map]; omega
  refine ⟨a, _, rfl, h, fun c => ?_, fun c p hp => q _ p (same_new hp) ?_⟩
  · rw [e0, List.length_map] at c
    refine q H a (Same.refl _) ?_
    rw [c.2, List.take_length]
    exact h
  · have e : cutV (ns.map V.int) none (some (m : Int)) = (ns.take m).map V.int := by
      unfold cutV
      rw [e0, HT.sIx_none, List.drop_zero, Nat.sub_zero, List.map_take]
    rw [e]
    exact sqT_at
theorem catA_ints {K : PySem.W.Frag} {H : Hp} {a b : Addr} {ns ms : List Int} {Q : VK} (h1 : SqT K H a (ns.map V.int)) (h2 : SqT K H b (ms.map V.int)) (hl : ns.length + ms.length ≤ 1000) (q : ∀ H' p, Same H H' → SqT K H' p ((ns ++ ms).map V.int) → Q (.ref p) H') : rCatA K (.ref a) (.ref b) H Q := by
  refine ⟨a, b, _, _, rfl, rfl, h1, h2, ?_, fun e => ?_, fun _ e => ?_, fun _ _ p hp => q _ p (same_new hp) ?_⟩
  · rw [List.length_map, List.length_map]
    exact Nat.le_trans hl (by decide)
  · have e' : ns = [] := List.map_eq_nil_iff.mp e
    subst e'
    exact q H b (Same.refl _) h2
  · have e' : ms = [] := List.map_eq_nil_iff.mp e
    subst e'
    refine q H a (Same.refl _) ?_
    rw [List.append_nil]
    exact h1
  · rw [List.map_append]
    exact sqT_at
/-- the part of the terms with j at place k, without that place -/
def cutT (k j : Nat) (ts : List Tm) : List Tm := (ts.filter fun t => decide (gk t.1 k = j)).map fun t => (t.1.set k 0, t.2)
theorem lin_cutT (k j : Nat) (ts : List Tm) (w : List Int → Int) : lin (cutT k j ts) w = lin ts (fun q => if gk q k = j then w (q.set k 0) else 0) := by
  unfold cutT
  induction ts with
  | nil => rfl
  | cons t r ih =>
    rw [List.filter_cons, lin_cons]
    by_cases h : gk t.1 k = j
    · rw [if_pos (by simp [h]), List.map_cons, lin_cons, ih, if_pos h]
    · rw [if_neg (by simp [h]), ih, if_neg h]
      omega
theorem nrm_cutT (k j : Nat) (ts : List Tm) : nrm (cutT k j ts) ≤ nrm ts := by
  unfold cutT
  induction ts with
  | nil => exact Nat.le_refl _
  | cons t r ih =>
    rw [List.filter_cons, nrm_cons]
    by_cases h : gk t.1 k = j
    · rw [if_pos (by simp [h]), List.map_cons, nrm_cons]
      show t.2.natAbs + _ ≤ _
      omega
    · rw [if_neg (by simp [h])]
      omega
theorem length_cutT (k j : Nat) (ts : List Tm) : (cutT k j ts).length ≤ ts.length := by
  unfold cutT
  rw [List.length_map]
  exact List.length_filter_le ..
theorem mem_cutT {k j : Nat} {ts : List Tm} {t : Tm} (h : t ∈ cutT k j ts) : ∃ u ∈ ts, gk u.1 k = j ∧ t = (u.1.set k 0, u.2) := by
  obtain ⟨u, hu, e⟩ := List.mem_map.mp h
  obtain ⟨h1, h2⟩ := List.mem_filter.mp hu
  exact ⟨u, h1, by simpa using h2, e.symm⟩
theorem set_inj {q p : List Int} {k : Nat} (hq : q.length = 4) (hp : p.length = 4) (hk : k < 4) (h0 : ∀ x ∈ q, 0 ≤ x) (h1 : ∀ x ∈ p, 0 ≤ x) (hg : gk q k = gk p k) (e : q.set k 0 = p.set k 0) : q = p := by
  apply List.ext_getElem?
  intro n
  by_cases c : k = n
  · subst c
    have a1 : q[k]? = some q[k] := List.getElem?_eq_getElem (by omega)
    have a2 : p[k]? = some p[k] := List.getElem?_eq_getElem (by omega)
    rw [a1, a2]
    unfold gk at hg
    rw [List.getD_eq_getElem?_getD, List.getD_eq_getElem?_getD, a1, a2] at hg
    have z1 := h0 q[k] (List.getElem_mem _)
    have z2 := h1 p[k] (List.getElem_mem _)
    have hg : q[k].toNat = p[k].toNat := hg
    congr 1
    omega
  · have := congrArg (fun l => l[n]?) e
    simpa [List.getElem?_set_ne c] using this
theorem PG.cut {n : Int} {ts : List Tm} {k j : Nat} (p : PG n ts) (hk : k < 4) (hn : 0 ≤ n) : PG n (cutT k j ts) := by
  refine ⟨?_, fun t ht => ?_, fun t ht => ?_, fun t ht x hx => ?_⟩
  · unfold cutT
    rw [List.map_map, List.nodup_iff_pairwise_ne, List.pairwise_map]
    have nd := p.nd
    rw [List.nodup_iff_pairwise_ne, List.pairwise_map] at nd
    have nd2 : (ts.filter fun t => decide (gk t.1 k = j)).Pairwise fun a b => a.1 ≠ b.1 := nd.sublist List.filter_sublist
    refine nd2.imp_of_mem fun {a b} ha hb hne e => hne ?_
    obtain ⟨a1, a2⟩ := List.mem_filter.mp ha
    obtain ⟨b1, b2⟩ := List.mem_filter.mp hb
    have a2 : gk a.1 k = j := by simpa using a2
    have b2 : gk b.1 k = j := by simpa using b2
    exact set_inj (p.l4 a a1) (p.l4 b b1) hk (fun x hx => (p.en a a1 x hx).1) (fun x hx => (p.en b b1 x hx).1) (a2.trans b2.symm) e
  · obtain ⟨u, hu, _, rfl⟩ := mem_cutT ht
    exact p.nz u hu
  · obtain ⟨u, hu, _, rfl⟩ := mem_cutT ht
    show (u.1.set k 0).length = 4
    rw [List.length_set]
    exact p.l4 u hu
  · obtain ⟨u, hu, _, rfl⟩ := mem_cutT ht
    rcases List.mem_or_eq_of_mem_set hx with h | h
    · exact p.en u hu x h
    · omega
theorem cutT_snoc (k j : Nat) (ts : List Tm) (t : Tm) : cutT k j (ts ++ [t]) = if gk t.1 k = j then cutT k j ts ++ [(t.1.set k 0, t.2)] else cutT k j ts := by
  unfold cutT
  rw [List.filter_append, List.map_append]
  by_cases h : gk t.1 k = j
  · rw [if_pos h]
    simp [h]
  · rw [if_neg h]
    simp [h]
def spDegree (K : PySem.W.Frag) (CP CR : Addr) : Sp := fun vs H Q _ => ∃ (p : Addr) (k : Nat) (ts : List Tm) (D : Nat), vs = [.ref p, .int k] ∧ k < 4 ∧ PolyAt K CP CR H p ts ∧ (∀ t ∈ ts, t.1.length = 4 ∧ (∀ x ∈ t.1, 0 ≤ x) ∧ gk t.1 k ≤ D) ∧ (D = 0 ∨ ∃ t ∈ ts, gk t.1 k = D) ∧ ts.length < 64 ∧
  ∀ H', Same H H' → Q (.int D) H'
def spWithout (K : PySem.W.Frag) : Sp := fun vs H Q _ => ∃ (q : Addr) (k : Nat) (ps : List Int), vs = [.ref q, .int k] ∧ k < 4 ∧ SqT K H q (ps.map V.int) ∧ ps.length = 4 ∧ ∀ H' p, Same H H' → SqT K H' p ((ps.set k 0).map V.int) → Q (.ref p) H'
def spCountsBy (K : PySem.W.Frag) (CP CR : Addr) : Sp := fun vs H Q _ => ∃ (p : Addr) (k : Nat) (ts : List Tm) (D : Nat) (n : Int), vs = [.ref p, .int k] ∧ k < 4 ∧ PolyAt K CP CR H p ts ∧ PG n ts ∧ 0 ≤ n ∧ n ≤ 63 ∧ (∀ t ∈ ts, gk t.1 k ≤ D) ∧ (D = 0 ∨ ∃ t ∈ ts, gk t.1 k = D) ∧ D ≤ 60 ∧ ts.length < 64 ∧
  ∀ H' l ps, Same H H' → SqL K H' l ps → ps.length = D + 1 → (∀ (j : Nat) v, ps[j]? = some v → ∃ p c, v = .ref p ∧ PolyAt K CP CR H' p c ∧ PG n c ∧ (∀ w, lin c w = lin ts (fun q => if gk q k = j then w (q.set k 0) else 0)) ∧ nrm c ≤ nrm ts ∧ c.length ≤ ts.length) → Q (.ref l) H'
def spIsIn (K : PySem.W.Frag) (CP CR : Addr) : Sp := fun vs H Q _ => ∃ (p : Addr) (m : Nat) (ts : List Tm), vs = [.ref p, .int m] ∧ m ≤ 3 ∧ PolyAt K CP CR H p ts ∧ (∀ t ∈ ts, t.1.length = 4 ∧ t.1.drop m = ([0, 0, 0, 0] : List Int).drop m) ∧ ts.length < 64 ∧ ∀ H', Same H H' → Q (.bl true) H'
--SP poly_from := spPolyFrom P w K CP CR
--SP degree_by := spDegree K CP CR
--SP without := spWithout K
--SP counts_by := spCountsBy K CP CR
--SP is_in := spIsIn K CP CR
variable {P : Program} {w : World} {K : PySem.W.Frag} {mg : Str → Option Value} {base : Heap} {CP CR aN : Addr}
theorem ok_degree_by {f : Addr} {fd : FuncData} (F : C8.Def K mg "degree_by" s_degree_by f fd) (b : Binds K fd ["poly", "k"] []) (T : Txt K mg CP CR aN) : C8.Cal P w K mg base 1 "degree_by" (spDegree K CP CR) [] := by
  refine C8.cal0 F b .nil sc_degree_by (fun vs H Q E h => ?_) (fun cdv A outer s H vs Q E hr h => ?_)
  · obtain ⟨p, k, ts, D, rfl, _⟩ := h
    rfl
  · obtain ⟨p, k, ts, D', rfl, hk, ⟨C1, dx1, a1, c1, e1, vs1, hT1, hP1⟩, hok, hmax, hlen, q⟩ := h
    obtain ⟨cl1, no1⟩ := fieldOk T c1
    have hl1 := paired_len hP1
    have nd := sc_degree_by.nd
    refine ⟨_, (pss_one (ps_ret (pe_callB (cr_maxK K rfl) (by rfl) T.max (by decide +kernel) (pa_cons (pe_op op_cat (pe_lst (pa_cons pe_int pa_nil)) (pe_lc (own := [("powers", 2), ("count", 3)]) (g := (gTup K 2 (gCons (gName 2) (gCons (gName 3) gNil)))) (tt := tYes) rfl nd (pi_tupK K (pe_fldK K (pv 0) rfl)) (blkOk_by (own := [("powers", 2), ("count", 3)]) (N := ["poly", "k", "powers", "count"]) (sc := C8.fnScope s_degree_by) (by decide +kernel)) (fun _ _ _ _ _ => (pg_tup rfl (pgs_cons (pg_name (i := 2) nd rfl (Or.inl rfl)) (pgs_cons (pg_name (i := 3) nd rfl (Or.inl rfl)) pgs_nil)))) (fun _ _ _ _ _ => pts_nil) (fun _ _ _ _ _ => (pe_ix (ix_tupK K) (pv 2) (pv 1) (fun _ _ => rfl))))) pa_nil)))), ?_⟩
    refine ⟨(by show 1 ≤ sizeLine; decide), fun l0 hl0 => ?_⟩
    have s0 : Same H (upd H l0 (.lst [.int 0])) := same_new hl0
    refine ⟨_, rfl, _, _, _, _, _, rfl, (s0 _ _ e1), cl1, no1, rfl, _, rfl, ⟨_, same_tup s0 hT1⟩, ?_⟩
    intro D hD
    have hT1' := same_tup s0 hT1
    refine lc_tup (K := K) (a := a1) (xs := vs1) (fun i H' => H' = upd (upd H l0 (.lst [.int 0])) D (.lst (((ts.take i).map fun t => t.1.getD k 0).map V.int))) rfl (fun i H' _ e => by rw [e]; exact same_tup (same_new hD) hT1') (fun i x H' hx e => ?_) (fun H' e => ?_)
    · subst e
      obtain ⟨t, ht, r, b, rfl, t1, t2⟩ := paired_at hP1 hx
      have hti : i < ts.length := (List.getElem?_eq_some_iff.mp ht).1
      have s1 : Same H (upd (upd H l0 (.lst [.int 0])) D (.lst (((ts.take i).map fun t => t.1.getD k 0).map V.int))) := s0.trans (same_new hD)
      have t2' := same_tup s1 t2
      have hkl : k < t.1.length := by rw [(hok t (List.mem_of_getElem? ht)).1]; exact hk
      have hat : atI (t.1.map V.int) ((k : Nat) : Int) = some (.int (t.1.getD k 0)) := atI_nat (by rw [List.getElem?_map, List.getElem?_eq_getElem hkl, List.getD_eq_getElem?_getD, List.getElem?_eq_getElem hkl] <;> rfl)
      refine ⟨_, _, rfl, same_tup s1 t1, rfl, _, _, rfl, _, _, rfl, rfl, rfl, ?_⟩
      refine ⟨_, rfl, _, rfl, _, _, _, _, rfl, rfl, t2', hat, ?_⟩
      refine ⟨_, upd_same, ?_, ?_⟩
      · rw [List.length_map, List.length_map, List.length_take]
        exact Nat.lt_of_lt_of_le (show min i ts.length < 64 by omega) (by decide)
      · rw [upd_upd, take_snoc ht, List.map_append, List.map_append] <;> rfl
    · subst e
      have e0 : (upd (upd H l0 (.lst [.int 0])) D (.lst (((ts.take vs1.length).map fun t => t.1.getD k 0).map V.int))) l0 = some (.lst [.int 0]) := same_new hD _ _ upd_same
      refine ⟨l0, D, _, _, rfl, rfl, e0, upd_same, ?_, fun lc hlc => ?_⟩
      · rw [List.length_map, List.length_map, List.length_take]
        exact Nat.le_trans (show 1 + min vs1.length ts.length ≤ 65 by omega) (by decide)
      · refine ⟨lc, 0 :: (ts.take vs1.length).map fun t => t.1.getD k 0, rfl, ?_, by simp, fun m hm hle => ?_⟩
        · rw [List.map_cons]
          exact sqL_at
        · rw [hl1, List.take_length] at hm hle
          have val : ∀ t ∈ ts, t.1.getD k 0 = ((gk t.1 k : Nat) : Int) := fun t ht => by
            have hkl : k < t.1.length := by rw [(hok t ht).1]; exact hk
            have h0 := (hok t ht).2.1 t.1[k] (List.getElem_mem _)
            unfold gk
            rw [List.getD_eq_getElem?_getD, List.getElem?_eq_getElem hkl]
            show t.1[k] = ((t.1[k].toNat : Nat) : Int)
            omega
          have hmD : m ≤ (D' : Int) := by
            rcases List.mem_cons.mp hm with e | hm
            · omega
            · obtain ⟨t, ht, rfl⟩ := List.mem_map.mp hm
              have := (hok t ht).2.2
              rw [val t ht]
              omega
          have hDm : (D' : Int) ≤ m := by
            refine hle _ ?_
            rcases hmax with e | ⟨t, ht, e⟩
            · rw [e]
              exact List.mem_cons_self
            · refine List.mem_cons_of_mem _ (List.mem_map.mpr ⟨t, ht, ?_⟩)
              rw [val t ht, e]
          have e : m = (D' : Int) := by omega
          subst e
          exact q _ ((s0.trans (same_new hD)).trans (same_new hlc))
theorem ok_without {f : Addr} {fd : FuncData} (F : C8.Def K mg "without" s_without f fd) (b : Binds K fd ["powers", "k"] []) (T : Txt K mg CP CR aN) : C8.Cal P w K mg base 1 "without" (spWithout K) [] := by
  refine C8.cal0 F b .nil sc_without (fun vs H Q E h => ?_) (fun cdv A outer s H vs Q E hr h => ?_)
  · obtain ⟨q, k, ps, rfl, _⟩ := h
    rfl
  · obtain ⟨r, k, ps, rfl, hk, h1, hl, q⟩ := h
    have nd := sc_without.nd
    refine ⟨_, (pss_one (ps_ret (pe_op (op_catAK K) (pe_op (op_catAK K) (pe_slice (sl_tupAK K) (pv 0) po_none (po_some (pv 1))) (pe_tup (pa_cons pe_int pa_nil))) (pe_slice (sl_tupAK K) (pv 0) (po_some (pe_op op_add (pv 1) pe_int)) po_none)))), ?_⟩
    refine ⟨_, rfl, _, rfl, _, rfl, ?_⟩
    refine slA_to h1 (by omega) fun H1 p1 s1 hp1 => ?_
    refine ⟨(by show 1 ≤ sizeLine; decide), fun p0 hp0 => ?_⟩
    have s2 : Same H1 (upd H1 p0 (.tup [.int 0])) := same_new hp0
    refine catA_ints (ms := [0]) (same_tup s2 hp1) sqT_at (by simp; omega) fun H3 p3 s3 hp3 => ?_
    have s13 := s1.trans (s2.trans s3)
    refine ⟨_, rfl, _, rfl, _, _, rfl, rfl, _, rfl, ?_⟩
    unfold tNoPart
    have ek : ((k : Nat) : Int) + 1 = ((k + 1 : Nat) : Int) := by omega
    rw [ek]
    refine slA_from (same_tup s13 h1) (by omega) fun H4 p4 s4 hp4 => ?_
    refine catA_ints (same_tup s4 hp3) hp4 (by simp; omega) fun H5 p5 s5 hp5 => ?_
    refine q H5 p5 (s13.trans (s4.trans s5)) ?_
    have e : ps.take k ++ [0] ++ ps.drop (k + 1) = ps.set k 0 := by
      rw [List.set_eq_take_append_cons_drop, if_pos (by omega), List.append_assoc] <;> rfl
    rw [← e]
    exact hp5
theorem not_mem_take {ts : List Tm} (nd : (ts.map (·.1)).Nodup) {i : Nat} {t : Tm} (h : ts[i]? = some t) : t.1 ∉ (ts.take i).map (·.1) := fun hm => by
  have e := congrArg (List.map (·.1)) (List.take_append_drop i ts)
  rw [← e, List.map_append, List.nodup_append] at nd
  refine nd.2.2 _ hm t.1 (List.mem_map.mpr ⟨t, List.mem_of_getElem? (i := 0) ?_, rfl⟩) rfl
  rw [List.getElem?_drop]
  exact h
theorem nodup_at {α : Type} {l : List α} (nd : l.Nodup) {i j : Nat} {x : α} (h1 : l[i]? = some x) (h2 : l[j]? = some x) : i = j := by
  obtain ⟨h1l, e1⟩ := List.getElem?_eq_some_iff.mp h1
  obtain ⟨h2l, e2⟩ := List.getElem?_eq_some_iff.mp h2
  have p := List.pairwise_iff_getElem.mp (List.nodup_iff_pairwise_ne.mp nd)
  apply Classical.byContradiction
  intro hne
  rcases Nat.lt_or_gt_of_ne hne with h | h
  · exact p i j h1l h2l h (e1.trans e2.symm)
  · exact p j i h2l h1l h (e2.trans e1.symm)
theorem nat_at {t : List Int} {k : Nat} (hk : k < t.length) (h0 : ∀ x ∈ t, 0 ≤ x) : atI (t.map V.int) ((k : Nat) : Int) = some (.int ((gk t k : Nat) : Int)) := by
  refine atI_nat ?_
  have z := h0 t[k] (List.getElem_mem _)
  rw [List.getElem?_map, List.getElem?_eq_getElem hk]
  unfold gk
  rw [List.getD_eq_getElem?_getD, List.getElem?_eq_getElem hk]
  show some (V.int t[k]) = some (V.int ((t[k].toNat : Nat) : Int))
  rw [Int.toNat_of_nonneg z]
theorem ok_counts_by {f : Addr} {fd : FuncData} (F : C8.Def K mg "counts_by" s_counts_by f fd) (b : Binds K fd ["poly", "k"] []) (T : Txt K mg CP CR aN) (c_degree_by : C8.Cal P w K mg base 1 "degree_by" (spDegree K CP CR) []) (c_poly_from : C8.Cal P w K mg base 3 "poly_from" (spPolyFrom P w K CP CR) []) (c_without : C8.Cal P w K mg base 1 "without" (spWithout K) []) : C8.Cal P w K mg base 4 "counts_by" (spCountsBy K CP CR) [] := by
  refine C8.cal0 F b .nil sc_counts_by (fun vs H Q E h => ?_) (fun cdv A outer s H vs Q E hr h => ?_)
  · obtain ⟨p, k, ts, D, n, rfl, _⟩ := h
    rfl
  · obtain ⟨p, k, ts, D', n, rfl, hk, hPoly, g, hn0, hn, hmaxl, hmax, hD60, hlen, q⟩ := h
    have nd := sc_counts_by.nd
    refine ⟨_, (pss_cons (ps_setLc (i := 2) (own := [("power_here", 5)]) (g := (gName 5)) (tt := tYes) rfl nd rfl rfl (sw_true rfl rfl rfl (by decide +kernel)) (pi_range1 (by rfl) T.range (pa_cons (pe_op op_add (C8.pe_c c_degree_by hr (by decide) (by rfl) (pa_cons (pv 0) (pa_cons (pv 1) pa_nil))) pe_int) pa_nil)) (blkOk_by (own := [("power_here", 5)]) (N := ["poly", "k", "found", "powers", "count", "power_here", "parts"]) (sc := C8.fnScope s_counts_by) (by decide +kernel)) (fun _ _ _ _ _ => (pg_name (i := 5) nd rfl (Or.inl rfl))) (fun _ _ _ _ _ => pts_nil) (fun _ _ _ _ _ => (pe_ddnewK P w K)))
    (pss_cons (ps_for PassesOwn.never rfl (pi_tupK K (pe_fldK K (pv 0) rfl)) (pg_tup rfl (pgs_cons (pg_name (i := 3) nd rfl (Or.inl rfl)) (pgs_cons (pg_name (i := 4) nd rfl (Or.inl rfl)) pgs_nil)))
      (pss_one (ps_ddsetK P w K (hu_of hr) (pe_ix (ix_listK K) (pv 2) (pe_ix (ix_tupK K) (pv 3) (pv 1) (fun _ _ => rfl)) (fun _ _ => rfl)) (C8.pe_c c_without hr (by decide) (by rfl) (pa_cons (pv 3) (pa_cons (pv 1) pa_nil))) (pv 4) rfl)))
    (pss_one (ps_ret (pe_lc (own := [("parts", 6)]) (g := (gName 6)) (tt := tYes) rfl nd (pi_list (pv 2)) (blkOk_by (own := [("parts", 6)]) (N := ["poly", "k", "found", "powers", "count", "power_here", "parts"]) (sc := C8.fnScope s_counts_by) (by decide +kernel)) (fun _ _ _ _ _ => (pg_name (i := 6) nd rfl (Or.inl rfl))) (fun _ _ _ _ _ => pts_nil) (fun _ _ _ _ _ => (C8.pe_c c_poly_from hr (by decide) (by rfl) (pa_cons (pv 6) pa_nil)))))))), ?_⟩
    have hok : ∀ t ∈ ts, t.1.length = 4 ∧ (∀ x ∈ t.1, 0 ≤ x) ∧ gk t.1 k ≤ D' := fun t ht => ⟨g.l4 t ht, fun x hx => (g.en t ht x hx).1, hmaxl t ht⟩
    refine ⟨_, rfl, _, rfl, _, _, _, _, rfl, hk, hPoly, hok, hmax, hlen, ?_⟩
    intro H1 s1
    have eN : (((D' : Nat) : Int) + 1).toNat = D' + 1 := by omega
    refine ⟨_, _, rfl, rfl, _, rfl, (by omega), (by omega), ?_⟩
    intro Dl hDl
    refine lc_range (lo := 0) (n := (((D' : Nat) : Int) + 1).toNat) (fun i H' => Same H1 H' ∧ ∃ ds : List Addr, H' Dl = some (.lst (ds.map V.ref)) ∧ ds.length = i ∧ ds.Nodup ∧ (∀ d ∈ ds, H1 d = none) ∧ ∀ d ∈ ds, DD P w K H' d []) ⟨same_new hDl, [], upd_same, rfl, List.nodup_nil, (fun d hd => nomatch hd), (fun d hd => nomatch hd)⟩ (fun i H' hi m => ?_) (fun H' m => ?_)
    · obtain ⟨s, ds, e, hl, hnd, hnew, hdd⟩ := m
      refine ⟨rfl, fun d hd o D0 => ?_⟩
      have sd : Same H' (upd H' d o) := same_new hd
      have e' := sd _ _ e
      have u : Ste (upd H' d o) (upd (upd H' d o) Dl (.lst (ds.map V.ref ++ [.ref d]))) := Ste.upd e'
      have hnin : d ∉ ds := fun hm => by
        obtain ⟨xs, oo, e2, _⟩ := hdd d hm
        rw [hd] at e2
        cases e2
      refine ⟨_, e', ?_, same_upd (s.trans sd) hDl, ds ++ [d], ?_, by simp [hl], ?_, ?_, ?_⟩
      · rw [List.length_map, hl]
        exact Nat.lt_of_lt_of_le (show i < 64 by omega) (by decide)
      · rw [List.map_append]
        exact upd_same
      · rw [List.nodup_append]
        exact ⟨hnd, by simp, fun a ha b hb e => hnin (by have : b = d := by simpa using hb
                                                         rw [← this, ← e]; exact ha)⟩
      · intro a ha
        rcases List.mem_append.mp ha with ha | ha
        · exact hnew a ha
        · have : a = d := by simpa using ha
          rw [this]
          exact s.free hd
      · intro a ha
        rcases List.mem_append.mp ha with ha | ha
        · exact u.dd ((hdd a ha).same sd)
        · have : a = d := by simpa using ha
          rw [this]
          exact u.dd D0
    · obtain ⟨s, ds, e, hl, hnd, hnew, hdd⟩ := m
      rw [eN] at hl
      have hne : ∀ d ∈ ds, ∀ H2 : Hp, H2 Dl = some (.lst (ds.map V.ref)) → ∀ kvs, DD P w K H2 d kvs → Dl ≠ d := fun d hd H2 e2 kvs dd z => by
        obtain ⟨xs, oo, e3, _⟩ := dd
        rw [← z, e2] at e3
        cases e3
      obtain ⟨C1, dx1, a1, c1, e1, vs1, hT1, hP1⟩ := hPoly.same s1
      obtain ⟨cl1, no1⟩ := fieldOk T c1
      have hl1 := paired_len hP1
      refine ⟨_, rfl, _, _, _, _, _, rfl, (s _ _ e1), cl1, no1, rfl, _, rfl, ⟨_, same_tup s hT1⟩, ?_⟩
      refine for_tup (K := K) (a := a1) (xs := vs1) (fun i σ H' => ∃ x3 x4, σ = [some (.ref p), some (.int k), some (.ref Dl), x3, x4, none, none] ∧ Same H1 H' ∧ H' Dl = some (.lst (ds.map V.ref)) ∧ ∀ (j : Nat) d, ds[j]? = some d → DD P w K H' d (toKV (cutT k j (ts.take i))))
        ⟨_, _, rfl, s, e, fun j d hd => hdd d (List.mem_of_getElem? hd)⟩ (fun i σ H' _ ⟨_, _, _, s, _⟩ => same_tup s hT1) (fun i x σ H2 hx m => ?_) (fun σ H2 m => ?_)
      · obtain ⟨x3, x4, rfl, s2, e2, hd2⟩ := m
        obtain ⟨t, ht, r, b, rfl, t1, t2⟩ := paired_at hP1 hx
        have htm := List.mem_of_getElem? ht
        have hj := hmaxl t htm
        have hdj : ds[gk t.1 k]? = some ds[gk t.1 k] := List.getElem?_eq_getElem (by omega)
        have t2' := same_tup s2 t2
        have hat : atI (t.1.map V.int) ((k : Nat) : Int) = some (.int ((gk t.1 k : Nat) : Int)) := nat_at (by rw [g.l4 t htm]; exact hk) fun x hx => (g.en t htm x hx).1
        have hat2 : atI (ds.map V.ref) ((gk t.1 k : Nat) : Int) = some (.ref ds[gk t.1 k]) := atI_nat (by rw [List.getElem?_map, hdj] <;> rfl)
        refine ⟨_, _, rfl, same_tup s2 t1, rfl, _, _, rfl, _, _, rfl, rfl, ?_⟩
        refine ⟨_, rfl, _, rfl, _, rfl, _, rfl, _, _, _, _, rfl, rfl, t2', hat, _, _, _, _, rfl, rfl, SqL.of e2, hat2, ?_⟩
        refine ⟨_, rfl, _, rfl, _, _, _, rfl, hk, t2', g.l4 t htm, fun H3 pw s3 hpw => ?_⟩
        have dd3 := (hd2 _ _ hdj).same s3
        refine ⟨_, _, _, t.1.set k 0, rfl, rfl, dd3, ?_, hpw, fun o' d' kp => ?_⟩
        · rw [length_toKV]
          refine Nat.lt_of_le_of_lt (length_cutT ..) ?_
          rw [List.length_take]
          exact Nat.lt_of_lt_of_le (show min i ts.length < 64 by omega) (by decide)
        · have e3 := s3 _ _ e2
          have hmem : ds[gk t.1 k] ∈ ds := List.getElem_mem _
          refine ⟨_, _, rfl, same_upd (s2.trans s3) (hnew _ hmem), ?_, fun j d hd => ?_⟩
          · rw [upd_ne (hne _ hmem H3 e3 _ dd3)]
            exact e3
          · by_cases c : gk t.1 k = j
            · subst c
              rw [hdj] at hd
              cases hd
              rw [take_snoc ht, cutT_snoc, if_pos rfl, ← toKV_snoc]
              · exact d' dd3
              · intro hm
                obtain ⟨v, hv, ev⟩ := List.mem_map.mp hm
                obtain ⟨u, hu, hgu, e4⟩ := mem_cutT hv
                rw [e4] at ev
                have hum : u ∈ ts := List.mem_of_mem_take hu
                have := set_inj (g.l4 u hum) (g.l4 t htm) hk (fun x hx => (g.en u hum x hx).1) (fun x hx => (g.en t htm x hx).1) hgu ev
                exact not_mem_take g.nd ht (List.mem_map.mpr ⟨u, hu, this⟩)
            · have hdn : d ≠ ds[gk t.1 k] := fun z => by
                rw [z] at hd
                exact c (nodup_at hnd hdj hd)
              rw [take_snoc ht, cutT_snoc, if_neg c]
              exact ((hd2 j d hd).same s3).keep (fun oo eo => by rw [upd_ne hdn]; exact eo) kp
      · obtain ⟨x3, x4, rfl, s2, e2, hd2⟩ := m
        rw [hl1, List.take_length] at hd2
        refine ⟨_, rfl, _, rfl, ⟨_, SqL.of e2⟩, fun Dr hDr => ?_⟩
        refine lc_list (K := K) (a := Dl) (xs := ds.map V.ref) (Acc H2 Dr fun j y H => ∃ p c, y = .ref p ∧ PolyAt K CP CR H p c ∧ c.Perm ((cutT k j ts).filter fun t => decide (t.2 ≠ 0))) (acc_zero hDr) (fun i H' _ m => m.1.seq (SqL.of e2)) (fun i x H' hx m => ?_) (fun H' m => ?_)
        · rw [List.getElem?_map] at hx
          cases hdi : ds[i]? with
          | none =>
            rw [hdi] at hx
            cases hx
          | some d =>
            rw [hdi] at hx
            cases hx
            have gc := g.cut (j := i) hk hn0
            have hil : i < ds.length := (List.getElem?_eq_some_iff.mp hdi).1
            refine ⟨rfl, _, rfl, ?_⟩
            refine ⟨d, cutT k i ts, rfl, (hd2 i d hdi).same m.1, gc.nd, gc.keys.bd hn, Nat.lt_of_le_of_lt (length_cutT ..) hlen, fun H4 p4 c s4 hP4 hperm => ?_⟩
            exact acc_step hDr (fun j y Ha Hb st ⟨p, c, e, hp, hc⟩ => ⟨p, c, e, st.poly hp, hc⟩) m (by omega) s4 ⟨p4, c, rfl, hP4, hperm⟩
        · obtain ⟨s5, acc, ea, hal, hr5⟩ := m
          refine q H' Dr acc (s1.trans (s2.trans s5)) (SqL.of ea) (by rw [hal, List.length_map, hl]) fun j v hv => ?_
          obtain ⟨p5, c, ev, hP5, hperm⟩ := hr5 j v hv
          have gc := g.cut (j := j) hk hn0
          obtain ⟨gp, gl, gn⟩ := PG.ofPerm gc.nd gc.keys hperm
          refine ⟨p5, c, ev, hP5, gp, fun w => by rw [gl, lin_cutT], by rw [gn]; exact nrm_cutT .., ?_⟩
          rw [hperm.length_eq]
          exact Nat.le_trans (List.length_filter_le ..) (length_cutT ..)
theorem dp_ints {K : PySem.W.Frag} {H : Hp} {a : Addr} {ns : List Int} (h : SqT K H a (ns.map V.int)) : Dp K H (.ref a) (.tuple (ns.map PyData.int)) := by
  refine .tup h ?_
  clear h
  induction ns with
  | nil => exact .nil
  | cons x r ih => exact .cons (.int x) ih
theorem dp_self {ns : List Int} (h : ns = [0, 0, 0, 0] ∨ ns = [0, 0, 0] ∨ ns = [0, 0] ∨ ns = [0]) : SeqAt.shaped (.tuple (ns.map PyData.int)) = true ∧ PyData.eqv (.tuple (ns.map PyData.int)) (.tuple (ns.map PyData.int)) = true := by
  rcases h with rfl | rfl | rfl | rfl <;> exact ⟨by decide +kernel, by simp [PyData.eqv, PyData.eqvAll]⟩
theorem ok_is_in {f : Addr} {fd : FuncData} (F : C8.Def K mg "is_in" s_is_in f fd) (b : Binds K fd ["poly", "many"] []) (T : Txt K mg CP CR aN) : C8.Cal P w K mg base 1 "is_in" (spIsIn K CP CR) [] := by
  refine C8.cal0 F b .nil sc_is_in (fun vs H Q E h => ?_) (fun cdv A outer s H vs Q E hr h => ?_)
  · obtain ⟨p, m, ts, rfl, _⟩ := h
    rfl
  · obtain ⟨p, m, ts, rfl, hm, ⟨C1, dx1, a1, c1, e1, vs1, hT1, hP1⟩, hok, hlen, q⟩ := h
    obtain ⟨cl1, no1⟩ := fieldOk T c1
    have hl1 := paired_len hP1
    have nd := sc_is_in.nd
    refine ⟨_, (pss_one (ps_ret (pe_callB (cr_allK K rfl) (by rfl) T.all (by decide +kernel) (pa_cons (pe_lc (own := [("powers", 2), ("count", 3)]) (g := (gTup K 2 (gCons (gName 2) (gCons (gName 3) gNil)))) (tt := tYes) rfl nd (pi_tupK K (pe_fldK K (pv 0) rfl)) (blkOk_by (own := [("powers", 2), ("count", 3)]) (N := ["poly", "many", "powers", "count"]) (sc := C8.fnScope s_is_in) (by decide +kernel)) (fun _ _ _ _ _ => (pg_tup rfl (pgs_cons (pg_name (i := 2) nd rfl (Or.inl rfl)) (pgs_cons (pg_name (i := 3) nd rfl (Or.inl rfl)) pgs_nil)))) (fun _ _ _ _ _ => pts_nil) (fun _ _ _ _ _ => (pe_cmpR (op_eqDK K hr) (pe_slice (sl_tupAK K) (pv 2) (po_some (pv 1)) po_none) (pe_slice (sl_tupAK K) (C8.pe_gc (v := .ref aN) (by rfl) T.NO_POWERS) (po_some (pv 1)) po_none) (nomark _)))) pa_nil)))), ?_⟩
    refine ⟨_, rfl, _, _, _, _, _, rfl, e1, cl1, no1, rfl, _, rfl, ⟨_, hT1⟩, ?_⟩
    intro D hD
    refine lc_tup (K := K) (a := a1) (xs := vs1) (Acc H D fun j y H => y = .bl true) (acc_zero hD) (fun i H' _ m => same_tup m.1 hT1) (fun i x H' hx mm => ?_) (fun H' mm => ?_)
    · obtain ⟨t, ht, r, b, rfl, t1, t2⟩ := paired_at hP1 hx
      have hti : i < ts.length := (List.getElem?_eq_some_iff.mp ht).1
      have ok := hok t (List.mem_of_getElem? ht)
      refine ⟨_, _, rfl, same_tup mm.1 t1, rfl, _, _, rfl, _, _, rfl, rfl, rfl, ?_⟩
      refine ⟨_, rfl, _, rfl, _, rfl, ?_⟩
      unfold tNoPart
      refine slA_from (same_tup mm.1 t2) (by omega) fun H2 p2 s2 hp2 => ?_
      refine ⟨_, rfl, _, rfl, ?_⟩
      refine slA_from (ns := [0, 0, 0, 0]) (T.powers _) (by show m ≤ 4; omega) fun H3 p3 s3 hp3 => ?_
      rw [ok.2] at hp2
      have hz : ([0, 0, 0, 0] : List Int).drop m = [0, 0, 0, 0] ∨ ([0, 0, 0, 0] : List Int).drop m = [0, 0, 0] ∨ ([0, 0, 0, 0] : List Int).drop m = [0, 0] ∨ ([0, 0, 0, 0] : List Int).drop m = [0] := by
        rcases le3 hm with rfl | rfl | rfl | rfl
        · exact .inl rfl
        · exact .inr (.inl rfl)
        · exact .inr (.inr (.inl rfl))
        · exact .inr (.inr (.inr rfl))
      obtain ⟨z1, z2⟩ := dp_self hz
      refine ⟨_, _, dp_ints (same_tup s3 hp2), dp_ints hp3, z1, z1, ?_⟩
      rw [z2]
      exact acc_step hD (fun j y Ha Hb st e => e) mm (by omega) (s2.trans s3) rfl
    · obtain ⟨s5, acc, ea, hal, hr5⟩ := mm
      have eacc : acc = (List.replicate acc.length true).map V.bl := by
        apply List.ext_getElem?
        intro j
        rw [List.getElem?_map]
        by_cases c : j < acc.length
        · rw [List.getElem?_replicate, if_pos c, List.getElem?_eq_getElem c, hr5 j _ (List.getElem?_eq_getElem c)] <;> rfl
        · rw [List.getElem?_eq_none (by omega), List.getElem?_eq_none (by simp; omega)] <;> rfl
      refine ⟨D, List.replicate acc.length true, rfl, SqL.of (by rw [← eacc]; exact ea), ?_⟩
      rw [show (List.replicate acc.length true).all id = true by simp]
      exact q _ s5
end Bx

/-! Bx W5: boxes checked; polynomials moved onto 0..1. -/
namespace Bx
open PySem PySem.Spec PyProof.Rows L2
def spIsStretch (K : PySem.W.Frag) : Sp := fun vs H Q _ => ∃ v z, vs = [v] ∧ StretchAt K H v z ∧ z.Ok ∧ Q (.bl true) H
def spIsBox (K : PySem.W.Frag) : Sp := fun vs H Q _ => ∃ a bs, vs = [.ref a] ∧ BoxAt K H a bs ∧ bs.length ≤ 3 ∧ (∀ z ∈ bs, z.Ok) ∧ ∀ H', Same H H' → Q (.bl true) H'
def TailZ (m : Nat) (ts : List Tm) : Prop := ∀ t ∈ ts, t.1.length = 4 ∧ t.1.drop m = ([0, 0, 0, 0] : List Int).drop m
def spCheckBox (K : PySem.W.Frag) (CP CR : Addr) : Sp := fun vs H Q _ => ∃ p a ts bs, vs = [.ref p, .ref a] ∧ PolyAt K CP CR H p ts ∧ BoxAt K H a bs ∧ bs.length ≤ 3 ∧ (∀ z ∈ bs, z.Ok) ∧ TailZ bs.length ts ∧ ts.length < 64 ∧ ∀ H', Same H H' → Q .non H'
def spProduct : Sp := fun vs H Q _ => ∃ n : Nat, vs = [.int n] ∧ n ≤ 3 ∧ Q (.int (fac n)) H
--SP is_integer := spIsInteger
--SP divisor_of := spDivisor
--SP is_fraction := spIsFraction K
--SP is_below := spIsBelow K
--SP is_stretch := spIsStretch K
--SP is_box := spIsBox K
--SP is_in := spIsIn K CP CR
--SP check_box := spCheckBox K CP CR
--SP product_to := spProduct
--SP plus := spPlus K CP CR
--SP sum_with := spSum K CP CR
--SP times := spTimes K CP CR
--SP constant := spConstant K CP CR
--SP unknown_power := spUnknown K CP CR
--SP counts_by := spCountsBy K CP CR
--SP moved := spMoved K CP CR
theorem bits_up {x : Int} {a b : Nat} (h : x.natAbs < 2 ^ a) (hab : a ≤ b) : x.natAbs < 2 ^ b := Nat.lt_of_lt_of_le h (Nat.pow_le_pow_right (by decide) hab)
theorem bits_le {x : Int} {a b : Nat} (h : x.natAbs ≤ 2 ^ a) (hab : a < b) : x.natAbs < 2 ^ b := Nat.lt_of_le_of_lt h (Nat.pow_lt_pow_right (by decide) hab)
variable {P : Program} {w : World} {K : PySem.W.Frag} {mg : Str → Option Value} {base : Heap} {CP CR aN : Addr}
theorem ok_is_stretch {f : Addr} {fd : FuncData} (F : C8.Def K mg "is_stretch" s_is_stretch f fd) (b : Binds K fd ["thing"] []) (T : Txt K mg CP CR aN) (c_is_below : C8.Cal P w K mg base 1 "is_below" (spIsBelow K) []) (c_is_fraction : C8.Cal P w K mg base 2 "is_fraction" (spIsFraction K) []) : C8.Cal P w K mg base 3 "is_stretch" (spIsStretch K) [] := by
  refine C8.cal0 F b .nil sc_is_stretch (fun vs H Q E h => ?_) (fun cdv A outer s H vs Q E hr h => ?_)
  · obtain ⟨v, z, rfl, _⟩ := h
    rfl
  · obtain ⟨v, z, rfl, ⟨r, l, h, rfl, h1, h2, h3⟩, ok, q⟩ := h
    have nd := sc_is_stretch.nd
    refine ⟨_, (pss_cons (ps_if (PW.pt (pw_or (pt_not (pt_val (pe_callB (call_isiK K) (by rfl) T.isinstance (by decide +kernel) (pa_cons (pv 0) (pa_cons (pe_bltn (v := .ty "tuple") (by rfl) T.tuple (by decide +kernel) rfl) pa_nil))))) (pw_or (pt_cmpR op_ne (pe_callB (call_len_seqK K) (by rfl) T.len PySem.boot_len (pa_cons (pv 0) pa_nil)) pe_int (nomark _)) (pw_or (pt_not (pt_val (C8.pe_c c_is_fraction hr (by decide) (by rfl) (pa_cons (pe_ix (ix_tupK K) (pv 0) pe_int (fun _ _ => rfl)) pa_nil)))) (pw_or1 (pt_not (pt_val (C8.pe_c c_is_fraction hr (by decide) (by rfl) (pa_cons (pe_ix (ix_tupK K) (pv 0) pe_int (fun _ _ => rfl)) pa_nil)))))))))
      (pss_one (ps_ret pe_bl))
      pss_nil)
    (pss_one (ps_ret (C8.pe_c c_is_below hr (by decide) (by rfl) (pa_cons (pe_ix (ix_tupK K) (pv 0) pe_int (fun _ _ => rfl)) (pa_cons (pe_ix (ix_tupK K) (pv 0) pe_int (fun _ _ => rfl)) pa_nil)))))), ?_⟩
    refine ⟨_, rfl, _, _, _, _, true, rfl, .ty _, ty_tup h1, kit_ty (by decide +kernel), _, rfl, ?_⟩
    refine ⟨_, rfl, _, _, rfl, .inr h1, rfl, _, rfl, ?_⟩
    refine ⟨_, rfl, _, _, _, _, rfl, rfl, h1, (by rfl), _, _, _, rfl, h2, ok.hb, ok.g1, true, rfl, ?_⟩
    refine ⟨_, rfl, _, _, _, _, rfl, rfl, h1, (by rfl), _, _, _, rfl, h3, ok.hd, ok.g2, true, rfl, ?_⟩
    refine ⟨_, rfl, _, _, _, _, rfl, rfl, h1, (by rfl), _, rfl, _, _, _, _, rfl, rfl, h1, (by rfl), _, _, _, _, _, _, rfl, h2, h3, ⟨bits_up ok.ba (by decide), bits_le ok.bb (by decide), bits_up ok.bc (by decide), bits_le ok.bd (by decide)⟩, ?_⟩
    rw [decide_eq_true ok.lt]
    exact q
theorem ok_is_box {f : Addr} {fd : FuncData} (F : C8.Def K mg "is_box" s_is_box f fd) (b : Binds K fd ["thing"] []) (T : Txt K mg CP CR aN) (c_is_stretch : C8.Cal P w K mg base 3 "is_stretch" (spIsStretch K) []) : C8.Cal P w K mg base 4 "is_box" (spIsBox K) [] := by
  refine C8.cal0 F b .nil sc_is_box (fun vs H Q E h => ?_) (fun cdv A outer s H vs Q E hr h => ?_)
  · obtain ⟨a, bs, rfl, _⟩ := h
    rfl
  · obtain ⟨a, bs, rfl, ⟨vs, hT, hP⟩, hlen, hok, q⟩ := h
    have nd := sc_is_box.nd
    refine ⟨_, (pss_one (ps_ret (pe_and (pe_callB (call_isiK K) (by rfl) T.isinstance (by decide +kernel) (pa_cons (pv 0) (pa_cons (pe_bltn (v := .ty "tuple") (by rfl) T.tuple (by decide +kernel) rfl) pa_nil))) (pe_and (pe_cmpR op_le (pe_callB (call_len_seqK K) (by rfl) T.len PySem.boot_len (pa_cons (pv 0) pa_nil)) (C8.pe_gc (v := .int 3) (by rfl) T.MOST_STRETCHES) (nomark _)) (pe_one (pe_callB (cr_allK K rfl) (by rfl) T.all (by decide +kernel) (pa_cons (pe_lc (own := [("one", 1)]) (g := (gName 1)) (tt := tYes) rfl nd (pi_tupK K (pv 0)) (blkOk_by (own := [("one", 1)]) (N := ["thing", "one"]) (sc := C8.fnScope s_is_box) (by decide +kernel)) (fun _ _ _ _ _ => (pg_name (i := 1) nd rfl (Or.inl rfl))) (fun _ _ _ _ _ => pts_nil) (fun _ _ _ _ _ => (C8.pe_c c_is_stretch hr (by decide) (by rfl) (pa_cons (pv 1) pa_nil)))) pa_nil))))))), ?_⟩
    have hl := paired_len hP
    refine ⟨_, rfl, _, _, _, _, true, rfl, .ty _, ty_tup hT, kit_ty (by decide +kernel), _, rfl, ?_⟩
    refine ⟨_, rfl, _, _, rfl, .inr hT, _, _, rfl, rfl, ?_⟩
    refine ⟨_, rfl, ?_⟩
    rw [decide_eq_true (show ((vs.length : Nat) : Int) ≤ 3 by omega)]
    refine ⟨_, rfl, _, rfl, ⟨_, hT⟩, ?_⟩
    intro D hD
    refine lc_tup (K := K) (a := a) (xs := vs) (Acc H D fun j y H => y = .bl true) (acc_zero hD) (fun i H' _ m => same_tup m.1 hT) (fun i x H' hx mm => ?_) (fun H' mm => ?_)
    · obtain ⟨z, hz, st⟩ := paired_at hP hx
      have hi : i < bs.length := (List.getElem?_eq_some_iff.mp hz).1
      refine ⟨rfl, _, rfl, _, z, rfl, (st.same mm.1), (hok z (List.mem_of_getElem? hz)), ?_⟩
      exact acc_step hD (fun j y Ha Hb st e => e) mm (by omega) (Same.refl _) rfl
    · obtain ⟨s5, acc, ea, hal, hr5⟩ := mm
      have eacc : acc = (List.replicate acc.length true).map V.bl := by
        apply List.ext_getElem?
        intro j
        rw [List.getElem?_map]
        by_cases c : j < acc.length
        · rw [List.getElem?_replicate, if_pos c, List.getElem?_eq_getElem c, hr5 j _ (List.getElem?_eq_getElem c)] <;> rfl
        · rw [List.getElem?_eq_none (by omega), List.getElem?_eq_none (by simp; omega)] <;> rfl
      refine ⟨D, List.replicate acc.length true, rfl, SqL.of (by rw [← eacc]; exact ea), ?_⟩
      rw [show (List.replicate acc.length true).all id = true by simp]
      exact q _ s5
theorem ok_check_box {f : Addr} {fd : FuncData} (F : C8.Def K mg "check_box" s_check_box f fd) (b : Binds K fd ["poly", "box"] []) (T : Txt K mg CP CR aN) (c_is_box : C8.Cal P w K mg base 4 "is_box" (spIsBox K) []) (c_is_in : C8.Cal P w K mg base 1 "is_in" (spIsIn K CP CR) []) : C8.Cal P w K mg base 5 "check_box" (spCheckBox K CP CR) [] := by
  refine C8.cal0 F b .nil sc_check_box (fun vs H Q E h => ?_) (fun cdv A outer s H vs Q E hr h => ?_)
  · obtain ⟨p, a, ts, bs, rfl, _⟩ := h
    rfl
  · obtain ⟨p, a, ts, bs, rfl, hP, hB, hlen, hok, htz, hl64, q⟩ := h
    have nd := sc_check_box.nd
    refine ⟨_, (pss_one (ps_if (PW.pt (pw_or (pt_not (pt_val (C8.pe_c c_is_box hr (by decide) (by rfl) (pa_cons (pv 1) pa_nil)))) (pw_or1 (pt_not (pt_val (C8.pe_c c_is_in hr (by decide) (by rfl) (pa_cons (pv 0) (pa_cons (pe_callB (call_len_seqK K) (by rfl) T.len PySem.boot_len (pa_cons (pv 1) pa_nil)) pa_nil))))))))
    (pss_one ps_never)
    pss_nil)), ?_⟩
    refine ⟨_, rfl, _, _, rfl, hB, hlen, hok, ?_⟩
    intro H1 s1
    obtain ⟨vs, hT, hPs⟩ := hB.same s1
    have hl := paired_len hPs
    refine ⟨true, rfl, _, rfl, _, rfl, _, _, rfl, .inr hT, _, _, _, (by rw [hl]; rfl), hlen, (hP.same s1), htz, hl64, ?_⟩
    intro H2 s2
    refine ⟨true, rfl, ?_⟩
    exact q H2 (s1.trans s2)
theorem fac_bits {n : Nat} (h : n ≤ 3) : (fac n).natAbs < 2 ^ 10 := by
  rcases le3 h with rfl | rfl | rfl | rfl <;> decide
theorem ok_product_to {f : Addr} {fd : FuncData} (F : C8.Def K mg "product_to" s_product_to f fd) (b : Binds K fd ["many"] []) (T : Txt K mg CP CR aN) : C8.Cal P w K mg base 1 "product_to" (spProduct) [] := by
  refine C8.cal0 F b .nil sc_product_to (fun vs H Q E h => ?_) (fun cdv A outer s H vs Q E hr h => ?_)
  · obtain ⟨n, rfl, _⟩ := h
    rfl
  · obtain ⟨n, rfl, hn, q⟩ := h
    have nd := sc_product_to.nd
    refine ⟨_, (pss_cons (ps_set (i := 1) nd rfl (Or.inl rfl) pe_int)
    (pss_cons (ps_for PassesOwn.never rfl (pi_range2 (by rfl) T.range (pa_cons pe_int (pa_cons (pe_op op_add (pv 0) pe_int) pa_nil))) (pg_name (i := 2) nd rfl (Or.inl rfl))
      (pss_one (ps_aug (i := 1) nd rfl (.inl rfl) (pv 2) ip_mulW)))
    (pss_one (ps_ret (pv 1))))), ?_⟩
    refine ⟨_, rfl, _, _, rfl, rfl, _, _, rfl, ⟨by decide, by decide, by omega, by omega⟩, ?_⟩
    have e : (((n : Nat) : Int) + 1 - 2).toNat = n - 1 := by omega
    refine for_range (lo := 2) (n := (((n : Nat) : Int) + 1 - 2).toNat) (fun i σ H' => ∃ x, σ = [some (.int (n : Nat)), some (.int (fac (i + 1))), x] ∧ H' = H) ⟨none, rfl, rfl⟩ (fun i σ H' hi ⟨x, eσ, eH⟩ => ?_) (fun σ H' ⟨x, eσ, eH⟩ => ?_)
    · subst eσ eH
      refine ⟨_, rfl, _, rfl, _, _, rfl, rfl, wide_mul (fac_bits (n := i + 1) (by omega)) (b := 10) (by omega) (by decide) (by decide) (by decide), ?_⟩
      refine ⟨some (.int (2 + (i : Nat))), ?_, rfl⟩
      have e2 : fac (i + 1) * (2 + (i : Int)) = fac (i + 1 + 1) := by
        show fac (i + 1) * (2 + (i : Int)) = fac (i + 1) * (((i + 1 : Nat) : Int) + 1)
        congr 1
        omega
      show [some (.int (n : Nat)), some (.int (fac (i + 1) * (2 + (i : Int)))), some (.int (2 + (i : Int)))] = ([some (.int (n : Nat)), some (.int (fac (i + 1 + 1))), some (.int (2 + (i : Int)))] : St)
      rw [e2]
    · subst eσ eH
      refine ⟨_, rfl, ?_⟩
      rw [e]
      have e2 : fac (n - 1 + 1) = fac n := by
        rcases le3 hn with rfl | rfl | rfl | rfl <;> rfl
      rw [e2]
      exact q
end Bx

/-! Bx M5: the turns of moved and of told_by_counts, plain Lean. -/
namespace Bx
def zs4 : List Int := [0, 0, 0, 0]
theorem addP_zero {q : List Int} (h : q.length = 4) : addP q zs4 = q := by
  obtain ⟨a, b, c, d, rfl⟩ := four h
  simp [addP, zs4]
theorem addP_unit {q : List Int} {k : Nat} {x m : Int} (h : q.length = 4) (hk : k < 4) : addP (q.set k x) (zs4.set k m) = q.set k (x + m) := by
  obtain ⟨a, b, c, d, rfl⟩ := four h
  rcases le3 (show k ≤ 3 by omega) with rfl | rfl | rfl | rfl <;> simp [addP, zs4]
theorem AA_zero {b s : Int} {j : Nat} {f : Nat → Int} (h : ∀ e, e ≤ j → f e = 0) : AA b s j f = 0 := by
  have e : AA b s j f = AA b s j fun e => 0 * 0 := AA_congr fun e he => by rw [h e he] <;> rfl
  rw [e, AA_smul]
  simp
def stepW (ts : List Tm) (k D i : Nat) (b s B : Int) (w : List Int → Int) : Int := lin ts fun q => if D < gk q k + i then B ^ (D - gk q k) * AA b s (gk q k + i - 1 - D) (fun e => w (q.set k (e : Int))) else 0
section
variable {Ds : List Nat} {ts : List Tm} {k : Nat} {b s B : Int}
theorem step_zero (p : PW Ds ts) (hk : k < Ds.length) (w) : stepW ts k (Ds.getD k 0) 0 b s B w = 0 := by
  refine lin_zero fun t ht => if_neg ?_
  have := (inBox_gk (p.bx t ht) hk).1
  omega
theorem step_last (p : PW Ds ts) (hk : k < Ds.length) (w) : stepW ts k (Ds.getD k 0) (Ds.getD k 0 + 1) b s B w = lin ts (op k (Ds.getD k 0) (movA (Ds.getD k 0) b s B) w) := by
  refine lin_congr fun t ht => ?_
  have hj := (inBox_gk (p.bx t ht) hk).1
  generalize Ds.getD k 0 = D at *
  show (if D < gk t.1 k + (D + 1) then B ^ (D - gk t.1 k) * AA b s (gk t.1 k + (D + 1) - 1 - D) (fun e => w (t.1.set k (e : Int))) else 0) = sumN (D + 1) fun i => movA D b s B i (gk t.1 k) * w (t.1.set k (i : Int))
  rw [if_pos (by omega), show gk t.1 k + (D + 1) - 1 - D = gk t.1 k by omega, AA_expand hj, ← sumN_mul]
  refine sumN_congr fun i _ => ?_
  unfold movA
  grind
theorem step_next (p : PW Ds ts) (hk : k < Ds.length) (h4 : Ds.length = 4) {i : Nat} (hi : i ≤ Ds.getD k 0) (w) :
    stepW ts k (Ds.getD k 0) i b s B (fun a => b * w (addP a zs4) + s * w (addP a (zs4.set k 1))) + B ^ i * lin ts (fun q => if gk q k = Ds.getD k 0 - i then w (q.set k 0) else 0) = stepW ts k (Ds.getD k 0) (i + 1) b s B w := by
  unfold stepW
  rw [← lin_smul, ← lin_add]
  refine lin_congr fun t ht => ?_
  have hj := (inBox_gk (p.bx t ht) hk).1
  have hl : t.1.length = 4 := by rw [inBox_len (p.bx t ht), h4]
  generalize Ds.getD k 0 = D at *
  by_cases c : D < gk t.1 k + i
  · rw [if_pos c, if_neg (show ¬ gk t.1 k = D - i by omega), if_pos (show D < gk t.1 k + (i + 1) by omega)]
    obtain ⟨m, hm⟩ : ∃ m, gk t.1 k + i - 1 - D = m := ⟨_, rfl⟩
    rw [hm, show gk t.1 k + (i + 1) - 1 - D = m + 1 by omega]
    have e : AA b s m (fun e => b * w (addP (t.1.set k (e : Int)) zs4) + s * w (addP (t.1.set k (e : Int)) (zs4.set k 1))) = AA b s (m + 1) (fun e => w (t.1.set k (e : Int))) := by
      show _ = AA b s m fun e => b * w (t.1.set k (e : Int)) + s * w (t.1.set k ((e + 1 : Nat) : Int))
      refine AA_congr fun e _ => ?_
      rw [addP_zero (by rw [List.length_set]; exact hl), addP_unit hl (by omega)] <;> rfl
    rw [e]
    omega
  · rw [if_neg c]
    by_cases c2 : gk t.1 k = D - i
    · rw [if_pos c2, if_pos (show D < gk t.1 k + (i + 1) by omega), c2, show D - (D - i) = i by omega, show D - i + (i + 1) - 1 - D = 0 by omega]
      show 0 + B ^ i * w (t.1.set k 0) = B ^ i * w (t.1.set k ((0 : Nat) : Int))
      rw [Int.zero_add] <;> rfl
    · rw [if_neg c2, if_neg (show ¬ D < gk t.1 k + (i + 1) by omega)]
      simp
theorem cut_box (p : PW Ds ts) (hk : k < Ds.length) {j : Nat} {q0 : List Int} (h : ¬ inBox Ds q0) : lin ts (fun q => if gk q k = j then ind q0 (q.set k 0) else 0) = 0 := by
  refine lin_zero fun t ht => ?_
  have z : ind q0 (t.1.set k 0) = 0 := if_neg fun (e : t.1.set k 0 = q0) => h (by rw [← e]; exact inBox_set (i := 0) (p.bx t ht) hk (Nat.zero_le _))
  rw [z]
  simp
theorem step_box (p : PW Ds ts) (hk : k < Ds.length) {i : Nat} (hi : i ≤ Ds.getD k 0 + 1) {q0 : List Int} (h : ¬ inBox Ds q0) : stepW ts k (Ds.getD k 0) i b s B (ind q0) = 0 := by
  refine lin_zero fun t ht => ?_
  have hj := (inBox_gk (p.bx t ht) hk).1
  by_cases c : Ds.getD k 0 < gk t.1 k + i
  · rw [if_pos c, AA_zero]
    · simp
    · intro e he
      exact if_neg fun (z : t.1.set k (e : Int) = q0) => h (by rw [← z]; exact inBox_set (p.bx t ht) hk (by omega))
  · exact if_neg c
theorem step_box2 (p : PW Ds ts) (hk : k < Ds.length) (h4 : Ds.length = 4) {i : Nat} (hi : i ≤ Ds.getD k 0) {q0 : List Int} (h : ¬ inBox Ds q0) : stepW ts k (Ds.getD k 0) i b s B (fun a => b * ind q0 (addP a zs4) + s * ind q0 (addP a (zs4.set k 1))) = 0 := by
  have e := step_next (b := b) (s := s) (B := B) p hk h4 hi (ind q0)
  rw [cut_box p hk h, step_box p hk (by omega) h] at e
  simpa using e
end
/-- few terms -/
theorem len_box {Ds : List Nat} {f : List Tm} (nd : (f.map (·.1)).Nodup) (nz : ∀ t ∈ f, t.2 ≠ 0) (h : ∀ q, ¬ inBox Ds q → lin f (ind q) = 0) : f.length ≤ many Ds := (PW.of nd nz h).len
/-! ### the told counts -/
def hereW (ts : List Tm) (k D i j : Nat) (w : List Int → Int) : Int := sumN j fun j' => TT D i j' * lin ts fun q => if gk q k = j' then w (q.set k 0) else 0
theorem here_box {Ds : List Nat} {ts : List Tm} {k D i j : Nat} (p : PW Ds ts) (hk : k < Ds.length) {q0 : List Int} (h : ¬ inBox Ds q0) : hereW ts k D i j (ind q0) = 0 := sumN_zero fun j' _ => by
  rw [cut_box p hk h]
  simp
def toldW (ts : List Tm) (k D i : Nat) (w : List Int → Int) : Int := sumN i fun i' => lin ts fun q => TT D i' (gk q k) * w (q.set k (i' : Int))
theorem told_last {ts : List Tm} {k D : Nat} (w) : toldW ts k D (D + 1) w = lin ts (op k D (TT D) w) := (lin_sumN ts (D + 1) fun i q => TT D i (gk q k) * w (q.set k (i : Int))).symm
theorem here_all {Ds : List Nat} {ts : List Tm} {k D i : Nat} (p : PW Ds ts) (hk : k < Ds.length) (h4 : Ds.length = 4) (w : List Int → Int) : hereW ts k D i (i + 1) (fun a => w (addP a (zs4.set k (i : Int)))) = lin ts fun q => TT D i (gk q k) * w (q.set k (i : Int)) := by
  unfold hereW
  rw [sumN_congr fun j' _ => (lin_smul ts (TT D i j') _).symm, ← lin_sumN]
  refine lin_congr fun t ht => ?_
  have hl : t.1.length = 4 := by rw [inBox_len (p.bx t ht), h4]
  have e : addP (t.1.set k 0) (zs4.set k (i : Int)) = t.1.set k (i : Int) := by rw [addP_unit hl (by omega), Int.zero_add]
  by_cases c : gk t.1 k < i + 1
  · rw [sumN_one (k := gk t.1 k) c (fun j' _ hne => by rw [if_neg (fun z => hne z.symm)]; simp), if_pos rfl]
    show TT D i (gk t.1 k) * w (addP (t.1.set k 0) (zs4.set k (i : Int))) = _
    rw [e]
  · rw [sumN_zero fun j' hj' => by rw [if_neg (by omega)]; simp]
    have z : TT D i (gk t.1 k) = 0 := if_neg (by omega)
    rw [z]
    simp
theorem told_box {Ds : List Nat} {ts : List Tm} {k i : Nat} (p : PW Ds ts) (hk : k < Ds.length) (hi : i ≤ Ds.getD k 0 + 1) {q0 : List Int} (h : ¬ inBox Ds q0) : toldW ts k (Ds.getD k 0) i (ind q0) = 0 := sumN_zero fun i' hi' => lin_zero fun t ht => by
  have z : ind q0 (t.1.set k (i' : Int)) = 0 := if_neg fun (e : t.1.set k (i' : Int) = q0) => h (by rw [← e]; exact inBox_set (p.bx t ht) hk (by omega))
  rw [z]
  simp
theorem TT_bits {D i j : Nat} (hD : D ≤ 3) (hi : i ≤ D) (hj : j ≤ i) : (TT D i j).natAbs ≤ 6 ∧ fac i / fac (i - j) * fac (D - j) = TT D i j := by
  rcases le3 hD with rfl | rfl | rfl | rfl <;> rcases le3 (show i ≤ 3 by omega) with rfl | rfl | rfl | rfl <;> rcases le3 (show j ≤ 3 by omega) with rfl | rfl | rfl | rfl <;>
    first
    | (exfalso; omega)
    | decide
/-! ### a stretch's numbers -/
def S4.gi (z : S4) : Int := ((Int.gcd z.b z.d : Nat) : Int)
def S4.bt (z : S4) : Int := z.b * (z.d / z.gi)
def S4.bg (z : S4) : Int := z.a * (z.d / z.gi)
def S4.st (z : S4) : Int := z.c * (z.b / z.gi) - z.bg
structure S4.Nums (z : S4) : Prop where
  g : 0 < z.gi
  bt : z.gi * z.bt = z.b * z.d
  bg : z.gi * z.bg = z.a * z.d
  hi : z.gi * (z.bg + z.st) = z.c * z.b
  btp : 0 < z.bt
  stp : 0 < z.st
  gb : z.gi.natAbs < 2 ^ 200
  b1 : z.bt.natAbs < 2 ^ 448
  b2 : z.bg.natAbs < 2 ^ 448
  b3 : z.st.natAbs < 2 ^ 448
  q1 : (z.d / z.gi).natAbs < 2 ^ 200
  q2 : (z.b / z.gi).natAbs < 2 ^ 200
theorem S4.Ok.nums {z : S4} (ok : z.Ok) : z.Nums := by
  have hb := ok.hb
  have hd := ok.hd
  have lt := ok.lt
  have bb := ok.bb
  have bd := ok.bd
  have ba := ok.ba
  have bc := ok.bc
  have g0 : 0 < Int.gcd z.b z.d := Int.gcd_pos_of_ne_zero_left _ (by omega)
  have d1 : z.gi ∣ z.b := Int.gcd_dvd_left ..
  have d2 : z.gi ∣ z.d := Int.gcd_dvd_right ..
  have e1 : z.gi * (z.b / z.gi) = z.b := Int.mul_ediv_cancel' d1
  have e2 : z.gi * (z.d / z.gi) = z.d := Int.mul_ediv_cancel' d2
  have gp : 0 < z.gi := by unfold S4.gi; omega
  generalize hg : z.gi = g at *
  generalize hx : z.b / g = x at *
  generalize hy : z.d / g = y at *
  have xp : 0 < x := pos_r gp (by rw [e1]; exact hb)
  have yp : 0 < y := pos_r gp (by rw [e2]; exact hd)
  have xb : x ≤ z.b := by
    have := Int.mul_le_mul_of_nonneg_right (show 1 ≤ g by omega) (Int.le_of_lt xp)
    rw [Int.one_mul, e1] at this
    exact this
  have yd : y ≤ z.d := by
    have := Int.mul_le_mul_of_nonneg_right (show 1 ≤ g by omega) (Int.le_of_lt yp)
    rw [Int.one_mul, e2] at this
    exact this
  have gle : g ≤ z.b := by
    have := Int.mul_le_mul_of_nonneg_left (show 1 ≤ x by omega) (Int.le_of_lt gp)
    rw [Int.mul_one, e1] at this
    exact this
  have xn : x.natAbs ≤ 2 ^ 146 := by omega
  have yn : y.natAbs ≤ 2 ^ 146 := by omega
  have gn : g.natAbs ≤ 2 ^ 146 := by omega
  have k1 : z.bt = z.b * y := by unfold S4.bt; rw [hg, hy]
  have k2 : z.bg = z.a * y := by unfold S4.bg; rw [hg, hy]
  have k3 : z.st = z.c * x - z.a * y := by unfold S4.st; rw [k2, hg, hx]
  have m1 : z.bt.natAbs < 2 ^ 447 := by
    rw [k1]
    exact bits_up (L2.wide_lt (bits_le bb (show 146 < 147 by decide)) (bits_le yn (show 146 < 147 by decide))) (by decide)
  have m2 : (z.a * y).natAbs < 2 ^ 447 := bits_up (L2.wide_lt ba (bits_le yn (show 146 < 147 by decide))) (by decide)
  have m3 : (z.c * x).natAbs < 2 ^ 447 := bits_up (L2.wide_lt bc (bits_le xn (show 146 < 147 by decide))) (by decide)
  have p447 : (2 : Nat) ^ 448 = 2 * 2 ^ 447 := by rw [← Nat.pow_succ']
  refine ⟨hg ▸ gp, ?_, ?_, ?_, ?_, ?_, ?_, ?_, ?_, ?_, ?_, ?_⟩
  · rw [hg, k1]
    grind
  · rw [hg, k2]
    grind
  · rw [hg, k2, k3]
    grind
  · rw [k1]
    exact Int.mul_pos hb yp
  · refine pos_r gp ?_
    rw [k3]
    have : g * (z.c * x - z.a * y) = z.c * z.b - z.a * z.d := by grind
    rw [this]
    omega
  · rw [hg]
    exact bits_le gn (by decide)
  · exact bits_up m1 (by decide)
  · rw [k2]
    exact bits_up m2 (by decide)
  · rw [k3, p447]
    omega
  · rw [hg, hy]
    exact bits_le yn (by decide)
  · rw [hg, hx]
    exact bits_le xn (by decide)
end Bx

/-! Bx W6: moved. -/
namespace Bx
open PySem PySem.Spec PyProof.Rows L2
theorem inBox_all : ∀ {Ds : List Nat} {q : List Int}, (∀ D ∈ Ds, D ≤ 3) → inBox Ds q → ∀ x ∈ q, 0 ≤ x ∧ x ≤ 3
  | [], [], _, _, x, hx => nomatch hx
  | D :: r, y :: q, h3, hb, x, hx => by
    rcases List.mem_cons.mp hx with e | hx
    · have := h3 D List.mem_cons_self
      obtain ⟨b1, b2, _⟩ := hb
      omega
    · exact inBox_all (fun D hD => h3 D (List.mem_cons_of_mem _ hD)) hb.2.2 x hx
  | [], _ :: _, _, h, _, _ => False.elim h
  | _ :: _, [], _, h, _, _ => False.elim h
theorem PW.pg {Ds : List Nat} {ts : List Tm} (p : PW Ds ts) (h4 : Ds.length = 4) (h3 : ∀ D ∈ Ds, D ≤ 3) : PG 3 ts :=
  ⟨p.nd, p.nz, fun t ht => by rw [inBox_len (p.bx t ht), h4], fun t ht => inBox_all h3 (p.bx t ht)⟩
theorem getD_le {Ds : List Nat} (h3 : ∀ D ∈ Ds, D ≤ 3) (k : Nat) : Ds.getD k 0 ≤ 3 := by
  rw [List.getD_eq_getElem?_getD]
  cases h : Ds[k]? with
  | none => exact Nat.zero_le _
  | some D => exact h3 D (List.mem_of_getElem? h)
theorem const_of {n : Int} {ts : List Tm} (h : ts.Perm ([(([0, 0, 0, 0] : List Int), n)].filter fun t => decide (t.2 ≠ 0))) : PG 0 ts ∧ (∀ w, lin ts w = n * w zs4) ∧ nrm ts = n.natAbs ∧ ts.length ≤ 1 := by
  obtain ⟨g, l, m⟩ := PG.ofPerm (n := 0) (by simp) (fun q hq => by
    have e : q = [0, 0, 0, 0] := by simpa using hq
    rw [e]
    exact ⟨rfl, fun x hx => by have : x = 0 := by simpa using hx
                               omega⟩) h
  refine ⟨g, fun w => by rw [l, lin_one] <;> rfl, by rw [m, nrm_one], ?_⟩
  rw [h.length_eq]
  exact List.length_filter_le ..
theorem unit_pg {k : Nat} {m : Int} (hm : 0 ≤ m) : PG m [(zs4.set k m, (1 : Int))] := by
  refine ⟨by simp, fun t ht => ?_, fun t ht => ?_, fun t ht x hx => ?_⟩
  · have : t = (zs4.set k m, 1) := by simpa using ht
    rw [this]
    show (1 : Int) ≠ 0
    decide
  · have : t = (zs4.set k m, 1) := by simpa using ht
    rw [this]
    show (zs4.set k m).length = 4
    rw [List.length_set] <;> rfl
  · have e : t = (zs4.set k m, 1) := by simpa using ht
    rw [e] at hx
    rcases List.mem_or_eq_of_mem_set hx with h | h
    · have : x = 0 := by simpa [zs4] using h
      omega
    · omega
def spMoved (K : PySem.W.Frag) (CP CR : Addr) : Sp := fun vs H Q _ => ∃ (p : Addr) (k : Nat) (v : V) (ts : List Tm) (Ds : List Nat) (n : Nat) (z : S4), vs = [.ref p, .int k, v] ∧ k < 4 ∧ PolyAt K CP CR H p ts ∧ PW Ds ts ∧ Ds.length = 4 ∧ (∀ D ∈ Ds, D ≤ 3) ∧ many Ds ≤ 27 ∧ Top ts k (Ds.getD k 0) ∧ StretchAt K H v z ∧ z.Ok ∧ nrm ts < 2 ^ n ∧ n ≤ 30000 ∧
  ∀ H' r p' ts', Same H H' → SqT K H' r [.ref p', .int (z.bt ^ Ds.getD k 0)] → PolyAt K CP CR H' p' ts' → PG 10 ts' → (∀ w, lin ts' w = lin ts (op k (Ds.getD k 0) (movA (Ds.getD k 0) z.bg z.st z.bt) w)) → nrm ts' < 2 ^ (n + 1900) → Q (.ref r) H'
--SP divisor_of := spDivisor
--SP plus := spPlus K CP CR
--SP sum_with := spSum K CP CR
--SP times := spTimes K CP CR
--SP constant := spConstant K CP CR
--SP unknown_power := spUnknown K CP CR
--SP counts_by := spCountsBy K CP CR
--SP moved := spMoved K CP CR
theorem nrm_turn {G N i m : Nat} (hG : G < 2 ^ 450) (hN : N < 2 ^ m) (hi : i ≤ 4) : i * G ^ i * N < 2 ^ (m + 1900) := by
  have h1 : G ^ i ≤ (2 ^ 450) ^ i := Nat.pow_le_pow_left (Nat.le_of_lt hG) i
  rw [← Nat.pow_mul] at h1
  have h2 : (2 : Nat) ^ (450 * i) ≤ 2 ^ 1800 := Nat.pow_le_pow_right (by decide) (by omega)
  have h3 : i * G ^ i ≤ 2 ^ 3 * 2 ^ 1800 := Nat.mul_le_mul (Nat.le_trans hi (by decide)) (Nat.le_trans h1 h2)
  rw [← Nat.pow_add] at h3
  refine Nat.lt_of_le_of_lt (Nat.mul_le_mul_right _ h3) ?_
  have h4 : 2 ^ (3 + 1800) * N < 2 ^ (3 + 1800) * 2 ^ m := Nat.mul_lt_mul_of_pos_left hN (Nat.pow_pos (by decide))
  rw [← Nat.pow_add] at h4
  exact Nat.lt_of_lt_of_le h4 (Nat.pow_le_pow_right (by decide) (by omega))
theorem bt_pow {x : Int} {i : Nat} (h : x.natAbs < 2 ^ 448) (hi : i ≤ 4) : (x ^ i).natAbs < 2 ^ 1800 := by
  rw [Int.natAbs_pow]
  have h1 : x.natAbs ^ i ≤ (2 ^ 448) ^ i := Nat.pow_le_pow_left (Nat.le_of_lt h) i
  rw [← Nat.pow_mul] at h1
  exact Nat.lt_of_le_of_lt h1 (Nat.pow_lt_pow_right (by decide) (by omega))
variable {P : Program} {w : World} {K : PySem.W.Frag} {mg : Str → Option Value} {base : Heap} {CP CR aN : Addr}
theorem ok_moved {f : Addr} {fd : FuncData} (F : C8.Def K mg "moved" s_moved f fd) (b : Binds K fd ["poly", "k", "stretch"] []) (T : Txt K mg CP CR aN) (c_constant : C8.Cal P w K mg base 4 "constant" (spConstant K CP CR) []) (c_counts_by : C8.Cal P w K mg base 4 "counts_by" (spCountsBy K CP CR) []) (c_divisor_of : C8.Cal P w K mg base 1 "divisor_of" (spDivisor) []) (c_plus : C8.Cal P w K mg base 5 "plus" (spPlus K CP CR) []) (c_sum_with : C8.Cal P w K mg base 4 "sum_with" (spSum K CP CR) []) (c_times : C8.Cal P w K mg base 4 "times" (spTimes K CP CR) []) (c_unknown_power : C8.Cal P w K mg base 4 "unknown_power" (spUnknown K CP CR) []) : C8.Cal P w K mg base 6 "moved" (spMoved K CP CR) [] := by
  refine C8.cal0 F b .nil sc_moved (fun vs H Q E h => ?_) (fun cdv A outer s H vs Q E hr h => ?_)
  · obtain ⟨p, k, v, ts, Ds, n, z, rfl, _⟩ := h
    rfl
  · obtain ⟨p, k, v, ts, Ds, n, z, rfl, hk, hP, pw, h4, h3, h27, top, ⟨r, l, hh, rfl, st1, st2, st3⟩, ok, hn, hn3, q⟩ := h
    have nd := sc_moved.nd
    refine ⟨_, (pss_cons (ps_asg (pv 2) (pg_tup rfl (pgs_cons (pg_tup rfl (pgs_cons (pg_name (i := 3) nd rfl (Or.inl rfl)) (pgs_cons (pg_name (i := 4) nd rfl (Or.inl rfl)) pgs_nil))) (pgs_cons (pg_tup rfl (pgs_cons (pg_name (i := 5) nd rfl (Or.inl rfl)) (pgs_cons (pg_name (i := 6) nd rfl (Or.inl rfl)) pgs_nil))) pgs_nil))))
    (pss_cons (ps_set (i := 7) nd rfl (Or.inl rfl) (C8.pe_c c_divisor_of hr (by decide) (by rfl) (pa_cons (pv 4) (pa_cons (pv 6) pa_nil))))
    (pss_cons (ps_set (i := 8) nd rfl (Or.inl rfl) (pe_op op_mulW (pv 3) (pe_op op_fdivW (pv 6) (pv 7))))
    (pss_cons (ps_set (i := 9) nd rfl (Or.inl rfl) (C8.pe_c c_plus hr (by decide) (by rfl) (pa_cons (C8.pe_c c_constant hr (by decide) (by rfl) (pa_cons (pv 8) pa_nil)) (pa_cons (C8.pe_c c_times hr (by decide) (by rfl) (pa_cons (C8.pe_c c_constant hr (by decide) (by rfl) (pa_cons (pe_op op_sub (pe_op op_mulW (pv 5) (pe_op op_fdivW (pv 4) (pv 7))) (pv 8)) pa_nil)) (pa_cons (C8.pe_c c_unknown_power hr (by decide) (by rfl) (pa_cons (pv 1) (pa_cons pe_int pa_nil))) pa_nil))) pa_nil))))
    (pss_cons (ps_set (i := 10) nd rfl (Or.inl rfl) (pe_op op_mulW (pv 4) (pe_op op_fdivW (pv 6) (pv 7))))
    (pss_cons (ps_par (i := 11) (j := 12) rfl nd rfl rfl (by decide) rfl rfl (pa_cons (C8.pe_c c_constant hr (by decide) (by rfl) (pa_cons pe_int pa_nil)) (pa_cons pe_int pa_nil)) (by rfl))
    (pss_cons (ps_set (i := 13) nd rfl (Or.inl rfl) (C8.pe_c c_counts_by hr (by decide) (by rfl) (pa_cons (pv 0) (pa_cons (pv 1) pa_nil))))
    (pss_cons (ps_for PassesOwn.never rfl (pi_list (pe_revLK K (pv 13))) (pg_name (i := 14) nd rfl (Or.inl rfl))
      (pss_cons (ps_set (i := 11) nd rfl (Or.inl rfl) (C8.pe_c c_sum_with hr (by decide) (by rfl) (pa_cons (C8.pe_c c_times hr (by decide) (by rfl) (pa_cons (pv 11) (pa_cons (pv 9) pa_nil))) (pa_cons (pv 14) (pa_cons (pv 12) pa_nil)))))
        (pss_one (ps_aug (i := 12) nd rfl (.inl rfl) (pv 10) ip_mulW))))
    (pss_one (ps_ret (pe_tup (pa_cons (pv 11) (pa_cons (pe_op op_fdivW (pv 12) (pv 10)) pa_nil))))))))))))), ?_⟩
    have nu := ok.nums
    have hkD : k < Ds.length := by omega
    have hD3 := getD_le h3 k
    have pg := pw.pg h4 h3
    have hlen : ts.length ≤ 27 := Nat.le_trans pw.len h27
    have hg9 : (z.gi).natAbs < 2 ^ 200 := nu.gb
    have c1 : CDivW z.d z.gi := wide_div nu.g hg9 (by decide) (by decide)
    have c2 : CDivW z.b z.gi := wide_div nu.g hg9 (by decide) (by decide)
    have m1 : CMulW z.a (z.d / z.gi) := wide_mul ok.ba nu.q1 (by decide) (by decide) (by decide)
    have m2 : CMulW z.c (z.b / z.gi) := wide_mul ok.bc nu.q2 (by decide) (by decide) (by decide)
    have m3 : CMulW z.b (z.d / z.gi) := wide_mul (bits_le ok.bb (show 146 < 200 by decide)) nu.q1 (by decide) (by decide) (by decide)
    -- (low, by), (high, other) = stretch
    refine ⟨_, rfl, _, _, rfl, st1, rfl, _, _, rfl, ⟨_, _, rfl, st2, rfl, _, _, rfl, _, _, rfl, rfl, ?_⟩⟩
    refine ⟨_, _, rfl, ⟨_, _, rfl, st3, rfl, _, _, rfl, _, _, rfl, rfl, ?_⟩⟩
    refine ⟨rfl, ?_⟩
    -- common, begin
    refine ⟨_, rfl, _, rfl, _, _, rfl, ?_⟩
    refine ⟨_, rfl, _, rfl, _, rfl, _, _, rfl, rfl, c1, _, _, rfl, rfl, m1, ?_⟩
    -- line
    refine ⟨_, rfl, _, rfl, ?_⟩
    intro H1 p1 ts1 s1 hP1 hq1
    obtain ⟨g1, l1, n1, le1⟩ := const_of hq1
    refine ⟨_, rfl, _, rfl, _, rfl, _, _, rfl, rfl, c2, _, _, rfl, rfl, m2, _, rfl, _, _, rfl, rfl, _, rfl, ?_⟩
    intro H2 p2 ts2 s2 hP2 hq2
    obtain ⟨g2, l2, n2, le2⟩ := const_of hq2
    refine ⟨_, rfl, k, 1, rfl, hk, (by decide), (by decide), ?_⟩
    intro H3 p3 ts3 s3 hP3 e3
    subst e3
    refine ⟨p2, p3, ts2, _, 0, 1, rfl, hP2.same s3, hP3, g2, unit_pg (by decide), by decide, Nat.lt_of_le_of_lt (Nat.mul_le_mul_right _ le2) (by show 1 * 1 < 64; decide), ?_, (by rw [nrm_one]; show 1 < 2 ^ 100000; exact Nat.one_lt_two_pow (by decide)), fun H4 p4 ts4 s4 hP4 g4 l4 n4 => ?_⟩
    · rw [n2]
      exact bits_up nu.b3 (by decide)
    have e4 : ∀ w, lin ts4 w = z.st * w (zs4.set k 1) := fun w => by
      rw [l4, l2]
      show z.st * lin _ _ = _
      rw [lin_one]
      show z.st * (1 * w (addP zs4 (zs4.set k 1))) = _
      rw [show addP zs4 (zs4.set k 1) = zs4.set k 1 by rcases le3 (show k ≤ 3 by omega) with rfl | rfl | rfl | rfl <;> rfl, Int.one_mul]
    have s24 := s2.trans (s3.trans s4)
    have nn4 : nrm ts4 ≤ z.st.natAbs := by
      refine Nat.le_trans n4 ?_
      rw [n2, nrm_one]
      show z.st.natAbs * 1 ≤ _
      omega
    have ll : ∀ {f : List Tm}, (f.map (·.1)).Nodup → (∀ t ∈ f, t.2 ≠ 0) → (∀ q, q ≠ zs4 → q ≠ zs4.set k 1 → lin f (ind q) = 0) → f.length ≤ 2 := fun {f} nd nz hz => by
      rw [← List.length_map (f := (·.1))]
      refine nd.length_le_of_subset (l₂ := [zs4, zs4.set k 1]) fun q hq => ?_
      apply Classical.byContradiction
      intro hn
      obtain ⟨t, ht, rfl⟩ := List.mem_map.mp hq
      have := hz t.1 (fun e => hn (by rw [e]; simp)) (fun e => hn (by rw [e]; simp))
      rw [lin_ind_mem nd ht] at this
      exact nz t ht this
    have le4 : ts4.length ≤ 2 := ll g4.nd g4.nz fun q h1 h2 => by
      rw [e4]
      have : ind q (zs4.set k 1) = 0 := if_neg fun e => h2 e.symm
      rw [this]
      simp
    refine ⟨p1, p4, ts1, ts4, 1, rfl, hP1.same s24, hP4, g1.mono (by decide), g4, by decide, by omega, Nat.lt_of_le_of_lt nn4 (bits_up nu.b3 (by decide)), fun H5 pl tl s5 hPl gl ll5 nl5 => ?_⟩
    have el : ∀ w, lin tl w = z.bg * w zs4 + z.st * w (zs4.set k 1) := fun w => by rw [ll5, l1, e4] <;> rfl
    have lel : tl.length ≤ 2 := ll gl.nd gl.nz fun q h1 h2 => by
      rw [el]
      have h3 : ind q (zs4.set k 1) = 0 := if_neg fun e => h2 e.symm
      have h4 : ind q zs4 = 0 := if_neg fun e => h1 e.symm
      rw [h3, h4]
      simp
    have nl : nrm tl ≤ z.bg.natAbs + z.st.natAbs := by
      refine Nat.le_trans nl5 ?_
      rw [n1]
      exact Nat.add_le_add (Nat.le_refl _) nn4
    have s15 := s1.trans (s24.trans s5)
    -- bottom
    refine ⟨_, rfl, _, rfl, _, rfl, _, _, rfl, rfl, c1, _, _, rfl, rfl, m3, ?_⟩
    -- found, factor
    refine ⟨0, rfl, fun H6 p6 ts6 s6 hP6 hq6 => ?_⟩
    obtain ⟨g6, l6, n6, le6⟩ := const_of hq6
    refine ⟨_, _, rfl, ?_⟩
    -- counts
    have s16 := s15.trans s6
    refine ⟨_, rfl, _, rfl, p, k, ts, Ds.getD k 0, 3, rfl, hk, hP.same s16, pg, by decide, by decide, fun t ht => (inBox_gk (pw.bx t ht) hkD).1, top.has, by omega, by omega, fun H7 lc ps s7 hL hpl hcs => ?_⟩
    have s17 := s16.trans s7
    -- for count in counts[::-1]
    refine ⟨_, rfl, _, _, rfl, hL, ?_⟩
    intro lr hlr
    refine ⟨_, rfl, ⟨_, sqL_at⟩, ?_⟩
    have s18 : Same H (upd H7 lr (.lst ps.reverse)) := s17.trans (same_new hlr)
    have s78 : Same H7 (upd H7 lr (.lst ps.reverse)) := same_new hlr
    have s58 : Same H5 (upd H7 lr (.lst ps.reverse)) := s6.trans (s7.trans s78)
    have hG : z.bt.natAbs + z.bg.natAbs + z.st.natAbs < 2 ^ 450 := by
      have b1 := nu.b1
      have b2 := nu.b2
      have b3 := nu.b3
      have : (2 : Nat) ^ 450 = 4 * 2 ^ 448 := by rw [show 450 = 448 + 2 from rfl, Nat.pow_add, Nat.mul_comm] <;> rfl
      omega
    generalize hGe : z.bt.natAbs + z.bg.natAbs + z.st.natAbs = G at hG
    refine for_list (K := K) (a := lr) (xs := ps.reverse) (fun i σ H' => ∃ f tf x, σ = [some (.ref p), some (.int k), some (.ref r), some (.int z.a), some (.int z.b), some (.int z.c), some (.int z.d), some (.int z.gi), some (.int z.bg), some (.ref pl), some (.int z.bt), some (.ref f), some (.int (z.bt ^ i)), some (.ref lc), x] ∧
      Same (upd H7 lr (.lst ps.reverse)) H' ∧ PolyAt K CP CR H' f tf ∧ PG (3 + (i : Nat)) tf ∧ (∀ w, lin tf w = stepW ts k (Ds.getD k 0) i z.bg z.st z.bt w) ∧ nrm tf ≤ i * G ^ i * nrm ts) ⟨p6, ts6, none, by rw [Int.pow_zero]; rfl, Same.refl _, hP6.same (s7.trans s78), g6.mono (by decide), fun w => by rw [l6, step_zero pw hkD]; simp, by rw [n6]; simp⟩ (fun i σ H' _ ⟨_, _, _, _, s, _⟩ => s.seq sqL_at) (fun i y σ H' hy m => ?_) (fun σ H' m => ?_)
    · obtain ⟨f, tf, x, rfl, s9, hPf, gf, lf, nf⟩ := m
      have hil : i < ps.length := by
        have := (List.getElem?_eq_some_iff.mp hy).1
        rwa [List.length_reverse] at this
      have hiD : i ≤ Ds.getD k 0 := by omega
      rw [List.getElem?_reverse hil] at hy
      obtain ⟨pc, c, rfl, hPc, gc, lcw, nc, lenc⟩ := hcs _ _ hy
      have hj : ps.length - 1 - i = Ds.getD k 0 - i := by omega
      rw [hj] at lcw
      have hlf : tf.length ≤ 27 := Nat.le_trans (len_box gf.nd gf.nz fun q0 hq0 => by rw [lf, step_box pw hkD (by omega) hq0]) h27
      have ntf : nrm tf < 2 ^ 50000 := Nat.lt_of_le_of_lt nf (Nat.lt_of_lt_of_le (nrm_turn hG hn (by omega)) (Nat.pow_le_pow_right (by decide) (by omega)))
      have nl2 : nrm tl < 2 ^ 450 := by omega
      refine ⟨_, rfl, _, rfl, f, pl, tf, tl, _, 1, rfl, hPf, hPl.same (s58.trans s9), gf, gl, by omega, Nat.lt_of_le_of_lt (Nat.mul_le_mul hlf lel) (by decide), Nat.lt_of_lt_of_le ntf (Nat.pow_le_pow_right (by decide) (by decide)), Nat.lt_of_lt_of_le nl2 (Nat.pow_le_pow_right (by decide) (by decide)), fun HA pm tm sA hPm gm lm nm => ?_⟩
      have lm2 : ∀ w, lin tm w = stepW ts k (Ds.getD k 0) i z.bg z.st z.bt (fun a => z.bg * w (addP a zs4) + z.st * w (addP a (zs4.set k 1))) := fun w => by
        rw [lm, lf]
        unfold stepW
        refine lin_congr fun t ht => ?_
        simp only [el]
      have hlm : tm.length ≤ 27 := Nat.le_trans (len_box gm.nd gm.nz fun q0 hq0 => by rw [lm2, step_box2 pw hkD h4 hiD hq0]) h27
      have hPc' := hPc.same (s78.trans (s9.trans sA))
      have pwb : (z.bt ^ i).natAbs < 2 ^ 1800 := bt_pow nu.b1 (by omega)
      have gi0 : (0 : Int) ≤ (i : Int) := by omega
      refine ⟨_, rfl, _, rfl, pm, pc, z.bt ^ i, tm, c, _, rfl, hPm, hPc', gm, gc.mono (by omega), by omega, by omega, bits_up pwb (by decide), Nat.lt_of_le_of_lt nc (Nat.lt_of_lt_of_le hn (Nat.pow_le_pow_right (by decide) (by omega))), fun HB pn tn sB hPn gn ln nn => ?_⟩
      refine ⟨_, rfl, _, rfl, _, _, rfl, rfl, wide_mul pwb nu.b1 (by decide) (by decide) (by decide), ?_⟩
      refine ⟨pn, tn, some (.ref pc), ?_, s9.trans (sA.trans sB), hPn, gn.mono (by omega), fun w => ?_, ?_⟩
      · rw [Int.pow_succ]
        rfl
      · rw [ln, lm2, lcw]
        exact step_next pw hkD h4 hiD w
      · refine Nat.le_trans nn ?_
        rw [Int.natAbs_pow]
        have hG1 : z.bt.natAbs ≤ G := by omega
        have hG2 : z.bg.natAbs + z.st.natAbs ≤ G := by omega
        have hGp : 0 < G := by
          have := nu.btp
          omega
        have a1 : nrm tm ≤ i * G ^ i * nrm ts * G := Nat.le_trans nm (Nat.mul_le_mul nf (Nat.le_trans nl hG2))
        have a2 : z.bt.natAbs ^ i * nrm c ≤ G ^ i * nrm ts := Nat.mul_le_mul (Nat.pow_le_pow_left hG1 i) nc
        have a3 : G ^ i * nrm ts ≤ G ^ (i + 1) * nrm ts := Nat.mul_le_mul_right _ (Nat.pow_le_pow_right hGp (by omega))
        have a4 : i * G ^ i * nrm ts * G = i * (G ^ (i + 1) * nrm ts) := by rw [Nat.pow_succ]; grind
        have a5 : (i + 1) * G ^ (i + 1) * nrm ts = i * (G ^ (i + 1) * nrm ts) + G ^ (i + 1) * nrm ts := by grind
        omega
    · obtain ⟨f, tf, x, rfl, s9, hPf, gf, lf, nf⟩ := m
      rw [List.length_reverse, hpl] at gf lf nf
      have btp := nu.btp
      refine ⟨_, rfl, ?_⟩
      have cd : CDivW (z.bt ^ ps.reverse.length) z.bt := wide_div btp nu.b1 (by decide) (by decide)
      refine ⟨_, rfl, _, rfl, _, _, rfl, rfl, cd, (by show 2 ≤ sizeLine; decide), ?_⟩
      intro rr hrr
      have sr : Same H' (upd H' rr (.tup [.ref f, .int (z.bt ^ ps.reverse.length / z.bt)])) := same_new hrr
      have ed : z.bt ^ ps.reverse.length / z.bt = z.bt ^ Ds.getD k 0 := by
        rw [List.length_reverse, hpl, Int.pow_succ]
        exact Int.mul_ediv_cancel _ (by omega)
      refine q _ rr f tf (s18.trans (s9.trans sr)) ?_ (hPf.same sr) (gf.mono (by omega)) (fun w => by rw [lf, step_last pw hkD]) ?_
      · rw [← ed]
        exact sqT_at
      · exact Nat.lt_of_le_of_lt nf (nrm_turn hG hn (by omega))
end Bx

/-! Bx W7: told_by_counts. -/
namespace Bx
open PySem PySem.Spec PyProof.Rows L2
def spTold (K : PySem.W.Frag) (CP CR : Addr) : Sp := fun vs H Q _ => ∃ (p : Addr) (k : Nat) (ts : List Tm) (Ds : List Nat) (n : Nat), vs = [.ref p, .int k] ∧ k < 4 ∧ PolyAt K CP CR H p ts ∧ PW Ds ts ∧ Ds.length = 4 ∧ (∀ D ∈ Ds, D ≤ 3) ∧ many Ds ≤ 27 ∧ Top ts k (Ds.getD k 0) ∧ nrm ts < 2 ^ n ∧ n ≤ 60000 ∧
  ∀ H' p' ts', Same H H' → PolyAt K CP CR H' p' ts' → PG 10 ts' → (∀ w, lin ts' w = lin ts (op k (Ds.getD k 0) (TT (Ds.getD k 0)) w)) → nrm ts' ≤ 1000 * nrm ts → Q (.ref p') H'
--SP plus := spPlus K CP CR
--SP sum_with := spSum K CP CR
--SP times := spTimes K CP CR
--SP constant := spConstant K CP CR
--SP unknown_power := spUnknown K CP CR
--SP counts_by := spCountsBy K CP CR
--SP degree_by := spDegree K CP CR
--SP product_to := spProduct
--SP told_by_counts := spTold K CP CR
theorem fac_div_bits {i j : Nat} (hi : i ≤ 3) (hj : j ≤ i) : (fac i / fac (i - j)).natAbs < 2 ^ 10 := by
  rcases le3 hi with rfl | rfl | rfl | rfl <;> rcases le3 (show j ≤ 3 by omega) with rfl | rfl | rfl | rfl <;>
    first
    | (exfalso; omega)
    | decide
variable {P : Program} {w : World} {K : PySem.W.Frag} {mg : Str → Option Value} {base : Heap} {CP CR aN : Addr}
theorem ok_told_by_counts {f : Addr} {fd : FuncData} (F : C8.Def K mg "told_by_counts" s_told_by_counts f fd) (b : Binds K fd ["poly", "k"] []) (T : Txt K mg CP CR aN) (c_constant : C8.Cal P w K mg base 4 "constant" (spConstant K CP CR) []) (c_counts_by : C8.Cal P w K mg base 4 "counts_by" (spCountsBy K CP CR) []) (c_degree_by : C8.Cal P w K mg base 1 "degree_by" (spDegree K CP CR) []) (c_plus : C8.Cal P w K mg base 5 "plus" (spPlus K CP CR) []) (c_product_to : C8.Cal P w K mg base 1 "product_to" (spProduct) []) (c_sum_with : C8.Cal P w K mg base 4 "sum_with" (spSum K CP CR) []) (c_times : C8.Cal P w K mg base 4 "times" (spTimes K CP CR) []) (c_unknown_power : C8.Cal P w K mg base 4 "unknown_power" (spUnknown K CP CR) []) : C8.Cal P w K mg base 6 "told_by_counts" (spTold K CP CR) [] := by
  refine C8.cal0 F b .nil sc_told_by_counts (fun vs H Q E h => ?_) (fun cdv A outer s H vs Q E hr h => ?_)
  · obtain ⟨p, k, ts, Ds, n, rfl, _⟩ := h
    rfl
  · obtain ⟨p, k, ts, Ds, n, rfl, hk, hP, pw, h4, h3, h27, top, hn, hn6, q⟩ := h
    have nd := sc_told_by_counts.nd
    refine ⟨_, (pss_cons (ps_set (i := 2) nd rfl (Or.inl rfl) (C8.pe_c c_degree_by hr (by decide) (by rfl) (pa_cons (pv 0) (pa_cons (pv 1) pa_nil))))
    (pss_cons (ps_set (i := 3) nd rfl (Or.inl rfl) (C8.pe_c c_counts_by hr (by decide) (by rfl) (pa_cons (pv 0) (pa_cons (pv 1) pa_nil))))
    (pss_cons (ps_set (i := 4) nd rfl (Or.inl rfl) (C8.pe_c c_constant hr (by decide) (by rfl) (pa_cons pe_int pa_nil)))
    (pss_cons (ps_for PassesOwn.never rfl (pi_range1 (by rfl) T.range (pa_cons (pe_op op_add (pv 2) pe_int) pa_nil)) (pg_name (i := 5) nd rfl (Or.inl rfl))
      (pss_cons (ps_set (i := 6) nd rfl (Or.inl rfl) (C8.pe_c c_constant hr (by decide) (by rfl) (pa_cons pe_int pa_nil)))
        (pss_cons (ps_for PassesOwn.never rfl (pi_range1 (by rfl) T.range (pa_cons (pe_op op_add (pv 5) pe_int) pa_nil)) (pg_name (i := 7) nd rfl (Or.inl rfl))
          (pss_one (ps_set (i := 6) nd rfl (Or.inl rfl) (C8.pe_c c_sum_with hr (by decide) (by rfl) (pa_cons (pv 6) (pa_cons (pe_ix (ix_listK K) (pv 3) (pv 7) (fun _ _ => rfl)) (pa_cons (pe_op op_mulW (pe_op op_fdivW (C8.pe_c c_product_to hr (by decide) (by rfl) (pa_cons (pv 5) pa_nil)) (C8.pe_c c_product_to hr (by decide) (by rfl) (pa_cons (pe_op op_sub (pv 5) (pv 7)) pa_nil))) (C8.pe_c c_product_to hr (by decide) (by rfl) (pa_cons (pe_op op_sub (pv 2) (pv 7)) pa_nil))) pa_nil)))))))
        (pss_one (ps_set (i := 4) nd rfl (Or.inl rfl) (C8.pe_c c_plus hr (by decide) (by rfl) (pa_cons (pv 4) (pa_cons (C8.pe_c c_times hr (by decide) (by rfl) (pa_cons (pv 6) (pa_cons (C8.pe_c c_unknown_power hr (by decide) (by rfl) (pa_cons (pv 1) (pa_cons (pv 5) pa_nil))) pa_nil))) pa_nil))))))))
    (pss_one (ps_ret (pv 4))))))), ?_⟩
    have hkD : k < Ds.length := by omega
    have hD3 := getD_le h3 k
    have pg := pw.pg h4 h3
    have hlen : ts.length ≤ 27 := Nat.le_trans pw.len h27
    have hdeg : ∀ t ∈ ts, t.1.length = 4 ∧ (∀ x ∈ t.1, 0 ≤ x) ∧ gk t.1 k ≤ Ds.getD k 0 := fun t ht => ⟨pg.l4 t ht, fun x hx => (pg.en t ht x hx).1, (inBox_gk (pw.bx t ht) hkD).1⟩
    -- many
    refine ⟨_, rfl, _, rfl, p, k, ts, _, rfl, hk, hP, hdeg, top.has, (by omega), ?_⟩
    intro H1 s1
    -- counts
    refine ⟨_, rfl, _, rfl, p, k, ts, Ds.getD k 0, 3, rfl, hk, hP.same s1, pg, by decide, by decide, fun t ht => (hdeg t ht).2.2, top.has, by omega, by omega, fun H2 lc ps s2 hL hpl hcs => ?_⟩
    refine ⟨0, rfl, fun H3 p3 ts3 s3 hP3 hq3 => ?_⟩
    obtain ⟨g3, l3, n3, le3'⟩ := const_of hq3
    have s13 := s1.trans (s2.trans s3)
    generalize hD : Ds.getD k 0 = D at *
    have eN : (((D : Nat) : Int) + 1).toNat = D + 1 := by omega
    refine ⟨_, rfl, _, _, rfl, rfl, _, rfl, (by omega), (by omega), ?_⟩
    refine for_range (lo := 0) (n := (((D : Nat) : Int) + 1).toNat) (fun i σ H' => ∃ f tf x5 x6 x7, σ = [some (.ref p), some (.int k), some (.int (D : Nat)), some (.ref lc), some (.ref f), x5, x6, x7] ∧ Same H3 H' ∧ PolyAt K CP CR H' f tf ∧ PG 6 tf ∧ (∀ w, lin tf w = toldW ts k D i w) ∧ nrm tf ≤ i * (30 * nrm ts))
      ⟨p3, ts3, _, _, _, rfl, Same.refl _, hP3, g3.mono (by decide), fun w => by rw [l3]; simp [toldW, sumN], by rw [n3]; simp⟩ (fun i σ H' hi m => ?_) (fun σ H' m => ?_)
    · obtain ⟨f, tf, x5, x6, x7, rfl, s4, hPf, gf, lf, nf⟩ := m
      have hiD : i ≤ D := by omega
      -- here = constant(0)
      refine ⟨0, rfl, fun H5 p5 ts5 s5 hP5 hq5 => ?_⟩
      obtain ⟨g5, l5, n5, le5⟩ := const_of hq5
      have eM : ((0 : Int) + ((i : Nat) : Int) + 1).toNat = i + 1 := by omega
      refine ⟨_, rfl, _, _, rfl, rfl, _, rfl, (by omega), (by omega), ?_⟩
      refine for_range (lo := 0) (n := ((0 : Int) + ((i : Nat) : Int) + 1).toNat) (fun j σ H' => ∃ hh th x7, σ = [some (.ref p), some (.int k), some (.int (D : Nat)), some (.ref lc), some (.ref f), some (.int (0 + (i : Nat))), some (.ref hh), x7] ∧ Same H5 H' ∧ PolyAt K CP CR H' hh th ∧ PG 3 th ∧ (∀ w, lin th w = hereW ts k D i j w) ∧ nrm th ≤ j * (6 * nrm ts))
        ⟨p5, ts5, _, rfl, Same.refl _, hP5, g5.mono (by decide), fun w => by rw [l5]; simp [hereW, sumN], by rw [n5]; simp⟩ (fun j σ H' hj m => ?_) (fun σ H' m => ?_)
      · obtain ⟨hh, th, x7, rfl, s6, hPh, gh, lh, nh⟩ := m
        have hji : j ≤ i := by omega
        have hpj : ps[j]? = some ps[j] := List.getElem?_eq_getElem (by omega)
        obtain ⟨pc, c, ev, hPc, gc, lcw, nc, lenc⟩ := hcs j _ hpj
        have s46 := s3.trans (s4.trans (s5.trans s6))
        have hat : atI ps (0 + ((j : Nat) : Int)) = some (.ref pc) := by
          rw [Int.zero_add, ← ev]
          exact atI_nat hpj
        obtain ⟨tb, te⟩ := TT_bits hD3 hiD hji
        have hlh : th.length ≤ 27 := Nat.le_trans (len_box gh.nd gh.nz fun q0 hq0 => by rw [lh, here_box pw hkD hq0]) h27
        refine ⟨_, rfl, _, rfl, _, rfl, _, _, _, _, rfl, rfl, s46.seq hL, hat, ?_⟩
        refine ⟨_, rfl, i, by rw [Int.zero_add]; rfl, by omega, _, rfl, _, rfl, _, _, rfl, rfl, i - j, (by show [V.int (0 + ((i : Nat) : Int) - (0 + ((j : Nat) : Int)))] = [V.int ((i - j : Nat) : Int)]; rw [show (0 : Int) + ((i : Nat) : Int) - (0 + ((j : Nat) : Int)) = ((i - j : Nat) : Int) by omega]), by omega, ?_⟩
        refine ⟨_, _, rfl, rfl, wide_div (fac_pos _) (fac_bits (by omega)) (by decide) (by decide), ?_⟩
        refine ⟨_, rfl, _, rfl, _, _, rfl, rfl, D - j, (by show [V.int (((D : Nat) : Int) - (0 + ((j : Nat) : Int)))] = [V.int ((D - j : Nat) : Int)]; rw [show ((D : Nat) : Int) - (0 + ((j : Nat) : Int)) = ((D - j : Nat) : Int) by omega]), by omega, ?_⟩
        refine ⟨_, _, rfl, rfl, wide_mul (fac_div_bits (by omega) hji) (fac_bits (by omega)) (by decide) (by decide) (by decide), ?_⟩
        refine ⟨hh, pc, _, th, c, 3, rfl, hPh, hPc.same s46, gh, gc, by decide, by omega, ?_, Nat.lt_of_le_of_lt nc (Nat.lt_of_lt_of_le hn (Nat.pow_le_pow_right (by decide) (by omega))), fun H7 pn tn s7 hPn gn ln nn => ?_⟩
        · rw [te]
          exact Nat.lt_of_le_of_lt tb (Nat.lt_of_lt_of_le (show 6 < 2 ^ 3 by decide) (Nat.pow_le_pow_right (by decide) (by decide)))
        · rw [te] at ln nn
          refine ⟨pn, tn, _, rfl, s6.trans s7, hPn, gn, fun w => ?_, ?_⟩
          · rw [ln, lh, lcw] <;> rfl
          · refine Nat.le_trans nn ?_
            have := Nat.mul_le_mul tb nc
            rw [Nat.add_mul]
            omega
      · obtain ⟨hh, th, x7, rfl, s6, hPh, gh, lh, nh⟩ := m
        rw [eM] at lh nh
        have hlh : th.length ≤ 27 := Nat.le_trans (len_box gh.nd gh.nz fun q0 hq0 => by rw [lh, here_box pw hkD hq0]) h27
        have hnb : 30 * nrm ts < 2 ^ 100000 := by
          have h1 : nrm ts < 2 ^ 60000 := Nat.lt_of_lt_of_le hn (Nat.pow_le_pow_right (by decide) (by omega))
          have h2 : (2 : Nat) ^ 60005 ≤ 2 ^ 100000 := Nat.pow_le_pow_right (by decide) (by decide)
          rw [show 60005 = 60000 + 5 from rfl, Nat.pow_add] at h2
          omega
        have nh2 : nrm th ≤ 24 * nrm ts := by
          refine Nat.le_trans nh ?_
          have := Nat.mul_le_mul_right (6 * nrm ts) (show i + 1 ≤ 4 by omega)
          omega
        refine ⟨_, rfl, _, rfl, _, rfl, _, rfl, k, ((i : Nat) : Int), by rw [Int.zero_add]; rfl, hk, by omega, by omega, fun H7 p7 ts7 s7 hP7 e7 => ?_⟩
        subst e7
        refine ⟨hh, p7, th, _, 3, ((i : Nat) : Int), rfl, hPh.same s7, hP7, gh, unit_pg (by omega), by omega, Nat.lt_of_le_of_lt (Nat.mul_le_mul_right _ hlh) (by show 27 * 1 < 64; decide), by omega, (by rw [nrm_one]; show 1 < 2 ^ 100000; exact Nat.one_lt_two_pow (by decide)), fun H8 pm tm s8 hPm gm lm nm => ?_⟩
        have lm2 : ∀ w, lin tm w = lin ts fun q => TT D i (gk q k) * w (q.set k (i : Int)) := fun w => by
          rw [lm, lh, ← here_all pw hkD h4]
          congr 1
          funext a
          rw [lin_one]
          show 1 * w (addP a (zs4.set k (i : Int))) = _
          rw [Int.one_mul]
        have tl : ∀ w, lin tf w + lin tm w = toldW ts k D (i + 1) w := fun w => by rw [lf, lm2] <;> rfl
        have hlf : tf.length ≤ 27 := Nat.le_trans (len_box gf.nd gf.nz fun q0 hq0 => by rw [lf, ← hD, told_box pw hkD (by omega) hq0]) h27
        have hlm : tm.length ≤ 27 := Nat.le_trans (len_box gm.nd gm.nz fun q0 hq0 => by
          have z1 := told_box (i := i) pw hkD (by omega) hq0
          have z2 := told_box (i := i + 1) pw hkD (by omega) hq0
          have z3 := tl (ind q0)
          rw [hD] at z1 z2
          rw [lf, z1, z2] at z3
          omega) h27
        have nm2 : nrm tm ≤ 24 * nrm ts := by
          refine Nat.le_trans nm ?_
          rw [nrm_one]
          show nrm th * 1 ≤ _
          omega
        refine ⟨f, pm, tf, tm, 6, rfl, hPf.same (s5.trans (s6.trans (s7.trans s8))), hPm, gf, gm.mono (by omega), by decide, by omega, by omega, fun H9 pn tn s9 hPn gn ln nn => ?_⟩
        refine ⟨pn, tn, _, _, _, rfl, s4.trans (s5.trans (s6.trans (s7.trans (s8.trans s9)))), hPn, gn, fun w => by rw [ln, tl], ?_⟩
        refine Nat.le_trans nn ?_
        rw [Nat.add_mul]
        omega
    · obtain ⟨f, tf, x5, x6, x7, rfl, s4, hPf, gf, lf, nf⟩ := m
      rw [eN] at lf nf
      refine ⟨_, rfl, ?_⟩
      refine q H' f tf (s13.trans s4) hPf (gf.mono (by decide)) (fun w => by rw [lf, told_last]) ?_
      refine Nat.le_trans nf ?_
      have := Nat.mul_le_mul_right (30 * nrm ts) (show D + 1 ≤ 4 by omega)
      omega
end Bx

/-! Bx W8: whole_counts, sign_there, sign_over. -/
namespace Bx
open PySem PySem.Spec PyProof.Rows L2
def bzOf (bs : List S4) (Ds : List Nat) : List Bz := List.zipWith (fun z D => ⟨D, z.bg, z.bg + z.st, z.bt⟩) bs Ds
theorem bzOf_take {bs : List S4} {Ds : List Nat} {i : Nat} {z : S4} (h : bs[i]? = some z) (hi : i < Ds.length) : (bzOf bs Ds).take (i + 1) = (bzOf bs Ds).take i ++ [⟨Ds.getD i 0, z.bg, z.bg + z.st, z.bt⟩] := by
  refine take_snoc ?_
  unfold bzOf
  rw [List.getElem?_zipWith, h, List.getElem?_eq_getElem hi, List.getD_eq_getElem?_getD, List.getElem?_eq_getElem hi] <;> rfl
theorem opsFrom_snoc (z : Bz) (w : List Int → Int) : ∀ (l : List Bz) (k : Nat), opsFrom k (l ++ [z]) w = opsFrom k l (op (k + l.length) z.D z.m w)
  | [], k => rfl
  | y :: r, k => by
    show op k y.D y.m (opsFrom (k + 1) (r ++ [z]) w) = op k y.D y.m (opsFrom (k + 1) r _)
    rw [opsFrom_snoc z w r (k + 1), show k + 1 + r.length = k + (y :: r).length by simp; omega]
theorem many_snoc : ∀ (l : List Nat) (D : Nat), many (l ++ [D]) = many l * (D + 1)
  | [], D => by simp [many]
  | y :: r, D => by
    show (y + 1) * many (r ++ [D]) = (y + 1) * many r * (D + 1)
    rw [many_snoc r D, Nat.mul_assoc]
theorem many_take : ∀ {Ds : List Nat} {m : Nat}, (∀ k, m ≤ k → Ds.getD k 0 = 0) → many (Ds.take m) = many Ds
  | [], m, _ => by simp
  | D :: r, 0, h => by
    have h0 : D = 0 := h 0 (Nat.le_refl _)
    have ih := many_take (Ds := r) (m := 0) fun k _ => h (k + 1) (Nat.zero_le _)
    show 1 = (D + 1) * many r
    rw [h0, ← ih] <;> rfl
  | D :: r, m + 1, h => by
    show (D + 1) * many (r.take m) = (D + 1) * many r
    rw [many_take fun k hk => h (k + 1) (by omega)]
def spWhole (K : PySem.W.Frag) (CP CR : Addr) : Sp := fun vs H Q _ => ∃ (p a : Addr) (ts : List Tm) (Ds : List Nat) (bs : List S4), vs = [.ref p, .ref a] ∧ PolyAt K CP CR H p ts ∧ PW Ds ts ∧ Ds.length = 4 ∧ (∀ D ∈ Ds, D ≤ 3) ∧ many Ds ≤ 27 ∧ (∀ k, k < 4 → Top ts k (Ds.getD k 0)) ∧ BoxAt K H a bs ∧ (∀ z ∈ bs, z.Ok) ∧ bs.length ≤ 3 ∧ nrm ts < 2 ^ 200 ∧
  ∀ H' r p' ts' fc, Same H H' → SqT K H' r [.ref p', .int fc] → PolyAt K CP CR H' p' ts' → PW Ds ts' → (∀ w, lin ts' w = lin ts (opsFrom 0 (bzOf bs Ds) w)) → Q (.ref r) H'
def spSignThere (K : PySem.W.Frag) (CP CR : Addr) : Sp := fun vs H Q _ => ∃ (p a : Addr) (ts : List Tm) (Ds : List Nat) (bs : List S4), vs = [.ref p, .ref a] ∧ PolyAt K CP CR H p ts ∧ PW Ds ts ∧ Ds.length = 4 ∧ (∀ D ∈ Ds, D ≤ 3) ∧ many Ds ≤ 27 ∧ (∀ k, k < 4 → Top ts k (Ds.getD k 0)) ∧ BoxAt K H a bs ∧ (∀ z ∈ bs, z.Ok) ∧ bs.length ≤ 3 ∧ nrm ts < 2 ^ 200 ∧ (∀ k, bs.length ≤ k → Ds.getD k 0 = 0) ∧
  ∀ H', Same H H' → Q (.int (sgnAll (idxs Ds) fun q => lin ts (opsFrom 0 (bzOf bs Ds) (ind q)))) H'
--SP moved := spMoved K CP CR
--SP told_by_counts := spTold K CP CR
--SP degree_by := spDegree K CP CR
--SP product_to := spProduct
--SP whole_counts := spWhole K CP CR
--SP sign_of_integer := spSign
--SP sign_there := spSignThere K CP CR
--SP check_box := spCheckBox K CP CR
--SP sign_over := spSignThere K CP CR
variable {P : Program} {w : World} {K : PySem.W.Frag} {mg : Str → Option Value} {base : Heap} {CP CR aN : Addr}
theorem ok_whole_counts {f : Addr} {fd : FuncData} (F : C8.Def K mg "whole_counts" s_whole_counts f fd) (b : Binds K fd ["poly", "box"] []) (T : Txt K mg CP CR aN) (c_degree_by : C8.Cal P w K mg base 1 "degree_by" (spDegree K CP CR) []) (c_moved : C8.Cal P w K mg base 6 "moved" (spMoved K CP CR) []) (c_product_to : C8.Cal P w K mg base 1 "product_to" (spProduct) []) (c_told_by_counts : C8.Cal P w K mg base 6 "told_by_counts" (spTold K CP CR) []) : C8.Cal P w K mg base 7 "whole_counts" (spWhole K CP CR) [] := by
  refine C8.cal0 F b .nil sc_whole_counts (fun vs H Q E h => ?_) (fun cdv A outer s H vs Q E hr h => ?_)
  · obtain ⟨p, a, ts, Ds, bs, rfl, _⟩ := h
    rfl
  · obtain ⟨p, a, ts, Ds, bs, rfl, hP, pw, h4, h3, h27, tops, ⟨vs, hT, hBs⟩, hok, hb3, hn, q⟩ := h
    have nd := sc_whole_counts.nd
    refine ⟨_, (pss_cons (ps_set (i := 2) nd rfl (Or.inl rfl) pe_int)
    (pss_cons (ps_for PassesOwn.never rfl (pi_enumTK K (by rfl) T.enumerate (pa_cons (pv 1) pa_nil)) (pg_tup rfl (pgs_cons (pg_name (i := 3) nd rfl (Or.inl rfl)) (pgs_cons (pg_name (i := 4) nd rfl (Or.inl rfl)) pgs_nil)))
      (pss_cons (ps_asg (C8.pe_c c_moved hr (by decide) (by rfl) (pa_cons (pv 0) (pa_cons (pv 3) (pa_cons (pv 4) pa_nil)))) (pg_tup rfl (pgs_cons (pg_name (i := 0) nd rfl (Or.inl rfl)) (pgs_cons (pg_name (i := 5) nd rfl (Or.inl rfl)) pgs_nil))))
        (pss_cons (ps_aug (i := 2) nd rfl (.inl rfl) (pe_op op_mulW (pv 5) (C8.pe_c c_product_to hr (by decide) (by rfl) (pa_cons (C8.pe_c c_degree_by hr (by decide) (by rfl) (pa_cons (pv 0) (pa_cons (pv 3) pa_nil))) pa_nil))) ip_mulW)
        (pss_one (ps_set (i := 0) nd rfl (Or.inl rfl) (C8.pe_c c_told_by_counts hr (by decide) (by rfl) (pa_cons (pv 0) (pa_cons (pv 3) pa_nil))))))))
    (pss_one (ps_ret (pe_tup (pa_cons (pv 0) (pa_cons (pv 2) pa_nil))))))), ?_⟩
    have hvl := paired_len hBs
    refine ⟨_, rfl, _, _, rfl, hT, ?_⟩
    refine for_enumT (K := K) (a := a) (xs := vs) (fun i σ H' => ∃ pp tp fc x3 x4 x5, σ = [some (.ref pp), some (.ref a), some (.int fc), x3, x4, x5] ∧ Same H H' ∧ PolyAt K CP CR H' pp tp ∧ PW Ds tp ∧ (∀ k', i ≤ k' → k' < 4 → Top tp k' (Ds.getD k' 0)) ∧ (∀ w, lin tp w = lin ts (opsFrom 0 ((bzOf bs Ds).take i) w)) ∧
      nrm tp < 2 ^ (200 + 2000 * i) ∧ fc.natAbs < 2 ^ (2000 * i + 1)) ⟨p, ts, 1, _, _, _, rfl, Same.refl _, hP, pw, fun k' _ hk => tops k' hk, fun w => rfl, hn, by decide⟩ (fun i σ H' _ ⟨_, _, _, _, _, _, _, s, _⟩ => same_tup s hT) (fun i x Tt σ H' hx m hTt => ?_) (fun σ H' m => ?_)
    · obtain ⟨pp, tp, fc, x3, x4, x5, rfl, s1, hPp, pwp, tpp, lp, np, fcb⟩ := m
      obtain ⟨z, hz, hst⟩ := paired_at hBs hx
      have hi : i < bs.length := (List.getElem?_eq_some_iff.mp hz).1
      have hi4 : i < 4 := by omega
      have hiD : i < Ds.length := by omega
      have ok := hok z (List.mem_of_getElem? hz)
      have nu := ok.nums
      have hD3 := getD_le h3 i
      have sT : Same H' (upd H' Tt (.tup [.int (i : Nat), x])) := same_new hTt
      have s1T := s1.trans sT
      refine ⟨_, _, rfl, sqT_at, rfl, _, _, rfl, _, _, rfl, rfl, ?_⟩
      refine ⟨_, rfl, _, rfl, _, rfl, pp, i, x, tp, Ds, 200 + 2000 * i, z, rfl, hi4, hPp.same sT, pwp, h4, h3, h27, tpp i (Nat.le_refl _) hi4, hst.same s1T, ok, np, by omega, fun H2 r p2 t2 s2 hr2 hP2 g2 l2 n2 => ?_⟩
      have pw2 : PW Ds t2 := pwp.byOp hiD g2.nd g2.nz l2
      have top2 : Top t2 i (Ds.getD i 0) := Top.moved pwp hiD l2 (by have := nu.stp; omega) (tpp i (Nat.le_refl _) hi4)
      have pg2 := pw2.pg h4 h3
      refine ⟨_, _, rfl, hr2, rfl, _, _, rfl, _, _, rfl, rfl, ?_⟩
      -- factor
      have hdeg : ∀ t ∈ t2, t.1.length = 4 ∧ (∀ x ∈ t.1, 0 ≤ x) ∧ gk t.1 i ≤ Ds.getD i 0 := fun t ht => ⟨pg2.l4 t ht, fun x hx => (pg2.en t ht x hx).1, (inBox_gk (pw2.bx t ht) hiD).1⟩
      have bp : (z.bt ^ Ds.getD i 0).natAbs < 2 ^ 1800 := bt_pow nu.b1 (by omega)
      refine ⟨_, rfl, _, rfl, _, rfl, _, rfl, p2, i, t2, Ds.getD i 0, rfl, hi4, hP2, hdeg, top2.has, Nat.lt_of_le_of_lt (Nat.le_trans pw2.len h27) (by decide), fun H3 s3 => ?_⟩
      refine ⟨Ds.getD i 0, rfl, hD3, _, _, rfl, rfl, wide_mul bp (fac_bits hD3) (by decide) (by decide) (by decide), ?_⟩
      have bm : (z.bt ^ Ds.getD i 0 * fac (Ds.getD i 0)).natAbs < 2 ^ 1810 := wide_lt bp (fac_bits hD3)
      refine ⟨_, _, rfl, rfl, wide_mul fcb bm (by omega) (by decide) (by omega), ?_⟩
      -- told
      refine ⟨_, rfl, _, rfl, p2, i, t2, Ds, _, rfl, hi4, hP2.same s3, pw2, h4, h3, h27, top2, n2, by omega, fun H4 p4 t4 s4 hP4 g4 l4 n4 => ?_⟩
      have pw4 : PW Ds t4 := pw2.byOp hiD g4.nd g4.nz l4
      refine ⟨p4, t4, _, _, _, _, rfl, s1T.trans (s2.trans (s3.trans s4)), hP4, pw4, fun k' hk' hk4 => ?_, fun w => ?_, ?_, ?_⟩
      · have hne : k' ≠ i := by omega
        have t2' : Top t2 k' (Ds.getD k' 0) := Top.keep pwp hiD hne l2 (δ := (z.bt * z.st) ^ Ds.getD i 0) (Int.pow_ne_zero (by
          have := Int.mul_pos nu.btp nu.stp
          omega)) (fun m j hm hj => mov_inv hD3 z.bg z.st z.bt m j hm hj) (tpp k' (by omega) hk4)
        exact Top.keep pw2 hiD hne l4 (δ := fac (Ds.getD i 0)) (by
          have := fac_pos (Ds.getD i 0)
          omega) (fun m j hm hj => tol_inv hD3 m j hm hj) t2'
      · rw [l4, l2, lin_congr (w' := op i (Ds.getD i 0) (MM (Ds.getD i 0) z.bg (z.bg + z.st) z.bt) w) (fun t ht => op_both (pwp.bx t ht) hiD), lp, bzOf_take hz hiD, opsFrom_snoc]
        have e : ((bzOf bs Ds).take i).length = i := by
          rw [List.length_take]
          unfold bzOf
          rw [List.length_zipWith]
          omega
        rw [e, Nat.zero_add] <;> rfl
      · have h1 : 1000 * nrm t2 < 2 ^ 10 * 2 ^ (200 + 2000 * i + 1900) := Nat.mul_lt_mul'' (by decide) n2
        rw [← Nat.pow_add] at h1
        exact Nat.lt_of_le_of_lt n4 (Nat.lt_of_lt_of_le h1 (Nat.pow_le_pow_right (by decide) (by omega)))
      · exact bits_up (wide_lt fcb bm) (by omega)
    · obtain ⟨pp, tp, fc, x3, x4, x5, rfl, s1, hPp, pwp, tpp, lp, np, fcb⟩ := m
      refine ⟨_, rfl, _, rfl, (by show 2 ≤ sizeLine; decide), ?_⟩
      intro r hr
      have sr : Same H' (upd H' r (.tup [.ref pp, .int fc])) := same_new hr
      refine q _ r pp tp fc (s1.trans sr) sqT_at (hPp.same sr) pwp fun w => ?_
      rw [lp, List.take_of_length_le]
      unfold bzOf
      rw [List.length_zipWith]
      omega
theorem dec_nat {n m : Nat} : decide (V.int ((n : Nat) : Int) = V.int ((m : Nat) : Int)) = decide (n = m) := by
  by_cases h : n = m
  · rw [decide_eq_true h, h]
    exact decide_eq_true rfl
  · rw [decide_eq_false h]
    exact decide_eq_false fun z => h (by have := V.int.inj z; omega)
theorem ok_sign_there {f : Addr} {fd : FuncData} (F : C8.Def K mg "sign_there" s_sign_there f fd) (b : Binds K fd ["poly", "box"] []) (T : Txt K mg CP CR aN) (c_degree_by : C8.Cal P w K mg base 1 "degree_by" (spDegree K CP CR) []) (c_sign_of_integer : C8.Cal P w K mg base 1 "sign_of_integer" (spSign) []) (c_whole_counts : C8.Cal P w K mg base 7 "whole_counts" (spWhole K CP CR) []) : C8.Cal P w K mg base 8 "sign_there" (spSignThere K CP CR) [] := by
  refine C8.cal0 F b .nil sc_sign_there (fun vs H Q E h => ?_) (fun cdv A outer s H vs Q E hr h => ?_)
  · obtain ⟨p, a, ts, Ds, bs, rfl, _⟩ := h
    rfl
  · obtain ⟨p, a, ts, Ds, bs, rfl, hP, pw, h4, h3, h27, tops, hB, hok, hb3, hn, hz0, q⟩ := h
    obtain ⟨vs, hT, hBs⟩ := id hB
    have nd := sc_sign_there.nd
    refine ⟨_, (pss_cons (ps_set (i := 2) nd rfl (Or.inl rfl) pe_int)
    (pss_cons (ps_for PassesOwn.never rfl (pi_range1 (by rfl) T.range (pa_cons (pe_callB (call_len_seqK K) (by rfl) T.len PySem.boot_len (pa_cons (pv 1) pa_nil)) pa_nil)) (pg_name (i := 3) nd rfl (Or.inl rfl))
      (pss_one (ps_aug (i := 2) nd rfl (.inl rfl) (pe_op op_add (C8.pe_c c_degree_by hr (by decide) (by rfl) (pa_cons (pv 0) (pa_cons (pv 3) pa_nil))) pe_int) ip_mulW)))
    (pss_cons (ps_asg (C8.pe_c c_whole_counts hr (by decide) (by rfl) (pa_cons (pv 0) (pa_cons (pv 1) pa_nil))) (pg_tup rfl (pgs_cons (pg_name (i := 4) nd rfl (Or.inl rfl)) (pgs_cons (pg_name (i := 5) nd rfl (Or.inl rfl)) pgs_nil))))
    (pss_cons (ps_set (i := 6) nd rfl (Or.inl rfl) (pe_callB (cr_sortedSetK w rfl) (by rfl) T.sorted (by decide +kernel) (pa_cons (pe_callTy (cr_setIK K w rfl) (by rfl) T.set (by decide +kernel) (pa_cons (pe_lc (own := [("powers", 7), ("count", 8)]) (g := (gTup K 2 (gCons (gName 7) (gCons (gName 8) gNil)))) (tt := tYes) rfl nd (pi_tupK K (pe_fldK K (pv 4) rfl)) (blkOk_by (own := [("powers", 7), ("count", 8)]) (N := ["poly", "box", "many", "k", "told", "factor", "signs", "powers", "count"]) (sc := C8.fnScope s_sign_there) (by decide +kernel)) (fun _ _ _ _ _ => (pg_tup rfl (pgs_cons (pg_name (i := 7) nd rfl (Or.inl rfl)) (pgs_cons (pg_name (i := 8) nd rfl (Or.inl rfl)) pgs_nil)))) (fun _ _ _ _ _ => pts_nil) (fun _ _ _ _ _ => (C8.pe_c c_sign_of_integer hr (by decide) (by rfl) (pa_cons (pv 8) pa_nil)))) pa_nil)) pa_nil)))
    (pss_one (ps_ret (pe_ifExp (PW.pt (pw_and (pt_cmpR op_eq (pe_callB (call_len_seqK K) (by rfl) T.len PySem.boot_len (pa_cons (pe_fldK K (pv 4) rfl) pa_nil)) (pv 2) (nomark _)) (pw_and1 (pt_cmpR op_eq (pe_callB (call_len_seqK K) (by rfl) T.len PySem.boot_len (pa_cons (pv 6) pa_nil)) pe_int (nomark _))))) (pe_ix (ix_listK K) (pv 6) pe_int (fun _ _ => rfl)) pe_int))))))), ?_⟩
    have hvl := paired_len hBs
    have pg := pw.pg h4 h3
    refine ⟨_, rfl, _, _, rfl, .inr hT, _, rfl, (by omega), (by omega), ?_⟩
    have eN : (((vs.length : Nat) : Int)).toNat = bs.length := by omega
    refine for_range (lo := 0) (n := (((vs.length : Nat) : Int)).toNat) (fun i σ H' => ∃ x3, σ = [some (.ref p), some (.ref a), some (.int ((many (Ds.take i) : Nat) : Int)), x3, none, none, none, none, none] ∧ Same H H') ⟨_, rfl, Same.refl _⟩ (fun i σ H' hi m => ?_) (fun σ H' m => ?_)
    · obtain ⟨x3, rfl, s1⟩ := m
      have hiD : i < Ds.length := by omega
      have hD3 := getD_le h3 i
      have hdeg : ∀ t ∈ ts, t.1.length = 4 ∧ (∀ x ∈ t.1, 0 ≤ x) ∧ gk t.1 i ≤ Ds.getD i 0 := fun t ht => ⟨pg.l4 t ht, fun x hx => (pg.en t ht x hx).1, (inBox_gk (pw.bx t ht) hiD).1⟩
      refine ⟨_, rfl, _, rfl, _, rfl, p, i, ts, Ds.getD i 0, by rw [Int.zero_add]; rfl, by omega, hP.same s1, hdeg, (tops i (by omega)).has, Nat.lt_of_le_of_lt (Nat.le_trans pw.len h27) (by decide), fun H2 s2 => ?_⟩
      have mb : (((many (Ds.take i) : Nat) : Int)).natAbs < 2 ^ 10 := by
        have hle : many (Ds.take i) * many (Ds.drop i) = many Ds := by
          have hm : ∀ (l m : List Nat), many (l ++ m) = many l * many m := fun l m => by
            induction l with
            | nil => simp [many]
            | cons y r ih =>
              show (y + 1) * many (r ++ m) = (y + 1) * many r * many m
              rw [ih, Nat.mul_assoc]
          rw [← hm, List.take_append_drop]
        have := Nat.le_mul_of_pos_right (many (Ds.take i)) (many_pos (Ds.drop i))
        omega
      refine ⟨_, _, rfl, rfl, _, _, rfl, rfl, wide_mul mb (b := 10) (by omega) (by decide) (by decide) (by decide), ?_⟩
      refine ⟨some (.int (0 + (i : Nat))), ?_, s1.trans s2⟩
      have e : many (Ds.take (i + 1)) = many (Ds.take i) * (Ds.getD i 0 + 1) := by
        rw [take_snoc (x := Ds.getD i 0) (by rw [List.getD_eq_getElem?_getD, List.getElem?_eq_getElem hiD] <;> rfl), many_snoc]
      rw [e]
      show [some (.ref p), some (.ref a), some (.int (((many (Ds.take i) : Nat) : Int) * (((Ds.getD i 0 : Nat) : Int) + 1))), some (.int (0 + (i : Nat))), none, none, none, none, none] = ([some (.ref p), some (.ref a), some (.int ((many (Ds.take i) * (Ds.getD i 0 + 1) : Nat) : Int)), some (.int (0 + (i : Nat))), none, none, none, none, none] : St)
      rw [show ((many (Ds.take i) * (Ds.getD i 0 + 1) : Nat) : Int) = ((many (Ds.take i) : Nat) : Int) * (((Ds.getD i 0 : Nat) : Int) + 1) by push_cast; rfl]
    · obtain ⟨x3, rfl, s1⟩ := m
      rw [eN, many_take hz0]
      -- told, factor
      refine ⟨_, rfl, _, rfl, p, a, ts, Ds, bs, rfl, hP.same s1, pw, h4, h3, h27, tops, hB.same s1, hok, hb3, hn, fun H2 r p2 t2 fc s2 hr2 hP2 pw2 l2 => ?_⟩
      refine ⟨_, _, rfl, hr2, rfl, _, _, rfl, _, _, rfl, rfl, ?_⟩
      obtain ⟨C1, dx1, a1, c1, e1, vs1, hT1, hP1⟩ := hP2
      obtain ⟨cl1, no1⟩ := fieldOk T c1
      have hl1 := paired_len hP1
      have hl27 : t2.length ≤ 27 := Nat.le_trans pw2.len h27
      -- signs
      refine ⟨_, rfl, _, _, _, _, _, rfl, e1, cl1, no1, rfl, _, rfl, ⟨_, hT1⟩, ?_⟩
      intro D hD
      have s12 := s1.trans s2
      refine lc_tup (K := K) (a := a1) (xs := vs1) (fun i H' => H' = upd H2 D (.lst (((t2.take i).map fun t => sg t.2).map V.int))) rfl (fun i H' _ e => by rw [e]; exact same_tup (same_new hD) hT1) (fun i x H' hx e => ?_) (fun H' e => ?_)
      · subst e
        obtain ⟨t, ht, rr, b, rfl, t1, tq⟩ := paired_at hP1 hx
        have hti : i < t2.length := (List.getElem?_eq_some_iff.mp ht).1
        refine ⟨_, _, rfl, same_tup (same_new hD) t1, rfl, _, _, rfl, _, _, rfl, rfl, rfl, ?_⟩
        refine ⟨_, rfl, _, rfl, _, upd_same, ?_, ?_⟩
        · rw [List.length_map, List.length_map, List.length_take]
          exact Nat.lt_of_lt_of_le (show min i t2.length < 64 by omega) (by decide)
        · rw [upd_upd, take_snoc ht, List.map_append, List.map_append] <;> rfl
      · subst e
        rw [hl1, List.take_length]
        refine ⟨D, t2.map fun t => sg t.2, rfl, sqL_at, by rw [List.length_map]; omega, fun ps S n hps hnl hS => ?_⟩
        rw [List.length_map] at hnl
        refine ⟨ps, S, n, rfl, upd_same, by omega, fun signs pl hpw hmem hsl hpl => ?_⟩
        have sD : Same H2 (upd H2 D (.lst ((t2.map fun t => sg t.2).map V.int))) := same_new hD
        have sP : Same (upd H2 D (.lst ((t2.map fun t => sg t.2).map V.int))) (upd (upd H2 D (.lst ((t2.map fun t => sg t.2).map V.int))) ps (SetO w ps S n)) := same_new hps
        have sL : Same (upd (upd H2 D (.lst ((t2.map fun t => sg t.2).map V.int))) ps (SetO w ps S n)) (upd (upd (upd H2 D (.lst ((t2.map fun t => sg t.2).map V.int))) ps (SetO w ps S n)) pl (.lst (signs.map V.int))) := same_new hpl
        have s2L := sD.trans (sP.trans sL)
        have sAll := s12.trans s2L
        have hsg : ∀ s, s ∈ signs ↔ ∃ t ∈ t2, s = sg t.2 := fun s => by
          rw [hmem, hS, List.mem_map]
          constructor
          · rintro ⟨t, ht, e⟩
            exact ⟨t, ht, e.symm⟩
          · rintro ⟨t, ht, e⟩
            exact ⟨t, ht, e.symm⟩
        have fin := told_sign pw2 hpw hsg
        have fin2 : sgnAll (idxs Ds) (fun q => lin t2 (ind q)) = sgnAll (idxs Ds) fun q => lin ts (opsFrom 0 (bzOf bs Ds) (ind q)) := by
          congr 1
          funext q
          rw [l2]
        rw [fin2] at fin
        -- the answer
        refine ⟨_, rfl, _, _, _, _, _, rfl, (s2L _ _ e1), cl1, no1, rfl, _, _, rfl, .inr (same_tup s2L hT1), _, rfl, rfl, _, rfl, ?_⟩
        rw [hl1, dec_nat]
        by_cases c1 : t2.length = many Ds
        · rw [decide_eq_true c1]
          refine ⟨_, rfl, _, _, rfl, .inl sqL_at, rfl, _, rfl, ?_⟩
          have e1 : decide (V.int (((signs.map V.int).length : Nat) : Int) = V.int 1) = decide (signs.length = 1) := by
            rw [List.length_map]
            exact dec_nat (m := 1)
          rw [e1]
          by_cases c2 : signs.length = 1
          · rw [decide_eq_true c2]
            obtain ⟨x, rfl⟩ : ∃ x, signs = [x] := by
              match signs, c2 with
              | [x], _ => exact ⟨x, rfl⟩
            refine ⟨_, rfl, _, _, _, _, rfl, rfl, sqL_at, (by rfl), ?_⟩
            rw [if_pos ⟨c1, rfl⟩] at fin
            have := q _ sAll
            rw [← fin] at this
            exact this
          · rw [decide_eq_false c2]
            rw [if_neg (fun z => c2 z.2)] at fin
            have := q _ sAll
            rw [← fin] at this
            exact this
        · rw [decide_eq_false c1]
          rw [if_neg (fun z => c1 z.1)] at fin
          have := q _ sAll
          rw [← fin] at this
          exact this
theorem ok_sign_over {f : Addr} {fd : FuncData} (F : C8.Def K mg "sign_over" s_sign_over f fd) (b : Binds K fd ["poly", "box"] []) (T : Txt K mg CP CR aN) (c_check_box : C8.Cal P w K mg base 5 "check_box" (spCheckBox K CP CR) []) (c_sign_there : C8.Cal P w K mg base 8 "sign_there" (spSignThere K CP CR) []) : C8.Cal P w K mg base 9 "sign_over" (spSignThere K CP CR) [] := by
  refine C8.cal0 F b .nil sc_sign_over (fun vs H Q E h => ?_) (fun cdv A outer s H vs Q E hr h => ?_)
  · obtain ⟨p, a, ts, Ds, bs, rfl, _⟩ := h
    rfl
  · obtain ⟨p, a, ts, Ds, bs, rfl, hP, pw, h4, h3, h27, tops, hB, hok, hb3, hn, hz0, q⟩ := h
    have nd := sc_sign_over.nd
    refine ⟨_, (pss_cons (ps_expr (C8.pe_c c_check_box hr (by decide) (by rfl) (pa_cons (pv 0) (pa_cons (pv 1) pa_nil))))
    (pss_one (ps_ret (C8.pe_c c_sign_there hr (by decide) (by rfl) (pa_cons (pv 0) (pa_cons (pv 1) pa_nil)))))), ?_⟩
    refine ⟨_, rfl, _, rfl, p, a, ts, bs, rfl, hP, hB, hb3, hok, fun t ht => ?_, Nat.lt_of_le_of_lt (Nat.le_trans pw.len h27) (by decide), fun H1 s1 => ?_⟩
    · have hb := pw.bx t ht
      have hl : t.1.length = 4 := by rw [inBox_len hb, h4]
      refine ⟨hl, ?_⟩
      apply List.ext_getElem?
      intro j
      rw [List.getElem?_drop, List.getElem?_drop]
      by_cases c : bs.length + j < 4
      · have h0 := inBox_gk hb (show bs.length + j < Ds.length by omega)
        rw [hz0 _ (by omega)] at h0
        have e1 : t.1[bs.length + j]? = some (t.1.getD (bs.length + j) 0) := by rw [List.getD_eq_getElem?_getD, List.getElem?_eq_getElem (by omega)] <;> rfl
        have e2 : t.1.getD (bs.length + j) 0 = 0 := by omega
        rw [e1, e2]
        rcases (show bs.length + j = 0 ∨ bs.length + j = 1 ∨ bs.length + j = 2 ∨ bs.length + j = 3 by omega) with e | e | e | e <;> rw [e] <;> rfl
      · rw [List.getElem?_eq_none (by omega), List.getElem?_eq_none (by show 4 ≤ _; omega)]
    · exact ⟨_, rfl, _, rfl, p, a, ts, Ds, bs, rfl, hP.same s1, pw, h4, h3, h27, tops, hB.same s1, hok, hb3, hn, hz0, fun H2 s2 => q H2 (s1.trans s2)⟩
end Bx

/-! Bx L1: the law's hand. -/
namespace Bx
open PySem PySem.Spec PyProof.Rows L2
def kC : Key := .inr "cells"
def kA : Key := .inr "at"
def kL : Key := .inr "left"
def kS : Key := .inr "seed"
def kT : Key := .inr "turn"
theorem kCA : ¬ kC = kA := by decide +kernel
theorem kCL : ¬ kC = kL := by decide +kernel
theorem kCS : ¬ kC = kS := by decide +kernel
theorem kCT : ¬ kC = kT := by decide +kernel
theorem kAC : ¬ kA = kC := by decide +kernel
theorem kAL : ¬ kA = kL := by decide +kernel
theorem kAS : ¬ kA = kS := by decide +kernel
theorem kAT : ¬ kA = kT := by decide +kernel
theorem kLC : ¬ kL = kC := by decide +kernel
theorem kLA : ¬ kL = kA := by decide +kernel
theorem kLS : ¬ kL = kS := by decide +kernel
theorem kLT : ¬ kL = kT := by decide +kernel
theorem kSC : ¬ kS = kC := by decide +kernel
theorem kSA : ¬ kS = kA := by decide +kernel
theorem kSL : ¬ kS = kL := by decide +kernel
theorem kST : ¬ kS = kT := by decide +kernel
theorem kTC : ¬ kT = kC := by decide +kernel
theorem kTA : ¬ kT = kA := by decide +kernel
theorem kTL : ¬ kT = kL := by decide +kernel
theorem kTS : ¬ kT = kS := by decide +kernel
def handK (l : Addr) (a b c e : Int) : List (Key × V) := [(kC, .ref l), (kA, .int a), (kL, .int b), (kS, .int c), (kT, .int e)]
section
variable {H : Hp} {d l : Addr} {a b c e x : Int}
theorem g_cells (h : H d = some (.dK (handK l a b c e))) : DGet H d (.str "cells") (some (.ref l)) := .inl ⟨_, kC, .inl h, rfl, by unfold handK; rw [valV_pos rfl]⟩
theorem g_at (h : H d = some (.dK (handK l a b c e))) : DGet H d (.str "at") (some (.int a)) := .inl ⟨_, kA, .inl h, rfl, by unfold handK; rw [valV_neg kCA, valV_pos rfl]⟩
theorem g_left (h : H d = some (.dK (handK l a b c e))) : DGet H d (.str "left") (some (.int b)) := .inl ⟨_, kL, .inl h, rfl, by unfold handK; rw [valV_neg kCL, valV_neg kAL, valV_pos rfl]⟩
theorem g_seed (h : H d = some (.dK (handK l a b c e))) : DGet H d (.str "seed") (some (.int c)) := .inl ⟨_, kS, .inl h, rfl, by unfold handK; rw [valV_neg kCS, valV_neg kAS, valV_neg kLS, valV_pos rfl]⟩
theorem g_turn (h : H d = some (.dK (handK l a b c e))) : DGet H d (.str "turn") (some (.int e)) := .inl ⟨_, kT, .inl h, rfl, by unfold handK; rw [valV_neg kCT, valV_neg kAT, valV_neg kLT, valV_neg kST, valV_pos rfl]⟩
theorem put_at : putK (handK l a b c e) kA (.int x) = handK l x b c e := by
  unfold putK handK
  simp [kCA, kAC, kLA, kSA, kTA]
theorem put_left : putK (handK l a b c e) kL (.int x) = handK l a x c e := by
  unfold putK handK
  simp [kCL, kAL, kLA, kSL, kTL]
theorem put_seed : putK (handK l a b c e) kS (.int x) = handK l a b x e := by
  unfold putK handK
  simp [kCS, kAS, kLS, kSA, kTS]
theorem put_turn : putK (handK l a b c e) kT (.int x) = handK l a b c x := by
  unfold putK handK
  simp [kCT, kAT, kLT, kST, kTA]
theorem five {l : Addr} {a b c e : Int} : (handK l a b c e).length < sizeLine := by
  show 5 < sizeLine
  decide
theorem p_at (h : H d = some (.dK (handK l a b c e))) : DPut H d (.str "at") (.int x) (upd H d (.dK (handK l x b c e))) := .inl ⟨_, kA, h, rfl, five, by rw [put_at]⟩
theorem p_left (h : H d = some (.dK (handK l a b c e))) : DPut H d (.str "left") (.int x) (upd H d (.dK (handK l a x c e))) := .inl ⟨_, kL, h, rfl, five, by rw [put_left]⟩
theorem p_seed (h : H d = some (.dK (handK l a b c e))) : DPut H d (.str "seed") (.int x) (upd H d (.dK (handK l a b x e))) := .inl ⟨_, kS, h, rfl, five, by rw [put_seed]⟩
theorem p_turn (h : H d = some (.dK (handK l a b c e))) : DPut H d (.str "turn") (.int x) (upd H d (.dK (handK l a b c x))) := .inl ⟨_, kT, h, rfl, five, by rw [put_turn]⟩
end
/-- all but the hand stays -/
def Kp (d : Addr) (H H' : Hp) : Prop := ∀ b o, b ≠ d → H b = some o → H' b = some o
def IsH (H : Hp) (d : Addr) : Prop := ∃ kvs : List (Key × V), H d = some (.dK kvs)
section
variable {K : PySem.W.Frag} {H H' H1 H2 : Hp} {d a : Addr} {xs : List V}
theorem Kp.refl : Kp d H H := fun _ _ _ e => e
theorem Kp.trans (x : Kp d H H1) (y : Kp d H1 H2) : Kp d H H2 := fun b o n e => y b o n (x b o n e)
theorem Kp.of (s : Same H H') : Kp d H H' := fun b o _ e => s b o e
theorem Kp.upd {o : HO} : Kp d H (L2.upd H d o) := fun b u n e => by
  rw [upd_ne n]
  exact e
theorem Kp.tup (k : Kp d H H') (h : IsH H d) (t : SqT K H a xs) : SqT K H' a xs := by
  obtain ⟨kvs, h⟩ := h
  rcases t with (t | ⟨o, t⟩) | t
  · exact .inl (.inl (k a _ (fun z => by rw [z, h] at t; cases t) t))
  · exact .inl (.inr ⟨o, k a _ (fun z => by rw [z, h] at t; cases t) t⟩)
  · exact .inr t
theorem Kp.seq (k : Kp d H H') (h : IsH H d) (t : SqL K H a xs) : SqL K H' a xs := by
  obtain ⟨kvs, h⟩ := h
  rcases t with (t | ⟨o, t⟩) | t
  · exact .inl (.inl (k a _ (fun z => by rw [z, h] at t; cases t) t))
  · exact .inl (.inr ⟨o, k a _ (fun z => by rw [z, h] at t; cases t) t⟩)
  · exact .inr t
theorem Kp.lst {l : List V} (k : Kp d H H') (h : IsH H d) (t : H a = some (.lst l)) : H' a = some (.lst l) := by
  obtain ⟨kvs, h⟩ := h
  exact k a _ (fun z => by rw [z, h] at t; cases t) t
theorem Kp.term {v : V} {t : Tm} (k : Kp d H H') (h : IsH H d) (x : TermAt K H v t) : TermAt K H' v t :=
  let ⟨r, q, e, h1, h2⟩ := x; ⟨r, q, e, k.tup h h1, k.tup h h2⟩
theorem Kp.poly {CP CR p : Addr} {ts : List Tm} (k : Kp d H H') (h : IsH H d) (x : PolyAt K CP CR H p ts) : PolyAt K CP CR H' p ts := by
  obtain ⟨C, dx, a, c, e, vs, h1, h2⟩ := x
  obtain ⟨kvs, h'⟩ := id h
  exact ⟨C, dx, a, c, k p _ (fun z => by rw [z, h'] at e; cases e) e, vs, k.tup h h1, paired_mono (fun _ _ y => k.term h y) h2⟩
theorem Kp.stretch {v : V} {z : S4} (k : Kp d H H') (h : IsH H d) (x : StretchAt K H v z) : StretchAt K H' v z :=
  let ⟨r, l, g, e, h1, h2, h3⟩ := x; ⟨r, l, g, e, k.tup h h1, k.tup h h2, k.tup h h3⟩
theorem Kp.box {bs : List S4} (k : Kp d H H') (h : IsH H d) (x : BoxAt K H a bs) : BoxAt K H' a bs :=
  let ⟨vs, h1, h2⟩ := x; ⟨vs, k.tup h h1, paired_mono (fun _ _ y => k.stretch h y) h2⟩
theorem Kp.dd {P : Program} {w : World} {kvs : List (List Int × V)} (k : Kp d H H') (h : IsH H d) (x : DD P w K H a kvs) : DD P w K H' a kvs := by
  obtain ⟨xs, o, e, ek, t⟩ := x
  obtain ⟨kk, h'⟩ := id h
  exact ⟨xs, o, k a _ (fun z => by rw [z, h'] at e; cases e) e, ek, fun p hp => k.tup h (t p hp)⟩
end
def HandAt (K : PySem.W.Frag) (H : Hp) (d l : Addr) : Prop := ∃ (cs : List Int) (a b c e : Int), H d = some (.dK (handK l a b c e)) ∧ H l = some (.lst (cs.map V.int)) ∧ 0 ≤ a ∧ a ≤ cs.length ∧ 0 ≤ b ∧ ∀ x ∈ cs, 0 ≤ x
theorem HandAt.is {K : PySem.W.Frag} {H : Hp} {d l : Addr} (h : HandAt K H d l) : IsH H d := let ⟨_, _, _, _, _, e, _⟩ := h; ⟨_, e⟩
theorem HandAt.same {K : PySem.W.Frag} {H H' : Hp} {d l : Addr} (s : Same H H') (h : HandAt K H d l) : HandAt K H' d l :=
  let ⟨cs, a, b, c, e, h1, h2, r⟩ := h; ⟨cs, a, b, c, e, s _ _ h1, s _ _ h2, r⟩
theorem at_int {ns : List Int} {x : Int} (h0 : 0 ≤ x) (h : x.toNat < ns.length) : atI (ns.map V.int) x = some (.int ns[x.toNat]) := by
  obtain ⟨n, rfl⟩ := Int.eq_ofNat_of_zero_le h0
  have h' : n < ns.length := h
  exact atI_nat (by rw [List.getElem?_map, List.getElem?_eq_getElem h'] <;> rfl)
def spHand (K : PySem.W.Frag) : Sp := fun vs H Q _ => ∃ (a : Addr) (ns : List Int), vs = [.ref a] ∧ SqL K H a (ns.map V.int) ∧ ns.length ≤ 63 ∧ ∀ H' d l, Same H H' → HandAt K H' d l → Q (.ref d) H'
def spDraw (K : PySem.W.Frag) : Sp := fun vs H Q _ => ∃ (d lc : Addr) (m : Int), vs = [.ref d, .int m] ∧ HandAt K H d lc ∧ 0 < m ∧ m.natAbs < 2 ^ 8000 ∧ ∀ H' x, Kp d H H' → HandAt K H' d lc → 0 ≤ x → x < m → Q (.int x) H'
def spAny (K : PySem.W.Frag) : Sp := fun vs H Q _ => ∃ (d lc l : Addr) (ns : List Int), vs = [.ref d, .ref l] ∧ HandAt K H d lc ∧ SqL K H l (ns.map V.int) ∧ ns ≠ [] ∧ ns.length ≤ 100 ∧ ∀ H' x, Kp d H H' → HandAt K H' d lc → x ∈ ns → Q (.int x) H'
--SP _law_hand := spHand K
--SP _law_draw := spDraw K
--SP _law_any := spAny K
variable {P : Program} {w : World} {K : PySem.W.Frag} {mg : Str → Option Value} {base : Heap} {CP CR aN : Addr}
theorem ok__law_hand {f : Addr} {fd : FuncData} (F : C8.Def K mg "_law_hand" s__law_hand f fd) (b : Binds K fd ["_law_script"] []) (T : Txt K mg CP CR aN) : C8.Cal P w K mg base 1 "_law_hand" (spHand K) [] := by
  refine C8.cal0 F b .nil sc__law_hand (fun vs H Q E h => ?_) (fun cdv A outer s H vs Q E hr h => ?_)
  · obtain ⟨a, ns, rfl, _⟩ := h
    rfl
  · obtain ⟨a, ns, rfl, hL, hlen, q⟩ := h
    have nd := sc__law_hand.nd
    refine ⟨_, (pss_cons (ps_setLc (i := 1) (own := [("_law_cell", 2)]) (g := (gName 2)) (tt := tYes) rfl nd rfl rfl (sw_true rfl rfl rfl (by decide +kernel)) (pi_list (pe_slice (sl_listK K) (pv 0) po_none (po_some pe_int))) (blkOk_by (own := [("_law_cell", 2)]) (N := ["_law_script", "_law_cells", "_law_cell"]) (sc := C8.fnScope s__law_hand) (by decide +kernel)) (fun _ _ _ _ _ => (pg_name (i := 2) nd rfl (Or.inl rfl))) (fun _ _ _ _ _ => pts_nil) (fun _ _ _ _ _ => (pe_callB call_abs (by rfl) T.abs (by decide +kernel) (pa_cons (pe_callTy call_int1 (by rfl) T.int (by decide +kernel) (pa_cons (pv 2) pa_nil)) pa_nil))))
    (pss_one (ps_ret (pe_disp (pps_cons pe_str (pv 1) (pps_cons pe_str pe_int (pps_cons pe_str pe_int (pps_cons pe_str (pe_op op_add pe_int (pe_callB (call_len_seqK K) (by rfl) T.len PySem.boot_len (pa_cons (pv 1) pa_nil))) (pps_cons pe_str pe_int pps_nil))))) (by rfl) (by rfl) (fun z => by cases z) (by decide))))), ?_⟩
    refine ⟨_, rfl, ?_⟩
    unfold tNoPart
    refine ⟨_, rfl, _, _, rfl, hL, ?_⟩
    intro l0 hl0
    refine ⟨_, rfl, ⟨_, sqL_at⟩, fun D hD => ?_⟩
    have ecut : cutV (ns.map V.int) none (some 63) = ns.map V.int := by
      unfold cutV
      rw [HT.sIx_none, List.drop_zero, List.take_of_length_le]
      rw [List.length_map]
      have := HT.sIx_nat ns.length ns.length 63
      rw [show ((63 : Nat) : Int) = 63 from rfl] at this
      rw [this]
      omega
    rw [ecut] at hD ⊢
    have s0 : Same H (upd H l0 (.lst (ns.map V.int))) := same_new hl0
    refine lc_list (K := K) (a := l0) (xs := ns.map V.int) (fun i H' => H' = upd (upd H l0 (.lst (ns.map V.int))) D (.lst (((ns.take i).map fun x => if x < 0 then -x else x).map V.int))) rfl (fun i H' _ e => by rw [e]; exact (same_new hD).seq sqL_at) (fun i x H' hx e => ?_) (fun H' e => ?_)
    · subst e
      rw [List.getElem?_map] at hx
      cases hi : ns[i]? with
      | none =>
        rw [hi] at hx
        cases hx
      | some u =>
        rw [hi] at hx
        cases hx
        have hil : i < ns.length := (List.getElem?_eq_some_iff.mp hi).1
        refine ⟨rfl, _, rfl, .inl ⟨_, rfl, _, rfl, _, upd_same, ?_, ?_⟩⟩
        · rw [List.length_map, List.length_map, List.length_take]
          exact Nat.lt_of_lt_of_le (show min i ns.length < 64 by omega) (by decide)
        · rw [upd_upd, take_snoc hi, List.map_append, List.map_append] <;> rfl
    · subst e
      rw [List.length_map, List.take_length]
      intro d hd
      have sD : Same H (upd (upd H l0 (.lst (ns.map V.int))) D (.lst ((ns.map fun x => if x < 0 then -x else x).map V.int))) := s0.trans (same_new hD)
      have sd : Same (upd (upd H l0 (.lst (ns.map V.int))) D (.lst ((ns.map fun x => if x < 0 then -x else x).map V.int))) (upd (upd (upd H l0 (.lst (ns.map V.int))) D (.lst ((ns.map fun x => if x < 0 then -x else x).map V.int))) d (.dK [])) := same_new hd
      have hDl : SqL K (upd (upd (upd H l0 (.lst (ns.map V.int))) D (.lst ((ns.map fun x => if x < 0 then -x else x).map V.int))) d (.dK [])) D ((ns.map fun x => if x < 0 then -x else x).map V.int) := sd.seq sqL_at
      refine ⟨_, rfl, _, rfl, _, _, rfl, .inl hDl, _, _, rfl, rfl, ?_⟩
      refine ⟨upd_same, [(kC, .ref D), (kA, .int 0), (kL, .int 0), (kS, .int (40961 + (((ns.map fun x => if x < 0 then -x else x).map V.int).length : Nat))), (kT, .int 0)], rfl, (by show 5 ≤ 15; decide), ?_⟩
      rw [upd_upd]
      refine q _ d D (sD.trans (same_new hd)) ⟨_, 0, 0, 40961 + (((ns.map fun x => if x < 0 then -x else x).map V.int).length : Nat), 0, ?_, same_new hd _ _ upd_same, Int.le_refl 0, by omega, Int.le_refl 0, fun x hx => ?_⟩
      · rw [upd_same]
        congr 2
      · obtain ⟨y, hy, rfl⟩ := List.mem_map.mp hx
        split <;> omega
theorem ok__law_draw {f : Addr} {fd : FuncData} (F : C8.Def K mg "_law_draw" s__law_draw f fd) (b : Binds K fd ["_law_hand_here", "_law_many"] []) (T : Txt K mg CP CR aN) : C8.Cal P w K mg base 1 "_law_draw" (spDraw K) [] := by
  refine C8.cal0 F b .nil sc__law_draw (fun vs H Q E h => ?_) (fun cdv A outer s H vs Q E hr h => ?_)
  · obtain ⟨d, lc, m, rfl, _⟩ := h
    rfl
  · obtain ⟨d, l, m, rfl, ⟨cs, a, b, c, e, hd, hl, a0, a1, b0, hcs⟩, m0, mb, q⟩ := h
    have nd := sc__law_draw.nd
    refine ⟨_, (C8.pss_cut (ps_if (PW.pt (pw_and (pt_cmpR op_eq (pe_dget (hu_of hr) (pv 0) pe_str (fun _ _ => rfl)) pe_int (nomark _)) (pw_and1 (pt_cmpR op_lt (pe_dget (hu_of hr) (pv 0) pe_str (fun _ _ => rfl)) (pe_callB (call_len_seqK K) (by rfl) T.len PySem.boot_len (pa_cons (pe_dget (hu_of hr) (pv 0) pe_str (fun _ _ => rfl)) pa_nil)) (nomark _)))))
      (pss_cons (ps_set (i := 2) nd rfl (Or.inl rfl) (pe_ix (ix_listK K) (pe_dget (hu_of hr) (pv 0) pe_str (fun _ _ => rfl)) (pe_dget (hu_of hr) (pv 0) pe_str (fun _ _ => rfl)) (fun _ _ => rfl)))
        (pss_cons (ps_dput (hu_of hr) (pv 0) pe_str (pe_op op_add (pe_dget (hu_of hr) (pv 0) pe_str (fun _ _ => rfl)) pe_int) rfl)
        (pss_cons (ps_dput (hu_of hr) (pv 0) pe_str (pe_op op_mod (pe_callTy call_int1 (by rfl) T.int (by decide +kernel) (pa_cons (pe_op op_add (pe_op op_add (pe_op op_mul (pe_dget (hu_of hr) (pv 0) pe_str (fun _ _ => rfl)) pe_int) (pv 2)) pe_int) pa_nil)) pe_int) rfl)
        (pss_one (ps_dput (hu_of hr) (pv 0) pe_str (pe_ifExp (pt_cmpR op_ge (pv 2) (pe_op op_pow pe_int pe_int) (nomark _)) (pv 2) pe_int) rfl)))))
      pss_nil)
    (pss_cons (ps_if (pt_cmpR op_gt (pe_dget (hu_of hr) (pv 0) pe_str (fun _ _ => rfl)) pe_int (nomark _))
      (pss_cons (ps_set (i := 3) nd rfl (Or.inl rfl) (pe_op op_mod (pe_callTy call_int1 (by rfl) T.int (by decide +kernel) (pa_cons (pe_dget (hu_of hr) (pv 0) pe_str (fun _ _ => rfl)) pa_nil)) (pv 1)))
        (pss_cons (ps_dput (hu_of hr) (pv 0) pe_str (pe_op op_fdivW (pe_dget (hu_of hr) (pv 0) pe_str (fun _ _ => rfl)) (pv 1)) rfl)
        (pss_one (ps_ret (pv 3)))))
      pss_nil)
    (pss_cons (ps_dput (hu_of hr) (pv 0) pe_str (pe_op op_add (pe_dget (hu_of hr) (pv 0) pe_str (fun _ _ => rfl)) pe_int) rfl)
    (pss_cons (ps_set (i := 4) nd rfl (Or.inl rfl) (pe_op op_mod (pe_callTy call_int1 (by rfl) T.int (by decide +kernel) (pa_cons (pe_op op_mul (pe_callTy call_int1 (by rfl) T.int (by decide +kernel) (pa_cons (pe_op op_add (pe_dget (hu_of hr) (pv 0) pe_str (fun _ _ => rfl)) (pe_op op_mul pe_int (pe_dget (hu_of hr) (pv 0) pe_str (fun _ _ => rfl)))) pa_nil)) pe_int) pa_nil)) pe_int))
    (pss_cons (ps_set (i := 4) nd rfl (Or.inl rfl) (pe_op op_mod (pe_callTy call_int1 (by rfl) T.int (by decide +kernel) (pa_cons (pe_op op_mul (pv 4) (pe_op op_add (pe_op op_fdivW (pv 4) pe_int) pe_int)) pa_nil)) pe_int))
    (pss_cons (ps_set (i := 4) nd rfl (Or.inl rfl) (pe_op op_mod (pe_callTy call_int1 (by rfl) T.int (by decide +kernel) (pa_cons (pe_op op_add (pe_op op_mul (pv 4) (pe_op op_add (pe_op op_fdivW (pv 4) pe_int) pe_int)) (pe_dget (hu_of hr) (pv 0) pe_str (fun _ _ => rfl))) pa_nil)) pe_int))
    (pss_one (ps_ret (pe_op op_mod (pe_callTy call_int1 (by rfl) T.int (by decide +kernel) (pa_cons (pe_op op_fdivW (pv 4) pe_int) pa_nil)) (pv 1)))))))))), ?_⟩
    have isH : IsH H d := ⟨_, hd⟩
    refine ⟨fun σ' H' => ∃ x2 a b c, σ' = [some (.ref d), some (.int m), x2, none, none] ∧ Kp d H H' ∧ H' d = some (.dK (handK l a b c e)) ∧ 0 ≤ a ∧ a ≤ cs.length ∧ 0 ≤ b, ?_, fun σ' H1 hm => ?_⟩
    · refine ⟨_, rfl, _, _, rfl, (g_left hd), rfl, _, rfl, ?_⟩
      have stay : ∃ x2 a b c, ([some (.ref d), some (.int m), none, none, none] : St) = [some (.ref d), some (.int m), x2, none, none] ∧ Kp d H H ∧ H d = some (.dK (handK l a b c e)) ∧ 0 ≤ a ∧ a ≤ cs.length ∧ 0 ≤ b := ⟨none, a, b, c, rfl, Kp.refl, hd, a0, a1, b0⟩
      by_cases c1 : b = 0
      · rw [c1]
        refine ⟨_, rfl, _, _, rfl, (g_at hd), _, rfl, _, _, rfl, (g_cells hd), _, _, rfl, .inl (SqL.of hl), _, _, rfl, rfl, _, rfl, ?_⟩
        rw [List.length_map]
        by_cases c2 : a < (cs.length : Nat)
        · rw [decide_eq_true c2]
          have ha : a.toNat < cs.length := by omega
          have hat := at_int a0 ha
          have hc0 := hcs _ (List.getElem_mem ha)
          generalize cs[a.toNat] = x at hat hc0
          refine ⟨_, rfl, _, _, rfl, (g_cells hd), _, rfl, _, _, rfl, (g_at hd), _, _, _, _, rfl, rfl, (SqL.of hl), hat, ?_⟩
          -- at
          refine ⟨_, rfl, _, _, rfl, (g_at hd), _, _, rfl, rfl, _, rfl, _, _, rfl, (p_at hd), ?_⟩
          -- seed
          have hd1 : (upd H d (.dK (handK l (a + 1) b c e))) d = some (.dK (handK l (a + 1) b c e)) := upd_same
          refine ⟨_, rfl, _, _, rfl, (g_seed hd1), _, _, rfl, rfl, (.inr ⟨by decide, by decide⟩), _, rfl, _, _, rfl, rfl, _, _, rfl, rfl, ?_⟩
          refine .inl ⟨_, rfl, ?_⟩
          refine ⟨_, _, rfl, rfl, (show (0 : Int) < 2147483629 by decide), _, rfl, _, _, rfl, (p_seed hd1), ?_⟩
          rw [upd_upd]
          have hd2 : ∀ y, (upd H d (.dK (handK l (a + 1) b y e))) d = some (.dK (handK l (a + 1) b y e)) := fun y => upd_same
          -- left
          refine ⟨_, rfl, _, _, rfl, rfl, ⟨by decide, by decide, by decide⟩, _, _, rfl, rfl, _, rfl, ?_⟩
          by_cases c3 : x ≥ 10 ^ (18 : Int).toNat
          · rw [decide_eq_true c3]
            refine ⟨_, rfl, _, rfl, _, _, rfl, (p_left (hd2 _)), ?_⟩
            rw [upd_upd]
            exact ⟨_, _, _, _, rfl, Kp.upd, upd_same, by omega, by omega, by omega⟩
          · rw [decide_eq_false c3]
            refine ⟨_, rfl, _, _, rfl, (p_left (hd2 _)), ?_⟩
            rw [upd_upd]
            exact ⟨_, _, _, _, rfl, Kp.upd, upd_same, by omega, by omega, by omega⟩
        · rw [decide_eq_false c2]
          exact stay
      · rw [decide_eq_false fun z => c1 (by cases z; rfl)]
        exact stay
    · obtain ⟨x2, a, b, c, rfl, k1, hd, a0, a1, b0⟩ := hm
      have isH1 : IsH H1 d := ⟨_, hd⟩
      have hl1 := k1.lst isH hl
      have hand : ∀ {H2 : Hp} {b c e : Int}, Kp d H1 H2 → H2 d = some (.dK (handK l a b c e)) → 0 ≤ b → HandAt K H2 d l := fun k h0 hb => ⟨cs, a, _, _, _, h0, k.lst isH1 hl1, a0, a1, hb, hcs⟩
      refine ⟨_, rfl, _, _, rfl, (g_left hd), _, _, rfl, rfl, _, rfl, ?_⟩
      by_cases c1 : 0 < b
      · rw [decide_eq_true c1]
        refine ⟨_, rfl, _, _, rfl, (g_left hd), ?_⟩
        refine .inl ⟨_, rfl, ?_⟩
        refine ⟨_, rfl, _, _, rfl, rfl, m0, ?_⟩
        refine ⟨_, rfl, _, _, rfl, (g_left hd), _, rfl, _, _, rfl, rfl, (wide_div m0 mb (by decide) (by decide)), _, rfl, _, _, rfl, (p_left hd), ?_⟩
        refine ⟨_, rfl, ?_⟩
        exact q _ _ (k1.trans Kp.upd) (hand Kp.upd upd_same (Int.ediv_nonneg b0 (Int.le_of_lt m0))) (Int.emod_nonneg _ (by omega)) (Int.emod_lt_of_pos _ m0)
      · rw [decide_eq_false c1]
        refine ⟨_, rfl, _, _, rfl, (g_turn hd), _, _, rfl, rfl, _, rfl, _, _, rfl, (p_turn hd), ?_⟩
        have hd1 : ∀ y, (upd H1 d (.dK (handK l a b c y))) d = some (.dK (handK l a b c y)) := fun y => upd_same
        refine ⟨_, rfl, _, _, rfl, (g_seed (hd1 _)), _, rfl, _, _, rfl, (g_turn (hd1 _)), _, _, rfl, rfl, (.inl ⟨by decide, by decide⟩), _, _, rfl, rfl, ?_⟩
        refine .inl ⟨_, rfl, ?_⟩
        refine ⟨_, _, rfl, rfl, (.inr ⟨by decide, by decide⟩), ?_⟩
        refine .inl ⟨_, rfl, ?_⟩
        refine ⟨_, _, rfl, rfl, (show (0 : Int) < 2147483647 by decide), ?_⟩
        have hn : ∀ y : Int, 0 ≤ y % 2147483647 ∧ y % 2147483647 < 2147483647 := fun y => ⟨Int.emod_nonneg _ (by decide), Int.emod_lt_of_pos _ (by decide)⟩
        have hn2 : ∀ y : Int, 0 ≤ y % 2147483587 ∧ y % 2147483587 < 2147483587 := fun y => ⟨Int.emod_nonneg _ (by decide), Int.emod_lt_of_pos _ (by decide)⟩
        generalize hN : (c + 7927 * (e + 1)) * 48271 = N
        have h1 := hn N
        refine ⟨_, rfl, _, rfl, _, _, rfl, rfl, (wide_div (b := 20) (by decide) (by decide) (by decide) (by decide)), _, _, rfl, rfl, _, _, rfl, rfl, (.inl ⟨by omega, by omega⟩), ?_⟩
        refine .inl ⟨_, rfl, ?_⟩
        refine ⟨_, _, rfl, rfl, (show (0 : Int) < 2147483587 by decide), ?_⟩
        generalize hM : N % 2147483647 * (N % 2147483647 / 1013 + 69623) = M
        have h2 := hn2 M
        refine ⟨_, rfl, _, rfl, _, _, rfl, rfl, (wide_div (b := 20) (by decide) (by decide) (by decide) (by decide)), _, _, rfl, rfl, _, _, rfl, rfl, (.inl ⟨by omega, by omega⟩), _, rfl, _, _, rfl, (g_turn (hd1 _)), _, _, rfl, rfl, ?_⟩
        refine .inl ⟨_, rfl, ?_⟩
        refine ⟨_, _, rfl, rfl, (show (0 : Int) < 2147483399 by decide), _, rfl, _, _, rfl, rfl, (wide_div (b := 20) (by decide) (by decide) (by decide) (by decide)), ?_⟩
        refine .inl ⟨_, rfl, ?_⟩
        refine ⟨_, rfl, _, _, rfl, rfl, m0, ?_⟩
        exact q _ _ (k1.trans Kp.upd) (hand Kp.upd upd_same b0) (Int.emod_nonneg _ (by omega)) (Int.emod_lt_of_pos _ m0)
theorem ok__law_any {f : Addr} {fd : FuncData} (F : C8.Def K mg "_law_any" s__law_any f fd) (b : Binds K fd ["_law_hand_here", "_law_things"] []) (T : Txt K mg CP CR aN) (c__law_draw : C8.Cal P w K mg base 1 "_law_draw" (spDraw K) []) : C8.Cal P w K mg base 2 "_law_any" (spAny K) [] := by
  refine C8.cal0 F b .nil sc__law_any (fun vs H Q E h => ?_) (fun cdv A outer s H vs Q E hr h => ?_)
  · obtain ⟨d, lc, l, ns, rfl, _⟩ := h
    rfl
  · obtain ⟨d, lc, l, ns, rfl, hh, hl, hne, hlen, q⟩ := h
    have nd := sc__law_any.nd
    refine ⟨_, (pss_one (ps_ret (pe_ix (ix_listK K) (pv 1) (C8.pe_c c__law_draw hr (by decide) (by rfl) (pa_cons (pv 0) (pa_cons (pe_callB (call_len_seqK K) (by rfl) T.len PySem.boot_len (pa_cons (pv 1) pa_nil)) pa_nil))) (fun _ _ => rfl)))), ?_⟩
    have hp : 0 < ns.length := List.length_pos_iff.mpr hne
    refine ⟨_, rfl, _, rfl, _, rfl, _, _, rfl, .inl hl, d, lc, _, rfl, hh, by rw [List.length_map]; omega, by rw [List.length_map]; exact Nat.lt_of_le_of_lt (show (((ns.length : Nat) : Int)).natAbs ≤ 2 ^ 7 by omega) (Nat.pow_lt_pow_right (by decide) (by decide)), fun H1 x k1 h1 x0 x1 => ?_⟩
    rw [List.length_map] at x1
    have hx : x.toNat < ns.length := by omega
    have hat := at_int x0 hx
    exact ⟨_, _, _, _, rfl, rfl, k1.seq hh.is hl, hat, q H1 _ k1 h1 (List.getElem_mem hx)⟩
end Bx

/-! Bx L2: lowest terms, powers, ways, the parts of one count; a polynomial of the law's. -/
namespace Bx
open PySem PySem.Spec PyProof.Rows L2
def lowT (t b : Int) : Int := t / ((Int.gcd t b : Nat) : Int)
def lowB (t b : Int) : Int := b / ((Int.gcd t b : Nat) : Int)
structure Low (t b : Int) : Prop where
  gp : 0 < ((Int.gcd t b : Nat) : Int)
  ht : ((Int.gcd t b : Nat) : Int) * lowT t b = t
  hb : ((Int.gcd t b : Nat) : Int) * lowB t b = b
  bp : 0 < lowB t b
  ble : lowB t b ≤ b
  tle : (lowT t b).natAbs ≤ t.natAbs
  one : Int.gcd (lowT t b) (lowB t b) = 1
theorem low_ok {t b : Int} (h : 0 < b) : Low t b := by
  have g0 : 0 < Int.gcd t b := Int.gcd_pos_of_ne_zero_right _ (by omega)
  have d1 : ((Int.gcd t b : Nat) : Int) ∣ t := Int.gcd_dvd_left ..
  have d2 : ((Int.gcd t b : Nat) : Int) ∣ b := Int.gcd_dvd_right ..
  have e1 : ((Int.gcd t b : Nat) : Int) * lowT t b = t := Int.mul_ediv_cancel' d1
  have e2 : ((Int.gcd t b : Nat) : Int) * lowB t b = b := Int.mul_ediv_cancel' d2
  have gp : 0 < ((Int.gcd t b : Nat) : Int) := by omega
  have bp : 0 < lowB t b := pos_r gp (by rw [e2]; exact h)
  refine ⟨gp, e1, e2, bp, ?_, ?_, ?_⟩
  · have := Int.mul_le_mul_of_nonneg_right (show 1 ≤ ((Int.gcd t b : Nat) : Int) by omega) (Int.le_of_lt bp)
    rw [Int.one_mul, e2] at this
    exact this
  · have := congrArg Int.natAbs e1
    rw [Int.natAbs_mul] at this
    rw [← this, Int.natAbs_natCast]
    exact Nat.le_mul_of_pos_left _ g0
  · exact Int.gcd_ediv_gcd_ediv_gcd g0
def spLow (K : PySem.W.Frag) : Sp := fun vs H Q _ => ∃ t b : Int, vs = [.int t, .int b] ∧ 0 < b ∧ b.natAbs < 2 ^ 8900 ∧ ∀ H' p, Same H H' → SqT K H' p [.int (lowT t b), .int (lowB t b)] → Q (.ref p) H'
def spPower : Sp := fun vs H Q _ => ∃ (x : Int) (k : Nat), vs = [.int x, .int k] ∧ k ≤ 10 ∧ x.natAbs < 2 ^ 5000 ∧ Q (.int (x ^ k)) H
def spBinomial : Sp := fun vs H Q _ => ∃ n k : Nat, vs = [.int n, .int k] ∧ n ≤ 3 ∧ k ≤ 3 ∧ Q (.int (ch n k)) H
def spPolar (K : PySem.W.Frag) : Sp := fun vs H Q _ => ∃ (v : V) (D i j : Nat) (z : S4), vs = [v, .int D, .int i, .int j] ∧ D ≤ 3 ∧ i ≤ D ∧ j ≤ D ∧ StretchAt K H v z ∧ z.Ok ∧
  ∀ H' p, Same H H' → SqT K H' p [.int (part D i j (z.a * z.d) (z.c * z.b)), .int ((z.b * z.d) ^ j * ch D j)] → Q (.ref p) H'
def spLawPoly (P : Program) (w : World) (K : PySem.W.Frag) (CP CR : Addr) : Sp := fun vs H Q _ => ∃ d us, vs = [.ref d] ∧ DD P w K H d (toKV us) ∧ (us.map (·.1)).Nodup ∧ (∀ u ∈ us, u.1.length = 4 ∧ ∀ x ∈ u.1, 0 ≤ x ∧ x ≤ 3) ∧ us.length < 64 ∧
  ∀ H' p ts, Same H H' → PolyAt K CP CR H' p ts → ts.Perm (us.filter fun t => decide (t.2 ≠ 0)) → Q (.ref p) H'
--SP _law_low := spLow K
--SP _law_power := spPower
--SP _law_binomial := spBinomial
--SP _law_polar := spPolar K
--SP Poly_init := spPolyInit K CP
--SP _law_poly := spLawPoly P w K CP CR
theorem bl_bits {n k : Nat} (hn : n ≤ 3) (hk : k ≤ 3) : (bl n k).natAbs < 2 ^ 10 := by
  rcases le3 hn with rfl | rfl | rfl | rfl <;> rcases le3 hk with rfl | rfl | rfl | rfl <;> decide
theorem pow_bits {x : Int} {a i : Nat} (h : x.natAbs < 2 ^ a) (m : Nat) (hm : a * i < m) : (x ^ i).natAbs < 2 ^ m := by
  rw [Int.natAbs_pow]
  have h1 : x.natAbs ^ i ≤ (2 ^ a) ^ i := Nat.pow_le_pow_left (Nat.le_of_lt h) i
  rw [← Nat.pow_mul] at h1
  exact Nat.lt_of_le_of_lt h1 (Nat.pow_lt_pow_right (by decide) hm)
variable {P : Program} {w : World} {K : PySem.W.Frag} {mg : Str → Option Value} {base : Heap} {CP CR aN : Addr}
theorem ok__law_low {f : Addr} {fd : FuncData} (F : C8.Def K mg "_law_low" s__law_low f fd) (b : Binds K fd ["_law_top", "_law_bottom"] []) (T : Txt K mg CP CR aN) : C8.Cal P w K mg base 1 "_law_low" (spLow K) [] := by
  refine C8.cal0 F b .nil sc__law_low (fun vs H Q E h => ?_) (fun cdv A outer s H vs Q E hr h => ?_)
  · obtain ⟨t, b, rfl, _⟩ := h
    rfl
  · obtain ⟨t, b, rfl, hb, hbb, q⟩ := h
    have nd := sc__law_low.nd
    refine ⟨_, (pss_cons (ps_par (i := 2) (j := 3) rfl nd rfl rfl (by decide) rfl rfl (pa_cons (pe_callB call_abs (by rfl) T.abs (by decide +kernel) (pa_cons (pv 0) pa_nil)) (pa_cons (pe_callB call_abs (by rfl) T.abs (by decide +kernel) (pa_cons (pv 1) pa_nil)) pa_nil)) (by rfl))
    (pss_cons (ps_while PassesOwn.never (pt_cmpR op_gt (pv 3) pe_int (nomark _))
      (pss_one (ps_par (i := 2) (j := 3) rfl nd rfl rfl (by decide) rfl rfl (pa_cons (pv 3) (pa_cons (pe_op op_mod (pe_callTy call_int1 (by rfl) T.int (by decide +kernel) (pa_cons (pv 2) pa_nil)) (pv 3)) pa_nil)) (by rfl))))
    (pss_cons (ps_set (i := 2) nd rfl (Or.inl rfl) (pe_ifExp (pt_cmpR op_gt (pv 1) pe_int (nomark _)) (pv 2) (pe_un un_neg (pv 2))))
    (pss_one (ps_ret (pe_tup (pa_cons (pe_op op_fdivW (pv 0) (pv 2)) (pa_cons (pe_op op_fdivW (pv 1) (pv 2)) pa_nil)))))))), ?_⟩
    refine ⟨_, rfl, _, rfl, _, rfl, _, rfl, _, _, rfl, ?_⟩
    refine while_by (fun σ H' => ∃ x y : Int, σ = [some (.int t), some (.int b), some (.int x), some (.int y)] ∧ 0 ≤ x ∧ 0 ≤ y ∧ Int.gcd x y = Int.gcd t b ∧ H' = H) (fun σ _ => match σ with | [_, _, _, some (.int b)] => b.toNat | _ => 0)
      ⟨_, _, rfl, by split <;> omega, by split <;> omega, ?_, rfl⟩ ?_ (fun σ H Q Q' hq ⟨v, e, i, j, e1, e2, k, e3, q⟩ => ⟨v, e, i, j, e1, e2, k, e3, hq _ _ q⟩)
    · split <;> split <;> simp [Int.gcd]
    · rintro σ H' ⟨x, y, rfl, hx, hy, hg, rfl⟩
      refine ⟨_, rfl, _, _, rfl, rfl, _, rfl, ?_⟩
      by_cases c : 0 < y
      · rw [decide_eq_true c]
        refine ⟨_, rfl, _, rfl, ?_⟩
        refine .inl ⟨_, rfl, ?_⟩
        refine ⟨_, rfl, _, _, rfl, rfl, c, ?_⟩
        refine ⟨_, _, rfl, ⟨y, x % y, rfl, hy, Int.emod_nonneg _ (by omega), (gcd_step hx hy).trans hg, rfl⟩, ?_⟩
        have h1 := Int.emod_lt_of_pos x c
        have h2 := Int.emod_nonneg x (show y ≠ 0 by omega)
        show (x % y).toNat < y.toNat
        omega
      · rw [decide_eq_false c]
        have e : y = 0 := by omega
        subst e
        rw [Int.gcd_zero_right] at hg
        have ex : x = ((Int.gcd t b : Nat) : Int) := by omega
        subst ex
        have lo := low_ok (t := t) hb
        have gb : ((Int.gcd t b : Nat) : Int).natAbs < 2 ^ 8900 := by
          have : ((Int.gcd t b : Nat) : Int) ≤ b := by
            have := Int.mul_le_mul_of_nonneg_left (show 1 ≤ lowB t b by have := lo.bp; omega) (Int.le_of_lt lo.gp)
            rw [Int.mul_one, lo.hb] at this
            exact this
          have := lo.gp
          omega
        have cd : ∀ y, CDivW y ((Int.gcd t b : Nat) : Int) := fun y => wide_div lo.gp gb (by decide) (by decide)
        refine ⟨_, rfl, _, _, rfl, rfl, _, rfl, ?_⟩
        rw [decide_eq_true hb]
        refine ⟨_, rfl, ?_⟩
        refine ⟨_, rfl, _, rfl, _, _, rfl, rfl, (cd _), _, rfl, _, rfl, _, _, rfl, rfl, (cd _), (by show 2 ≤ sizeLine; decide), ?_⟩
        intro p hp
        exact q _ p (same_new hp) sqT_at
theorem ok__law_power {f : Addr} {fd : FuncData} (F : C8.Def K mg "_law_power" s__law_power f fd) (b : Binds K fd ["_law_number", "_law_many"] []) (T : Txt K mg CP CR aN) : C8.Cal P w K mg base 1 "_law_power" (spPower) [] := by
  refine C8.cal0 F b .nil sc__law_power (fun vs H Q E h => ?_) (fun cdv A outer s H vs Q E hr h => ?_)
  · obtain ⟨x, k, rfl, _⟩ := h
    rfl
  · obtain ⟨x, k, rfl, hk, hx, q⟩ := h
    have nd := sc__law_power.nd
    refine ⟨_, (pss_cons (ps_set (i := 2) nd rfl (Or.inl rfl) pe_int)
    (pss_cons (ps_for PassesOwn.never rfl (pi_range1 (by rfl) T.range (pa_cons (pv 1) pa_nil)) (pg_name (i := 3) nd rfl (Or.inl rfl))
      (pss_one (ps_set (i := 2) nd rfl (Or.inl rfl) (pe_op op_mulW (pv 2) (pv 0)))))
    (pss_one (ps_ret (pv 2))))), ?_⟩
    refine ⟨_, rfl, _, rfl, (by omega), (by omega), ?_⟩
    have e : (((k : Nat) : Int)).toNat = k := by omega
    refine for_range (lo := 0) (n := (((k : Nat) : Int)).toNat) (fun i σ H' => ∃ y, σ = [some (.int x), some (.int (k : Nat)), some (.int (x ^ i)), y] ∧ H' = H) ⟨none, by rw [Int.pow_zero]; rfl, rfl⟩ (fun i σ H' hi m => ?_) (fun σ H' m => ?_)
    · obtain ⟨y, rfl, rfl⟩ := m
      refine ⟨_, rfl, _, rfl, _, _, rfl, rfl, wide_mul (pow_bits hx 60000 (show 5000 * i < 60000 by omega)) hx (by decide) (by decide) (by decide), ?_⟩
      refine ⟨some (.int (0 + (i : Nat))), ?_, rfl⟩
      rw [Int.pow_succ] <;> rfl
    · obtain ⟨y, rfl, rfl⟩ := m
      rw [e]
      exact ⟨_, rfl, q⟩
theorem ok__law_binomial {f : Addr} {fd : FuncData} (F : C8.Def K mg "_law_binomial" s__law_binomial f fd) (b : Binds K fd ["_law_many", "_law_some"] []) (T : Txt K mg CP CR aN) : C8.Cal P w K mg base 1 "_law_binomial" (spBinomial) [] := by
  refine C8.cal0 F b .nil sc__law_binomial (fun vs H Q E h => ?_) (fun cdv A outer s H vs Q E hr h => ?_)
  · obtain ⟨n, k, rfl, _⟩ := h
    rfl
  · obtain ⟨n, k, rfl, hn, hk, q⟩ := h
    have nd := sc__law_binomial.nd
    refine ⟨_, (pss_cons (ps_set (i := 2) nd rfl (Or.inl rfl) pe_int)
    (pss_cons (ps_for PassesOwn.never rfl (pi_range1 (by rfl) T.range (pa_cons (pv 1) pa_nil)) (pg_name (i := 3) nd rfl (Or.inl rfl))
      (pss_one (ps_set (i := 2) nd rfl (Or.inl rfl) (pe_op op_fdivW (pe_op op_mulW (pv 2) (pe_op op_sub (pv 0) (pv 3))) (pe_op op_add (pv 3) pe_int)))))
    (pss_one (ps_ret (pe_ifExp (pt_chain op_le op_le pe_int (pv 1) (pv 0)) (pv 2) pe_int))))), ?_⟩
    refine ⟨_, rfl, _, rfl, (by omega), (by omega), ?_⟩
    have e : (((k : Nat) : Int)).toNat = k := by omega
    refine for_range (lo := 0) (n := (((k : Nat) : Int)).toNat) (fun i σ H' => ∃ y, σ = [some (.int (n : Nat)), some (.int (k : Nat)), some (.int (bl n i)), y] ∧ H' = H) ⟨none, rfl, rfl⟩ (fun i σ H' hi m => ?_) (fun σ H' m => ?_)
    · obtain ⟨y, rfl, rfl⟩ := m
      refine ⟨_, rfl, _, rfl, _, rfl, _, _, rfl, rfl, _, _, rfl, rfl, wide_mul (bl_bits hn (show i ≤ 3 by omega)) (b := 10) (by omega) (by decide) (by decide) (by decide), ?_⟩
      refine ⟨_, rfl, _, _, rfl, rfl, _, _, rfl, rfl, wide_div (b := 10) (by omega) (by omega) (by decide) (by decide), ?_⟩
      refine ⟨some (.int (0 + (i : Nat))), ?_, rfl⟩
      show [some (.int (n : Nat)), some (.int (k : Nat)), some (.int (bl n i * ((n : Int) - (0 + (i : Int))) / (0 + (i : Int) + 1))), some (.int (0 + (i : Nat)))] = ([some (.int (n : Nat)), some (.int (k : Nat)), some (.int (bl n i * ((n : Int) - (i : Int)) / ((i : Int) + 1))), some (.int (0 + (i : Nat)))] : St)
      rw [Int.zero_add]
    · obtain ⟨y, rfl, rfl⟩ := m
      rw [e]
      refine ⟨_, rfl, _, _, rfl, rfl, ?_⟩
      refine ⟨_, rfl, ?_⟩
      rw [decide_eq_true (show (0 : Int) ≤ ((k : Nat) : Int) by omega)]
      refine ⟨_, rfl, _, _, rfl, rfl, _, rfl, ?_⟩
      unfold ch at q
      by_cases c : k ≤ n
      · rw [decide_eq_true (show ((k : Nat) : Int) ≤ ((n : Nat) : Int) by omega)]
        rw [if_pos c] at q
        exact ⟨_, rfl, q⟩
      · rw [decide_eq_false (show ¬ ((k : Nat) : Int) ≤ ((n : Nat) : Int) by omega)]
        rw [if_neg c] at q
        exact q
theorem ch_small {n k : Nat} (hn : n ≤ 3) (hk : k ≤ 3) : (ch n k).natAbs < 2 ^ 10 ∧ 0 ≤ ch n k := by
  rcases le3 hn with rfl | rfl | rfl | rfl <;> rcases le3 hk with rfl | rfl | rfl | rfl <;> decide
theorem ok__law_polar {f : Addr} {fd : FuncData} (F : C8.Def K mg "_law_polar" s__law_polar f fd) (b : Binds K fd ["_law_stretch_here", "_law_many", "_law_i", "_law_j"] []) (T : Txt K mg CP CR aN) (c__law_binomial : C8.Cal P w K mg base 1 "_law_binomial" (spBinomial) []) (c__law_power : C8.Cal P w K mg base 1 "_law_power" (spPower) []) : C8.Cal P w K mg base 2 "_law_polar" (spPolar K) [] := by
  refine C8.cal0 F b .nil sc__law_polar (fun vs H Q E h => ?_) (fun cdv A outer s H vs Q E hr h => ?_)
  · obtain ⟨v, D, i, j, z, rfl, _⟩ := h
    rfl
  · obtain ⟨v, D, i, j, z, rfl, hD, hi, hj, ⟨r, l, hh, rfl, st1, st2, st3⟩, ok, q⟩ := h
    have nd := sc__law_polar.nd
    refine ⟨_, (pss_cons (ps_asg (pv 0) (pg_tup rfl (pgs_cons (pg_tup rfl (pgs_cons (pg_name (i := 4) nd rfl (Or.inl rfl)) (pgs_cons (pg_name (i := 5) nd rfl (Or.inl rfl)) pgs_nil))) (pgs_cons (pg_tup rfl (pgs_cons (pg_name (i := 6) nd rfl (Or.inl rfl)) (pgs_cons (pg_name (i := 7) nd rfl (Or.inl rfl)) pgs_nil))) pgs_nil))))
    (pss_cons (ps_par3 (i := 8) (j := 9) (l := 10) rfl nd rfl rfl rfl (by decide) (by decide) (by decide) rfl rfl rfl (pa_cons (pe_op op_mulW (pv 4) (pv 7)) (pa_cons (pe_op op_mulW (pv 6) (pv 5)) (pa_cons pe_int pa_nil))) (by rfl))
    (pss_cons (ps_for PassesOwn.never rfl (pi_range1 (by rfl) T.range (pa_cons (pe_op op_add (pv 3) pe_int) pa_nil)) (pg_name (i := 11) nd rfl (Or.inl rfl))
      (pss_cons (ps_set (i := 12) nd rfl (Or.inl rfl) (pe_op op_mulW (C8.pe_c c__law_binomial hr (by decide) (by rfl) (pa_cons (pv 2) (pa_cons (pv 11) pa_nil))) (C8.pe_c c__law_binomial hr (by decide) (by rfl) (pa_cons (pe_op op_sub (pv 1) (pv 2)) (pa_cons (pe_op op_sub (pv 3) (pv 11)) pa_nil)))))
        (pss_one (ps_set (i := 10) nd rfl (Or.inl rfl) (pe_op op_add (pv 10) (pe_ifExp (pt_cmpR op_gt (pv 12) pe_int (nomark _)) (pe_op op_mulW (pe_op op_mulW (pv 12) (C8.pe_c c__law_power hr (by decide) (by rfl) (pa_cons (pv 9) (pa_cons (pv 11) pa_nil)))) (C8.pe_c c__law_power hr (by decide) (by rfl) (pa_cons (pv 8) (pa_cons (pe_op op_sub (pv 3) (pv 11)) pa_nil)))) pe_int))))))
    (pss_one (ps_ret (pe_tup (pa_cons (pv 10) (pa_cons (pe_op op_mulW (C8.pe_c c__law_power hr (by decide) (by rfl) (pa_cons (pe_op op_mulW (pv 5) (pv 7)) (pa_cons (pv 3) pa_nil))) (C8.pe_c c__law_binomial hr (by decide) (by rfl) (pa_cons (pv 1) (pa_cons (pv 3) pa_nil)))) pa_nil)))))))), ?_⟩
    have bd := bits_le ok.bd (show 146 < 150 by decide)
    have bb := bits_le ok.bb (show 146 < 150 by decide)
    have m1 : CMulW z.a z.d := wide_mul ok.ba bd (by decide) (by decide) (by decide)
    have m2 : CMulW z.c z.b := wide_mul ok.bc bb (by decide) (by decide) (by decide)
    have m3 : CMulW z.b z.d := wide_mul bb bd (by decide) (by decide) (by decide)
    have bL : (z.a * z.d).natAbs < 2 ^ 450 := wide_lt ok.ba bd
    have bH : (z.c * z.b).natAbs < 2 ^ 450 := wide_lt ok.bc bb
    refine ⟨_, rfl, _, _, rfl, st1, rfl, _, _, rfl, ⟨_, _, rfl, st2, rfl, _, _, rfl, _, _, rfl, rfl, ?_⟩⟩
    refine ⟨_, _, rfl, ⟨_, _, rfl, st3, rfl, _, _, rfl, _, _, rfl, rfl, ?_⟩⟩
    refine ⟨rfl, ?_⟩
    refine ⟨_, rfl, _, rfl, _, _, rfl, rfl, m1, _, rfl, _, rfl, _, _, rfl, rfl, m2, _, _, _, rfl, ?_⟩
    refine ⟨_, rfl, _, _, rfl, rfl, _, rfl, (by omega), (by omega), ?_⟩
    have e : (((j : Nat) : Int) + 1).toNat = j + 1 := by omega
    refine for_range (lo := 0) (n := (((j : Nat) : Int) + 1).toNat) (fun t σ H' => ∃ x11 x12, σ = [some (.ref r), some (.int (D : Nat)), some (.int (i : Nat)), some (.int (j : Nat)), some (.int z.a), some (.int z.b), some (.int z.c), some (.int z.d), some (.int (z.a * z.d)), some (.int (z.c * z.b)),
      some (.int (sumN t fun t' => ch i t' * ch (D - i) (j - t') * (z.c * z.b) ^ t' * (z.a * z.d) ^ (j - t'))), x11, x12] ∧ H' = H) ⟨none, none, rfl, rfl⟩ (fun t σ H' ht m => ?_) (fun σ H' m => ?_)
    · obtain ⟨x11, x12, rfl, rfl⟩ := m
      have c1 := ch_small (n := i) (k := t) (by omega) (by omega)
      have c2 := ch_small (n := D - i) (k := j - t) (by omega) (by omega)
      have e1 : ((D : Nat) : Int) - ((i : Nat) : Int) = ((D - i : Nat) : Int) := by omega
      have e2 : ((j : Nat) : Int) - (0 + ((t : Nat) : Int)) = ((j - t : Nat) : Int) := by omega
      refine ⟨_, rfl, _, rfl, i, t, by rw [Int.zero_add]; rfl, by omega, by omega, _, rfl, _, rfl, _, _, rfl, rfl, _, rfl, _, rfl, _, _, rfl, rfl, D - i, j - t, ?_, by omega, by omega, ?_⟩
      · show [V.int (((D : Nat) : Int) - ((i : Nat) : Int)), V.int (((j : Nat) : Int) - (0 + ((t : Nat) : Int)))] = _
        rw [e1, e2]
      refine ⟨_, _, rfl, rfl, wide_mul c1.1 c2.1 (by decide) (by decide) (by decide), ?_⟩
      have w2 : (ch i t * ch (D - i) (j - t)).natAbs < 2 ^ 20 := wide_lt c1.1 c2.1
      have w0 : 0 ≤ ch i t * ch (D - i) (j - t) := Int.mul_nonneg c1.2 c2.2
      -- found
      refine ⟨_, rfl, _, rfl, _, _, rfl, rfl, _, rfl, ?_⟩
      have fin : ∀ x : Int, x = ch i t * ch (D - i) (j - t) * (z.c * z.b) ^ t * (z.a * z.d) ^ (j - t) → ∃ x11 x12, (((([some (.ref r), some (.int (D : Nat)), some (.int (i : Nat)), some (.int (j : Nat)), some (.int z.a), some (.int z.b), some (.int z.c), some (.int z.d), some (.int (z.a * z.d)), some (.int (z.c * z.b)),
          some (.int (sumN t fun t' => ch i t' * ch (D - i) (j - t') * (z.c * z.b) ^ t' * (z.a * z.d) ^ (j - t'))), x11, x12] : St).set 11 (some (.int (0 + (t : Nat))))).set 12 (some (.int (ch i t * ch (D - i) (j - t))))).set 10 (some (.int ((sumN t fun t' => ch i t' * ch (D - i) (j - t') * (z.c * z.b) ^ t' * (z.a * z.d) ^ (j - t')) + x)))) =
          [some (.ref r), some (.int (D : Nat)), some (.int (i : Nat)), some (.int (j : Nat)), some (.int z.a), some (.int z.b), some (.int z.c), some (.int z.d), some (.int (z.a * z.d)), some (.int (z.c * z.b)),
          some (.int (sumN (t + 1) fun t' => ch i t' * ch (D - i) (j - t') * (z.c * z.b) ^ t' * (z.a * z.d) ^ (j - t'))), x11, x12] ∧ H' = H' := fun x hx => by
        subst hx
        exact ⟨_, _, rfl, rfl⟩
      by_cases c : 0 < ch i t * ch (D - i) (j - t)
      · rw [decide_eq_true c]
        have p1 : ((z.c * z.b) ^ t).natAbs < 2 ^ 2000 := pow_bits bH 2000 (by omega)
        have p2 : ((z.a * z.d) ^ (j - t)).natAbs < 2 ^ 2000 := pow_bits bL 2000 (by omega)
        refine ⟨_, rfl, _, rfl, _, rfl, _, t, by rw [Int.zero_add]; rfl, by omega, bits_up bH (by decide), _, _, rfl, rfl, wide_mul w2 p1 (by decide) (by decide) (by decide), ?_⟩
        refine ⟨_, rfl, _, rfl, _, rfl, _, _, rfl, rfl, _, j - t, ?_, by omega, bits_up bL (by decide), _, _, rfl, rfl, wide_mul (wide_lt w2 p1) p2 (by decide) (by decide) (by decide), ?_⟩
        · show [V.int (z.a * z.d), V.int (((j : Nat) : Int) - (0 + ((t : Nat) : Int)))] = _
          rw [e2]
        exact ⟨_, _, rfl, rfl, fin _ rfl⟩
      · rw [decide_eq_false c]
        refine ⟨_, _, rfl, rfl, fin 0 ?_⟩
        rw [show ch i t * ch (D - i) (j - t) = 0 by omega]
        simp
    · obtain ⟨x11, x12, rfl, rfl⟩ := m
      rw [e]
      have bBD : (z.b * z.d).natAbs < 2 ^ 300 := wide_lt bb bd
      refine ⟨_, rfl, _, rfl, _, rfl, _, _, rfl, rfl, m3, _, rfl, _, j, rfl, by omega, bits_up bBD (by decide), _, rfl, _, rfl, D, j, rfl, hD, by omega, ?_⟩
      refine ⟨_, _, rfl, rfl, wide_mul (pow_bits bBD 2000 (show 300 * j < 2000 by omega)) (ch_small hD (by omega)).1 (by decide) (by decide) (by decide), by show 2 ≤ sizeLine; decide, fun p hp => ?_⟩
      exact q _ p (same_new hp) sqT_at
theorem tsOf_pw {us : List Tm} : ∀ {L : List (Addr × List Int)}, L.Pairwise (fun a b => HT.lexLt a.2 b.2 = true) → (tsOf us (L.map (·.2))).Pairwise fun t u => HT.lexLt t.1 u.1 = true := by
  intro L h
  unfold tsOf
  refine List.Pairwise.sublist List.filter_sublist ?_
  rw [List.pairwise_map, List.pairwise_map]
  exact h
theorem ok__law_poly {f : Addr} {fd : FuncData} (F : C8.Def K mg "_law_poly" s__law_poly f fd) (b : Binds K fd ["_law_parts_here"] []) (T : Txt K mg CP CR aN) (m_Poly : C8.Mak P w K mg base 4 "Poly" CP (spPolyInit K CP) []) : C8.Cal P w K mg base 6 "_law_poly" (spLawPoly P w K CP CR) [] := by
  refine C8.cal0 F b .nil sc__law_poly (fun vs H Q E h => ?_) (fun cdv A outer s H vs Q E hr h => ?_)
  · obtain ⟨d, us, rfl, _⟩ := h
    rfl
  · obtain ⟨d, us, rfl, hd, nu, hb, hl, q⟩ := h
    have nd := sc__law_poly.nd
    refine ⟨_, (pss_one (ps_ret (C8.pe_mk m_Poly hr (by decide) (by rfl) (pa_cons (pe_callTy (call_tuple_ofK K) (by rfl) T.tuple (by decide +kernel) (pa_cons (pe_lc (own := [("_law_powers", 1)]) (g := (gName 1)) rfl nd (pi_list (pe_callB (call_sortedDDK P w K rfl) (by rfl) T.sorted (by decide +kernel) (pa_cons (pv 0) pa_nil))) (blkOk_by (own := [("_law_powers", 1)]) (N := ["_law_parts_here", "_law_powers"]) (sc := C8.fnScope s__law_poly) (by decide +kernel)) (fun _ _ _ _ _ => (pg_name (i := 1) nd rfl (Or.inl rfl))) (fun _ _ _ _ _ => (pts_one (pt_cmpR op_ne (pe_ddgetK P w K (hu_of hr) (pv 0) (pv 1) (fun _ _ => rfl)) pe_int (nomark _)))) (fun _ _ _ _ _ => (pe_tup (pa_cons (pv 1) (pa_cons (pe_ddgetK P w K (hu_of hr) (pv 0) (pv 1) (fun _ _ => rfl)) pa_nil))))) pa_nil)) pa_nil)))), ?_⟩
    refine ⟨_, rfl, _, _, rfl, hd, ⟨64, 4, (by decide), fun kv hkv => by obtain ⟨u, hu, rfl⟩ := List.mem_map.mp hkv; exact ⟨(hb u hu).1, fun x hx => by have := (hb u hu).2 x hx; omega⟩⟩, (by rw [length_toKV]; exact hl), ?_⟩
    intro L l hL hP hS hl0
    have hLu : (L.map (·.2)).Perm (us.map (·.1)) := hL.trans (List.Perm.of_eq (by unfold toKV; rw [List.map_map]; rfl))
    have hLl : L.length = us.length := by have := hLu.length_eq; rwa [List.length_map, List.length_map] at this
    refine ⟨_, rfl, ⟨_, sqL_at⟩, fun D hD => ?_⟩
    have sl : Same H (upd H l (.lst (L.map fun q => V.ref q.1))) := same_new hl0
    refine lc_list (K := K) (a := l) (xs := L.map fun q => V.ref q.1) (fun i H' => Made K (upd H l (.lst (L.map fun q => V.ref q.1))) D (tsOf us ((L.take i).map (·.2))) H') ⟨same_new hD, [], upd_same, .nil⟩ (fun i H' _ m => m.1.seq sqL_at) (fun i x H' hx m => ?_) (fun H' m => ?_)
    · rw [List.getElem?_map] at hx
      cases hi : L[i]? with
      | none =>
        rw [hi] at hx
        cases hx
      | some u =>
        rw [hi] at hx
        cases hx
        have s' := sl.trans m.1
        have hu := List.mem_of_getElem? hi
        have hk : u.2 ∈ us.map (·.1) := hLu.mem_iff.mp (List.mem_map.mpr ⟨u, hu, rfl⟩)
        obtain ⟨t, ht, et⟩ := List.mem_map.mp hk
        have hg : getT us u.2 = some t.2 := by rw [← et]; exact getT_mem nu ht
        have hv : valV (toKV us) u.2 = some (.int t.2) := by rw [valV_toKV, hg] <;> rfl
        have hq := same_tup s' (hS u hu)
        have htk : (L.take (i + 1)).map (·.2) = (L.take i).map (·.2) ++ [u.2] := by rw [take_snoc hi, List.map_append] <;> rfl
        have hd' := hd.same s'
        have hlen : (tsOf us ((L.take i).map (·.2))).length ≤ 1000 := by
          refine Nat.le_trans (List.length_filter_le ..) ?_
          rw [List.length_map, List.length_map, List.length_take]
          omega
        refine ⟨rfl, _, rfl, _, rfl, _, _, _, _, _, rfl, rfl, hd', hq, hv, rfl, _, rfl, ?_⟩
        have e : (!decide (V.int t.2 = V.int 0)) = decide (t.2 ≠ 0) := by
          by_cases c : t.2 = 0
          · rw [c] <;> rfl
          · rw [decide_eq_true c, decide_eq_false fun z => c (V.int.inj z)] <;> rfl
        rw [e]
        by_cases c : t.2 = 0
        · rw [decide_eq_false (fun z => z c)]
          show Made _ _ _ _ _
          rw [htk, tsOf_snoc us _ _ _ hg, if_pos c]
          exact m
        · rw [decide_eq_true c]
          refine ⟨_, rfl, _, rfl, _, rfl, _, _, _, _, _, rfl, rfl, hd', hq, hv, (by show 2 ≤ sizeLine; decide), ?_⟩
          intro r hr
          rw [htk, tsOf_snoc us _ _ _ hg, if_neg c]
          exact m.snoc hD hr hq hlen
    · obtain ⟨sm, acc, hacc, hpa⟩ := m
      rw [List.take_of_length_le (by simp)] at hpa
      refine ⟨D, acc, rfl, .inl ⟨.inl (.inl hacc), fun t ht => ?_⟩⟩
      intro x dx hx hdx hne
      have st : Same H' (upd H' t (.tup acc)) := same_new ht
      have sd : Same (upd H' t (.tup acc)) (upd (upd H' t (.tup acc)) dx (.own x)) := same_new hdx
      have hx2 : (upd (upd H' t (.tup acc)) dx (.own x)) x = none := by rw [upd_ne (Ne.symm hne)]; exact hx
      have sx : Same (upd (upd H' t (.tup acc)) dx (.own x)) (upd (upd (upd H' t (.tup acc)) dx (.own x)) x (.ins CP dx [])) := same_new hx2
      have s3 := st.trans (sd.trans sx)
      have memT : ∀ t ∈ tsOf us (L.map (·.2)), t ∈ us ∧ t.2 ≠ 0 := fun t ht => by
        have := List.mem_filter.mp ((tsOf_perm nu hLu).mem_iff.mp ht)
        exact ⟨this.1, by simpa using this.2⟩
      refine ⟨x, dx, t, tsOf us (L.map (·.2)), rfl, upd_same, ⟨acc, same_tup (sd.trans sx) sqT_at, paired_mono (fun _ _ y => y.same s3) hpa⟩, ?_, fun t ht => ?_, tsOf_pw hP, fun H2 k2 e2 => ?_⟩
      · refine Nat.le_trans (List.length_filter_le ..) ?_
        rw [List.length_map, List.length_map]
        omega
      · obtain ⟨h1, h2⟩ := memT t ht
        exact ⟨h2, (hb t h1).1, fun y hy => by have := (hb t h1).2 y hy; omega⟩
      · have s4 : Same (upd (upd H' t (.tup acc)) dx (.own x)) H2 := fun b o eb => k2 b o (ne_of_none eb hx2) (sx _ _ eb)
        have sall := st.trans (sd.trans s4)
        exact ⟨rfl, q _ x _ (sl.trans (sm.trans sall)) ⟨CP, dx, t, .inl rfl, e2, acc, same_tup (sd.trans s4) sqT_at, paired_mono (fun _ _ y => y.same sall) hpa⟩ (tsOf_perm nu hLu)⟩
end Bx

/-! Bx L3: stretches, boxes, places. -/
namespace Bx
open PySem PySem.Spec PyProof.Rows L2
/-- lists made while the hand draws -/
def AccH (K : PySem.W.Frag) (d lc : Addr) (H0 : Hp) (D : Addr) (R : Nat → V → Hp → Prop) (i : Nat) (H : Hp) : Prop := Kp d H0 H ∧ HandAt K H d lc ∧ ∃ acc : List V, H D = some (.lst acc) ∧ acc.length = i ∧ ∀ j y, acc[j]? = some y → R j y H
/-- all but the hand and the list at D stays -/
structure Off (d D : Addr) (Ha Hb : Hp) : Prop where
  h : IsH Ha d
  l : ∃ l, Ha D = some (.lst l)
  k : ∀ b o, b ≠ d → b ≠ D → Ha b = some o → Hb b = some o
theorem Off.tup {K : PySem.W.Frag} {d D a : Addr} {Ha Hb : Hp} {xs : List V} (f : Off d D Ha Hb) (t : SqT K Ha a xs) : SqT K Hb a xs := by
  obtain ⟨⟨kvs, h⟩, ⟨l, hl⟩, k⟩ := f
  rcases t with (t | ⟨o, t⟩) | t
  · exact .inl (.inl (k a _ (fun z => by rw [z, h] at t; cases t) (fun z => by rw [z, hl] at t; cases t) t))
  · exact .inl (.inr ⟨o, k a _ (fun z => by rw [z, h] at t; cases t) (fun z => by rw [z, hl] at t; cases t) t⟩)
  · exact .inr t
theorem Off.stretch {K : PySem.W.Frag} {d D : Addr} {Ha Hb : Hp} {v : V} {z : S4} (f : Off d D Ha Hb) (x : StretchAt K Ha v z) : StretchAt K Hb v z :=
  let ⟨r, l, h, e, h1, h2, h3⟩ := x; ⟨r, l, h, e, f.tup h1, f.tup h2, f.tup h3⟩
theorem hand_upd {K : PySem.W.Frag} {H0 H : Hp} {d lc D : Addr} {o : HO} (h0 : HandAt K H0 d lc) (hD : H0 D = none) (h : HandAt K H d lc) : HandAt K (upd H D o) d lc := by
  obtain ⟨cs, a, b, c, e, h1, h2, r⟩ := h
  obtain ⟨_, _, _, _, _, g1, g2, _⟩ := h0
  refine ⟨cs, a, b, c, e, ?_, ?_, r⟩
  · rw [upd_ne (ne_of_none g1 hD)]
    exact h1
  · rw [upd_ne (ne_of_none g2 hD)]
    exact h2
theorem accH_zero {K : PySem.W.Frag} {d lc D : Addr} {H0 : Hp} {R : Nat → V → Hp → Prop} (h0 : HandAt K H0 d lc) (hD : H0 D = none) : AccH K d lc H0 D R 0 (upd H0 D (.lst [])) :=
  ⟨Kp.of (same_new hD), h0.same (same_new hD), [], upd_same, rfl, fun j y h => by simp at h⟩
theorem accH_step {K : PySem.W.Frag} {d lc D : Addr} {H0 H H4 : Hp} {R : Nat → V → Hp → Prop} {i : Nat} {y : V} (h0 : HandAt K H0 d lc) (hD : H0 D = none) (st : ∀ j y Ha Hb, Off d D Ha Hb → R j y Ha → R j y Hb) (a : AccH K d lc H0 D R i H) (hi : i ≤ 1000) (k : Kp d H H4) (h4 : HandAt K H4 d lc) (r : R i y H4) :
    ∃ acc, H4 D = some (.lst acc) ∧ acc.length < sizeLine ∧ AccH K d lc H0 D R (i + 1) (upd H4 D (.lst (acc ++ [y]))) := by
  obtain ⟨k0, hh, acc, e, hl, hr⟩ := a
  have isH := hh.is
  have e4 := k.lst isH e
  have o1 : Off d D H (upd H4 D (.lst (acc ++ [y]))) := ⟨isH, ⟨_, e⟩, fun b o n1 n2 q => by rw [upd_ne n2]; exact k b o n1 q⟩
  have o2 : Off d D H4 (upd H4 D (.lst (acc ++ [y]))) := ⟨h4.is, ⟨_, e4⟩, fun b o n1 n2 q => by rw [upd_ne n2]; exact q⟩
  refine ⟨acc, e4, by rw [hl]; exact Nat.lt_of_le_of_lt hi (by decide), fun b o n q => ?_, hand_upd h0 hD h4, acc ++ [y], upd_same, by simp [hl], fun j z hz => ?_⟩
  · rw [upd_ne (ne_of_none q hD)]
    exact (k0.trans k) b o n q
  · by_cases c : j < acc.length
    · rw [List.getElem?_append_left c] at hz
      exact st _ _ _ _ o1 (hr j z hz)
    · rw [List.getElem?_append_right (by omega)] at hz
      have e0 : j - acc.length = 0 := by
        apply Classical.byContradiction
        intro hn
        rw [List.getElem?_eq_none (by simp; omega)] at hz
        cases hz
      rw [e0] at hz
      cases hz
      have : j = i := by omega
      subst this
      exact st _ _ _ _ o2 r
/-- one beside each -/
theorem choose_all {α β : Type} {F : α → β → Prop} : ∀ {xs : List α}, (∀ (j : Nat) x, xs[j]? = some x → ∃ y, F x y) → ∃ ys, Paired F xs ys
  | [], _ => ⟨[], .nil⟩
  | x :: xs, h => by
    obtain ⟨y, hy⟩ := h 0 x rfl
    obtain ⟨ys, hys⟩ := choose_all (xs := xs) fun j z hz => h (j + 1) z hz
    exact ⟨y :: ys, .cons hy hys⟩
structure S4.Small (z : S4) : Prop where
  b : z.b ≤ 1000000
  d : z.d ≤ 1000000
  a : z.a.natAbs ≤ 100000000
  c : z.c.natAbs ≤ 100000000
def lowS (l h B : Int) : S4 := ⟨lowT l B, lowB l B, lowT h B, lowB h B⟩
theorem lowS_ok {l h B : Int} (hB : 0 < B) (hlt : l < h) (hl : l.natAbs < 2 ^ 300) (hh : h.natAbs < 2 ^ 300) (hb : B.natAbs ≤ 2 ^ 146) : (lowS l h B).Ok := by
  have o1 := low_ok (t := l) hB
  have o2 := low_ok (t := h) hB
  have b1 := o1.ble
  have b2 := o2.ble
  have p1 := o1.bp
  have p2 := o2.bp
  refine ⟨p1, p2, ?_, o1.one, o2.one, Nat.lt_of_le_of_lt o1.tle hl, ?_, Nat.lt_of_le_of_lt o2.tle hh, ?_⟩
  · show lowT l B * lowB h B < lowT h B * lowB l B
    have e1 : ((Int.gcd l B : Nat) : Int) * ((Int.gcd h B : Nat) : Int) * (lowT l B * lowB h B) = l * B := by
      have h1 := o1.ht
      have h2 := o2.hb
      grind
    have e2 : ((Int.gcd l B : Nat) : Int) * ((Int.gcd h B : Nat) : Int) * (lowT h B * lowB l B) = h * B := by
      have h1 := o2.ht
      have h2 := o1.hb
      grind
    have lt : l * B < h * B := Int.mul_lt_mul_of_pos_right hlt hB
    rw [← e1, ← e2] at lt
    exact Int.lt_of_mul_lt_mul_left lt (Int.le_of_lt (Int.mul_pos o1.gp o2.gp))
  · show (lowB l B).natAbs ≤ 2 ^ 146
    omega
  · show (lowB h B).natAbs ≤ 2 ^ 146
    omega
def spStretch (K : PySem.W.Frag) : Sp := fun vs H Q _ => ∃ d lc : Addr, vs = [.ref d] ∧ HandAt K H d lc ∧ ∀ H' r z, Kp d H H' → HandAt K H' d lc → StretchAt K H' (.ref r) z → z.Ok → z.Small → Q (.ref r) H'
def spLawBox (K : PySem.W.Frag) : Sp := fun vs H Q _ => ∃ (d lc : Addr) (m : Nat), vs = [.ref d, .int m] ∧ HandAt K H d lc ∧ m ≤ 3 ∧ ∀ H' a bs, Kp d H H' → HandAt K H' d lc → BoxAt K H' a bs → bs.length = m → (∀ z ∈ bs, z.Ok ∧ z.Small) → Q (.ref a) H'
/-- a place: p / q -/
def PlaceAt (K : PySem.W.Frag) (H : Hp) (v : V) (pt : Int × Int) : Prop := ∃ r, v = .ref r ∧ SqT K H r [.int pt.1, .int pt.2]
structure InS (z : S4) (pt : Int × Int) : Prop where
  q0 : 0 < pt.2
  lo : z.a * pt.2 ≤ pt.1 * z.b
  hi : pt.1 * z.d ≤ z.c * pt.2
structure PtSmall (pt : Int × Int) : Prop where
  q : pt.2 ≤ 1000000000000000
  p : pt.1.natAbs ≤ 10 ^ 20
def spPlace (K : PySem.W.Frag) : Sp := fun vs H Q _ => ∃ (d lc : Addr) (v : V) (z : S4), vs = [.ref d, v] ∧ HandAt K H d lc ∧ StretchAt K H v z ∧ z.Ok ∧ z.Small ∧ ∀ H' r pt, Kp d H H' → HandAt K H' d lc → PlaceAt K H' (.ref r) pt → InS z pt → PtSmall pt → Q (.ref r) H'
def nearS (pt : Int × Int) (y : Int) : S4 := lowS (pt.1 * y - 1 * pt.2) (pt.1 * y + 1 * pt.2) (pt.2 * y)
def spAbout (K : PySem.W.Frag) : Sp := fun vs H Q _ => ∃ (v : V) (pt : Int × Int) (y : Int), vs = [v, .int 1, .int y] ∧ PlaceAt K H v pt ∧ 0 < pt.2 ∧ PtSmall pt ∧ 0 < y ∧ y ≤ 2 ^ 96 ∧ ∀ H' r, Same H H' → StretchAt K H' (.ref r) (nearS pt y) → Q (.ref r) H'
--SP _law_any := spAny K
--SP _law_draw := spDraw K
--SP _law_low := spLow K
--SP _law_stretch := spStretch K
--SP _law_box := spLawBox K
--SP _law_place := spPlace K
--SP _law_about := spAbout K
theorem cmul_s {i j : Int} (h1 : i.natAbs < 2 ^ 1000) (h2 : j.natAbs < 2 ^ 1000) : CMulW i j := wide_mul h1 h2 (by decide) (by decide) (by decide)
theorem sm {x : Int} {a : Nat} (h : x.natAbs < 2 ^ 64) (ha : 64 ≤ a) : x.natAbs < 2 ^ a := bits_up h ha
variable {P : Program} {w : World} {K : PySem.W.Frag} {mg : Str → Option Value} {base : Heap} {CP CR aN : Addr}
theorem ok__law_stretch {f : Addr} {fd : FuncData} (F : C8.Def K mg "_law_stretch" s__law_stretch f fd) (b : Binds K fd ["_law_hand_here"] []) (T : Txt K mg CP CR aN) (c__law_any : C8.Cal P w K mg base 2 "_law_any" (spAny K) []) (c__law_draw : C8.Cal P w K mg base 1 "_law_draw" (spDraw K) []) (c__law_low : C8.Cal P w K mg base 1 "_law_low" (spLow K) []) : C8.Cal P w K mg base 3 "_law_stretch" (spStretch K) [] := by
  refine C8.cal0 F b .nil sc__law_stretch (fun vs H Q E h => ?_) (fun cdv A outer s H vs Q E hr h => ?_)
  · obtain ⟨d, lc, rfl, _⟩ := h
    rfl
  · obtain ⟨d, lc, rfl, hh, q⟩ := h
    have nd := sc__law_stretch.nd
    refine ⟨_, (pss_cons (ps_set (i := 1) nd rfl (Or.inl rfl) (C8.pe_c c__law_any hr (by decide) (by rfl) (pa_cons (pv 0) (pa_cons (pe_lst (pa_cons pe_int (pa_cons pe_int (pa_cons pe_int (pa_cons pe_int (pa_cons pe_int (pa_cons pe_int (pa_cons (pe_op op_pow pe_int pe_int) pa_nil)))))))) pa_nil))))
    (pss_cons (ps_set (i := 2) nd rfl (Or.inl rfl) (pe_op op_sub (C8.pe_c c__law_draw hr (by decide) (by rfl) (pa_cons (pv 0) (pa_cons (pe_op op_mulW pe_int (pv 1)) pa_nil))) (pe_op op_mulW (C8.pe_c c__law_any hr (by decide) (by rfl) (pa_cons (pv 0) (pa_cons (pe_lst (pa_cons pe_int (pa_cons pe_int (pa_cons pe_int (pa_cons pe_int pa_nil))))) pa_nil))) (pv 1))))
    (pss_cons (ps_set (i := 3) nd rfl (Or.inl rfl) (pe_op op_add pe_int (C8.pe_c c__law_draw hr (by decide) (by rfl) (pa_cons (pv 0) (pa_cons (C8.pe_c c__law_any hr (by decide) (by rfl) (pa_cons (pv 0) (pa_cons (pe_lst (pa_cons pe_int (pa_cons (pv 1) (pa_cons (pe_op op_mulW pe_int (pv 1)) (pa_cons (pe_op op_mulW pe_int (pv 1)) pa_nil))))) pa_nil))) pa_nil)))))
    (pss_one (ps_ret (pe_tup (pa_cons (C8.pe_c c__law_low hr (by decide) (by rfl) (pa_cons (pv 2) (pa_cons (pv 1) pa_nil))) (pa_cons (C8.pe_c c__law_low hr (by decide) (by rfl) (pa_cons (pe_op op_add (pv 2) (pv 3)) (pa_cons (pv 1) pa_nil))) pa_nil)))))))), ?_⟩
    have isH := hh.is
    -- bottom
    refine ⟨_, rfl, _, _, rfl, rfl, ⟨by decide, by decide, by decide⟩, by show 7 ≤ sizeLine; decide, fun l1 hl1 => ?_⟩
    have s1 : Same H (upd H l1 (.lst [.int 1, .int 1, .int 1, .int 2, .int 3, .int 7, .int (10 ^ (6 : Int).toNat)])) := same_new hl1
    refine ⟨d, lc, l1, [1, 1, 1, 2, 3, 7, 10 ^ (6 : Int).toNat], rfl, hh.same s1, sqL_at, by simp, by show 7 ≤ 100; decide, fun H2 B k2 h2 hB => ?_⟩
    have hB' : 1 ≤ B ∧ B ≤ 1000000 := by
      have e6 : (10 : Int) ^ (6 : Int).toNat = 1000000 := by decide
      rw [e6] at hB
      simp only [List.mem_cons, List.not_mem_nil, or_false] at hB
      omega
    have k02 : Kp d H H2 := (Kp.of s1).trans k2
    -- low
    refine ⟨_, rfl, _, rfl, _, _, rfl, rfl, cmul_s (by decide) (sm (by omega) (by decide)), d, lc, _, rfl, h2, by omega, sm (by omega) (by decide), fun H3 x k3 h3 x0 x1 => ?_⟩
    refine ⟨_, rfl, by show 4 ≤ sizeLine; decide, fun l4 hl4 => ?_⟩
    have s4 : Same H3 (upd H3 l4 (.lst [.int 0, .int 4, .int 4, .int 9])) := same_new hl4
    refine ⟨d, lc, l4, [0, 4, 4, 9], rfl, h3.same s4, sqL_at, by simp, by show 4 ≤ 100; decide, fun H5 y k5 h5 hy => ?_⟩
    have hy' : 0 ≤ y ∧ y ≤ 9 := by
      simp only [List.mem_cons, List.not_mem_nil, or_false] at hy
      omega
    have hyB : 0 ≤ y * B ∧ y * B ≤ 9000000 := by
      have h1 := Int.mul_le_mul hy'.2 hB'.2 (by omega) (by omega)
      have h2 := Int.mul_nonneg hy'.1 (show 0 ≤ B by omega)
      omega
    refine ⟨_, rfl, _, _, rfl, rfl, cmul_s (sm (by omega) (by decide)) (sm (by omega) (by decide)), _, _, rfl, rfl, ?_⟩
    have k05 : Kp d H H5 := k02.trans (k3.trans ((Kp.of s4).trans k5))
    -- wide
    refine ⟨_, rfl, _, rfl, _, rfl, _, rfl, _, _, rfl, rfl, cmul_s (by decide) (sm (by omega) (by decide)), _, rfl, _, _, rfl, rfl, cmul_s (by decide) (sm (by omega) (by decide)), by show 4 ≤ sizeLine; decide, fun l6 hl6 => ?_⟩
    have s6 : Same H5 (upd H5 l6 (.lst [.int 1, .int B, .int (3 * B), .int (9 * B)])) := same_new hl6
    refine ⟨d, lc, l6, [1, B, 3 * B, 9 * B], rfl, h5.same s6, sqL_at, by simp, by show 4 ≤ 100; decide, fun H7 m k7 h7 hm => ?_⟩
    have hm' : 1 ≤ m ∧ m ≤ 9000000 := by
      simp only [List.mem_cons, List.not_mem_nil, or_false] at hm
      omega
    refine ⟨d, lc, _, rfl, h7, by omega, sm (by omega) (by decide), fun H8 u k8 h8 u0 u1 => ?_⟩
    refine ⟨_, _, rfl, rfl, ?_⟩
    have k08 : Kp d H H8 := k05.trans ((Kp.of s6).trans (k7.trans k8))
    -- the two ends
    refine ⟨_, rfl, _, rfl, _, _, rfl, by omega, sm (by omega) (by decide), fun H9 p9 s9 hp9 => ?_⟩
    refine ⟨_, rfl, _, rfl, _, _, rfl, rfl, _, rfl, _, _, rfl, by omega, sm (by omega) (by decide), fun H10 p10 s10 hp10 => ?_⟩
    refine ⟨by show 2 ≤ sizeLine; decide, fun r hr => ?_⟩
    have sr : Same H10 (upd H10 r (.tup [.ref p9, .ref p10])) := same_new hr
    have ok := lowS_ok (l := x - y * B) (h := x - y * B + (1 + u)) (B := B) (by omega) (by omega) (sm (by omega) (by decide)) (sm (by omega) (by decide)) (by
      have : B.natAbs ≤ 2 ^ 20 := by omega
      exact Nat.le_trans this (Nat.pow_le_pow_right (by decide) (by decide)))
    refine q _ r _ (k08.trans ((Kp.of s9).trans ((Kp.of s10).trans (Kp.of sr)))) (((h8.same s9).same s10).same sr) ⟨r, p9, p10, rfl, sqT_at, same_tup (s10.trans sr) hp9, same_tup sr hp10⟩ ok ?_
    have o1 := low_ok (t := x - y * B) (b := B) (by omega)
    have o2 := low_ok (t := x - y * B + (1 + u)) (b := B) (by omega)
    exact ⟨Int.le_trans o1.ble hB'.2, Int.le_trans o2.ble hB'.2, Nat.le_trans o1.tle (by omega), Nat.le_trans o2.tle (by omega)⟩
theorem ok__law_box {f : Addr} {fd : FuncData} (F : C8.Def K mg "_law_box" s__law_box f fd) (b : Binds K fd ["_law_hand_here", "_law_many"] []) (T : Txt K mg CP CR aN) (c__law_stretch : C8.Cal P w K mg base 3 "_law_stretch" (spStretch K) []) : C8.Cal P w K mg base 4 "_law_box" (spLawBox K) [] := by
  refine C8.cal0 F b .nil sc__law_box (fun vs H Q E h => ?_) (fun cdv A outer s H vs Q E hr h => ?_)
  · obtain ⟨d, lc, m, rfl, _⟩ := h
    rfl
  · obtain ⟨d, lc, m, rfl, hh, hm, q⟩ := h
    have nd := sc__law_box.nd
    refine ⟨_, (pss_one (ps_ret (pe_callTy (call_tuple_ofK K) (by rfl) T.tuple (by decide +kernel) (pa_cons (pe_lc (own := [("_law_k", 2)]) (g := (gName 2)) (tt := tYes) rfl nd (pi_range1 (by rfl) T.range (pa_cons (pv 1) pa_nil)) (blkOk_by (own := [("_law_k", 2)]) (N := ["_law_hand_here", "_law_many", "_law_k"]) (sc := C8.fnScope s__law_box) (by decide +kernel)) (fun _ _ _ _ _ => (pg_name (i := 2) nd rfl (Or.inl rfl))) (fun _ _ _ _ _ => pts_nil) (fun _ _ _ _ _ => (C8.pe_c c__law_stretch hr (by decide) (by rfl) (pa_cons (pv 0) pa_nil)))) pa_nil)))), ?_⟩
    refine ⟨_, rfl, _, rfl, (by omega), (by omega), ?_⟩
    intro D hD
    have e : (((m : Nat) : Int)).toNat = m := by omega
    refine lc_range (lo := 0) (n := (((m : Nat) : Int)).toNat) (AccH K d lc H D fun j y H => ∃ r z, y = .ref r ∧ StretchAt K H (.ref r) z ∧ z.Ok ∧ z.Small) (accH_zero hh hD) (fun i H' hi a => ?_) (fun H' a => ?_)
    · refine ⟨rfl, _, rfl, d, lc, rfl, a.2.1, ?_⟩
      intro H2 r z k2 h2 hz ok sml
      exact accH_step hh hD (fun j y Ha Hb o ⟨r, z, e, h1, h2⟩ => ⟨r, z, e, o.stretch h1, h2⟩) a (by omega) k2 h2 ⟨r, z, rfl, hz, ok, sml⟩
    · obtain ⟨k1, h1, acc, ea, hal, hr⟩ := a
      rw [e] at hal
      refine ⟨D, acc, rfl, .inl ⟨SqL.of ea, fun t ht => ?_⟩⟩
      have st : Same H' (upd H' t (.tup acc)) := same_new ht
      obtain ⟨bs, hP⟩ := choose_all (F := fun y z => StretchAt K H' y z ∧ z.Ok ∧ z.Small) (xs := acc) fun j y hy => by
        obtain ⟨r, z, rfl, h1, h2, h3⟩ := hr j y hy
        exact ⟨z, h1, h2, h3⟩
      have hbl := paired_len hP
      refine q _ t bs (k1.trans (Kp.of st)) (h1.same st) ⟨acc, sqT_at, paired_mono (fun _ _ x => x.1.same st) hP⟩ (by omega) fun z hz => ?_
      have back : ∀ {xs : List V} {ys : List S4}, Paired (fun y z => StretchAt K H' y z ∧ z.Ok ∧ z.Small) xs ys → ∀ z ∈ ys, z.Ok ∧ z.Small := fun p => by
        induction p with
        | nil => exact fun z hz => nomatch hz
        | cons h _ ih =>
          intro z hz
          rcases List.mem_cons.mp hz with e | hz
          · rw [e]
            exact h.2
          · exact ih z hz
      exact back hP z hz
theorem mul_bd {x y : Int} {a b : Nat} (h1 : x.natAbs ≤ a) (h2 : y.natAbs ≤ b) : (x * y).natAbs ≤ a * b := by
  rw [Int.natAbs_mul]
  exact Nat.mul_le_mul h1 h2
theorem ok__law_place {f : Addr} {fd : FuncData} (F : C8.Def K mg "_law_place" s__law_place f fd) (b : Binds K fd ["_law_hand_here", "_law_stretch_here"] []) (T : Txt K mg CP CR aN) (c__law_any : C8.Cal P w K mg base 2 "_law_any" (spAny K) []) (c__law_draw : C8.Cal P w K mg base 1 "_law_draw" (spDraw K) []) (c__law_low : C8.Cal P w K mg base 1 "_law_low" (spLow K) []) : C8.Cal P w K mg base 3 "_law_place" (spPlace K) [] := by
  refine C8.cal0 F b .nil sc__law_place (fun vs H Q E h => ?_) (fun cdv A outer s H vs Q E hr h => ?_)
  · obtain ⟨d, lc, v, z, rfl, _⟩ := h
    rfl
  · obtain ⟨d, lc, v, z, rfl, hh, ⟨r, l, g, rfl, st1, st2, st3⟩, ok, sml, q⟩ := h
    have nd := sc__law_place.nd
    refine ⟨_, (pss_cons (ps_asg (pv 1) (pg_tup rfl (pgs_cons (pg_tup rfl (pgs_cons (pg_name (i := 2) nd rfl (Or.inl rfl)) (pgs_cons (pg_name (i := 3) nd rfl (Or.inl rfl)) pgs_nil))) (pgs_cons (pg_tup rfl (pgs_cons (pg_name (i := 4) nd rfl (Or.inl rfl)) (pgs_cons (pg_name (i := 5) nd rfl (Or.inl rfl)) pgs_nil))) pgs_nil))))
    (pss_cons (ps_set (i := 6) nd rfl (Or.inl rfl) (C8.pe_c c__law_any hr (by decide) (by rfl) (pa_cons (pv 0) (pa_cons (pe_lst (pa_cons pe_int (pa_cons pe_int (pa_cons pe_int (pa_cons pe_int pa_nil))))) pa_nil))))
    (pss_cons (ps_set (i := 7) nd rfl (Or.inl rfl) (C8.pe_c c__law_draw hr (by decide) (by rfl) (pa_cons (pv 0) (pa_cons (pe_op op_add (pv 6) pe_int) pa_nil))))
    (pss_one (ps_ret (C8.pe_c c__law_low hr (by decide) (by rfl) (pa_cons (pe_op op_add (pe_op op_mulW (pe_op op_mulW (pv 2) (pv 5)) (pe_op op_sub (pv 6) (pv 7))) (pe_op op_mulW (pe_op op_mulW (pv 4) (pv 3)) (pv 7))) (pa_cons (pe_op op_mulW (pe_op op_mulW (pv 3) (pv 5)) (pv 6)) pa_nil)))))))), ?_⟩
    have b0 := ok.hb
    have d0 := ok.hd
    have b1 := sml.b
    have d1 := sml.d
    have a1 := sml.a
    have c1 := sml.c
    refine ⟨_, rfl, _, _, rfl, st1, rfl, _, _, rfl, ⟨_, _, rfl, st2, rfl, _, _, rfl, _, _, rfl, rfl, ?_⟩⟩
    refine ⟨_, _, rfl, ⟨_, _, rfl, st3, rfl, _, _, rfl, _, _, rfl, rfl, ?_⟩⟩
    refine ⟨rfl, ?_⟩
    refine ⟨_, rfl, by show 4 ≤ sizeLine; decide, fun l4 hl4 => ?_⟩
    have s4 : Same H (upd H l4 (.lst [.int 1, .int 2, .int 7, .int 1000])) := same_new hl4
    refine ⟨d, lc, l4, [1, 2, 7, 1000], rfl, hh.same s4, sqL_at, by simp, by show 4 ≤ 100; decide, fun H5 U k5 h5 hU => ?_⟩
    have hU' : 1 ≤ U ∧ U ≤ 1000 := by
      simp only [List.mem_cons, List.not_mem_nil, or_false] at hU
      omega
    refine ⟨_, rfl, _, rfl, _, _, rfl, rfl, d, lc, _, rfl, h5, by omega, sm (by omega) (by decide), fun H6 s k6 h6 s0 s1 => ?_⟩
    have bAD : (z.a * z.d).natAbs ≤ 100000000 * 1000000 := mul_bd a1 (by omega)
    have bCB : (z.c * z.b).natAbs ≤ 100000000 * 1000000 := mul_bd c1 (by omega)
    have bBD : (z.b * z.d).natAbs ≤ 1000000 * 1000000 := mul_bd (by omega) (by omega)
    have bX : (z.a * z.d * (U - s)).natAbs ≤ 100000000 * 1000000 * 1000 := mul_bd bAD (by omega)
    have bY : (z.c * z.b * s).natAbs ≤ 100000000 * 1000000 * 1000 := mul_bd bCB (by omega)
    have bZ : (z.b * z.d * U).natAbs ≤ 1000000 * 1000000 * 1000 := mul_bd bBD (by omega)
    have pBD : 0 < z.b * z.d := Int.mul_pos b0 d0
    have pZ : 0 < z.b * z.d * U := Int.mul_pos pBD (by omega)
    refine ⟨_, rfl, _, rfl, _, _, rfl, rfl, cmul_s (sm (by omega) (by decide)) (sm (by omega) (by decide)), _, rfl, _, rfl, _, _, rfl, rfl, _, _, rfl, rfl, cmul_s (sm (by omega) (by decide)) (sm (by omega) (by decide)), ?_⟩
    refine ⟨_, rfl, _, rfl, _, _, rfl, rfl, cmul_s (sm (by omega) (by decide)) (sm (by omega) (by decide)), _, rfl, _, _, rfl, rfl, cmul_s (sm (by omega) (by decide)) (sm (by omega) (by decide)), _, _, rfl, rfl, ?_⟩
    refine ⟨_, rfl, _, rfl, _, _, rfl, rfl, cmul_s (sm (by omega) (by decide)) (sm (by omega) (by decide)), _, rfl, _, _, rfl, rfl, cmul_s (sm (by omega) (by decide)) (sm (by omega) (by decide)), ?_⟩
    refine ⟨_, _, rfl, pZ, sm (by omega) (by decide), fun H7 p s7 hp => ?_⟩
    have lo := low_ok (t := z.a * z.d * (U - s) + z.c * z.b * s) pZ
    refine q H7 p (lowT (z.a * z.d * (U - s) + z.c * z.b * s) (z.b * z.d * U), lowB (z.a * z.d * (U - s) + z.c * z.b * s) (z.b * z.d * U)) ((Kp.of s4).trans (k5.trans (k6.trans (Kp.of s7)))) (h6.same s7) ⟨p, rfl, hp⟩ ⟨lo.bp, ?_, ?_⟩ ⟨?_, ?_⟩
    · have gp := lo.gp
      have e1 := lo.ht
      have e2 := lo.hb
      generalize ((Int.gcd (z.a * z.d * (U - s) + z.c * z.b * s) (z.b * z.d * U) : Nat) : Int) = g at gp e1 e2
      generalize lowT (z.a * z.d * (U - s) + z.c * z.b * s) (z.b * z.d * U) = pp at e1
      generalize lowB (z.a * z.d * (U - s) + z.c * z.b * s) (z.b * z.d * U) = qq at e2
      show z.a * qq ≤ pp * z.b
      refine Int.le_of_mul_le_mul_left ?_ gp
      have h1 : g * (z.a * qq) = z.a * (z.b * z.d * U) := by rw [← e2]; grind
      have h2 : g * (pp * z.b) = (z.a * z.d * (U - s) + z.c * z.b * s) * z.b := by rw [← e1]; grind
      rw [h1, h2]
      have h3 : 0 ≤ z.b * (s * (z.c * z.b - z.a * z.d)) := Int.mul_nonneg (Int.le_of_lt b0) (Int.mul_nonneg s0 (by have := ok.lt; omega))
      have h4 : (z.a * z.d * (U - s) + z.c * z.b * s) * z.b - z.a * (z.b * z.d * U) = z.b * (s * (z.c * z.b - z.a * z.d)) := by grind
      omega
    · have gp := lo.gp
      have e1 := lo.ht
      have e2 := lo.hb
      generalize ((Int.gcd (z.a * z.d * (U - s) + z.c * z.b * s) (z.b * z.d * U) : Nat) : Int) = g at gp e1 e2
      generalize lowT (z.a * z.d * (U - s) + z.c * z.b * s) (z.b * z.d * U) = pp at e1
      generalize lowB (z.a * z.d * (U - s) + z.c * z.b * s) (z.b * z.d * U) = qq at e2
      show pp * z.d ≤ z.c * qq
      refine Int.le_of_mul_le_mul_left ?_ gp
      have h1 : g * (z.c * qq) = z.c * (z.b * z.d * U) := by rw [← e2]; grind
      have h2 : g * (pp * z.d) = (z.a * z.d * (U - s) + z.c * z.b * s) * z.d := by rw [← e1]; grind
      rw [h1, h2]
      have h3 : 0 ≤ z.d * ((U - s) * (z.c * z.b - z.a * z.d)) := Int.mul_nonneg (Int.le_of_lt d0) (Int.mul_nonneg (by omega) (by have := ok.lt; omega))
      have h4 : z.c * (z.b * z.d * U) - (z.a * z.d * (U - s) + z.c * z.b * s) * z.d = z.d * ((U - s) * (z.c * z.b - z.a * z.d)) := by grind
      omega
    · have := lo.ble
      show lowB _ _ ≤ _
      omega
    · exact Nat.le_trans lo.tle (by omega)
theorem ok__law_about {f : Addr} {fd : FuncData} (F : C8.Def K mg "_law_about" s__law_about f fd) (b : Binds K fd ["_law_place_here", "_law_wide", "_law_by"] []) (T : Txt K mg CP CR aN) (c__law_low : C8.Cal P w K mg base 1 "_law_low" (spLow K) []) : C8.Cal P w K mg base 2 "_law_about" (spAbout K) [] := by
  refine C8.cal0 F b .nil sc__law_about (fun vs H Q E h => ?_) (fun cdv A outer s H vs Q E hr h => ?_)
  · obtain ⟨v, pt, y, rfl, _⟩ := h
    rfl
  · obtain ⟨v, pt, y, rfl, ⟨r, rfl, h1⟩, q0, ⟨sq, sp⟩, y0, y1, q⟩ := h
    have nd := sc__law_about.nd
    refine ⟨_, (pss_one (ps_ret (pe_tup (pa_cons (C8.pe_c c__law_low hr (by decide) (by rfl) (pa_cons (pe_op op_sub (pe_op op_mulW (pe_ix (ix_tupK K) (pv 0) pe_int (fun _ _ => rfl)) (pv 2)) (pe_op op_mulW (pv 1) (pe_ix (ix_tupK K) (pv 0) pe_int (fun _ _ => rfl)))) (pa_cons (pe_op op_mulW (pe_ix (ix_tupK K) (pv 0) pe_int (fun _ _ => rfl)) (pv 2)) pa_nil))) (pa_cons (C8.pe_c c__law_low hr (by decide) (by rfl) (pa_cons (pe_op op_add (pe_op op_mulW (pe_ix (ix_tupK K) (pv 0) pe_int (fun _ _ => rfl)) (pv 2)) (pe_op op_mulW (pv 1) (pe_ix (ix_tupK K) (pv 0) pe_int (fun _ _ => rfl)))) (pa_cons (pe_op op_mulW (pe_ix (ix_tupK K) (pv 0) pe_int (fun _ _ => rfl)) (pv 2)) pa_nil))) pa_nil))))), ?_⟩
    have bp : pt.1.natAbs < 2 ^ 100 := Nat.lt_of_le_of_lt sp (by decide)
    have bq : pt.2.natAbs < 2 ^ 100 := Nat.lt_of_le_of_lt (show pt.2.natAbs ≤ 1000000000000000 by omega) (by decide)
    have by1 : y.natAbs < 2 ^ 100 := Nat.lt_of_le_of_lt (show y.natAbs ≤ 2 ^ 96 by omega) (by decide)
    have cm : ∀ {i j : Int}, i.natAbs < 2 ^ 100 → j.natAbs < 2 ^ 100 → CMulW i j := fun a b => wide_mul a b (by decide) (by decide) (by decide)
    have pqy : 0 < pt.2 * y := Int.mul_pos q0 y0
    have bqy : (pt.2 * y).natAbs < 2 ^ 200 := wide_lt bq by1
    refine ⟨_, rfl, _, _, _, _, rfl, rfl, h1, by rfl, _, rfl, _, _, rfl, rfl, cm bp by1, _, rfl, _, rfl, _, _, _, _, rfl, rfl, h1, by rfl, _, _, rfl, rfl, cm (by decide) bq, _, _, rfl, rfl, ?_⟩
    refine ⟨_, rfl, _, _, _, _, rfl, rfl, h1, by rfl, _, rfl, _, _, rfl, rfl, cm bq by1, _, _, rfl, pqy, bits_up bqy (by decide), fun H2 p2 s2 hp2 => ?_⟩
    have h12 := same_tup s2 h1
    refine ⟨_, rfl, _, _, _, _, rfl, rfl, h12, by rfl, _, rfl, _, _, rfl, rfl, cm bp by1, _, rfl, _, rfl, _, _, _, _, rfl, rfl, h12, by rfl, _, _, rfl, rfl, cm (by decide) bq, _, _, rfl, rfl, ?_⟩
    refine ⟨_, rfl, _, _, _, _, rfl, rfl, h12, by rfl, _, rfl, _, _, rfl, rfl, cm bq by1, _, _, rfl, pqy, bits_up bqy (by decide), fun H3 p3 s3 hp3 => ?_⟩
    refine ⟨by show 2 ≤ sizeLine; decide, fun t ht => ?_⟩
    have st : Same H3 (upd H3 t (.tup [.ref p2, .ref p3])) := same_new ht
    exact q _ t (s2.trans (s3.trans st)) ⟨t, p2, p3, rfl, sqT_at, same_tup (s3.trans st) hp2, same_tup st hp3⟩
end Bx

/-! Bx L4: the law's parts, degrees, indexes. -/
namespace Bx
open PySem PySem.Spec PyProof.Rows L2
def Mo (m mo : Nat) : List Nat := (List.range 4).map fun j => if j < m then mo else 0
def setT (us : List Tm) (k : List Int) (c : Int) : List Tm := addT us k (c - (getT us k).getD 0)
theorem putK_setT {us : List Tm} (nd : (us.map (·.1)).Nodup) (k : List Int) (c : Int) : putK (toKV us) k (.int c) = toKV (setT us k c) := by
  unfold setT
  rw [← putK_addT nd]
  congr 2
  omega
theorem mem_setT : ∀ {us : List Tm} {k : List Int} {c : Int} {t : Tm}, t ∈ setT us k c → t ∈ us ∨ t = (k, c)
  | [], k, c, t, h => by
    have : t = (k, 0 + (c - (getT [] k).getD 0)) ∨ t = (k, c - (getT [] k).getD 0) := .inr (by simpa [setT, addT] using h)
    right
    rcases this with e | e <;> rw [e] <;> simp [getT]
  | (q, x) :: r, k, c, t, h => by
    unfold setT addT at h
    rw [getT_cons] at h
    by_cases e : q = k
    · rw [if_pos e, if_pos e] at h
      rcases List.mem_cons.mp h with h | h
      · right
        rw [h, e]
        show (k, x + (c - x)) = (k, c)
        rw [show x + (c - x) = c by omega]
      · exact .inl (List.mem_cons_of_mem _ h)
    · rw [if_neg e, if_neg e] at h
      rcases List.mem_cons.mp h with h | h
      · exact .inl (by rw [h]; exact List.mem_cons_self)
      · exact (mem_setT (us := r) (by unfold setT; exact h)).imp (List.mem_cons_of_mem _) id
theorem length_setT (us : List Tm) (k c) : (setT us k c).length ≤ us.length + 1 := length_addT ..
theorem nodup_setT {us : List Tm} {k c} (h : (us.map (·.1)).Nodup) : ((setT us k c).map (·.1)).Nodup := nodup_addT h
def spParts (P : Program) (w : World) (K : PySem.W.Frag) : Sp := fun vs H Q _ => ∃ (d lc : Addr) (m mo n : Nat), vs = [.ref d, .int m, .int mo, .int n] ∧ HandAt K H d lc ∧ mo ≤ 3 ∧ 1 ≤ n ∧ n ≤ 4 ∧
  ∀ H' f us, Kp d H H' → HandAt K H' d lc → DD P w K H' f (toKV us) → (us.map (·.1)).Nodup → us.length ≤ n → (∀ u ∈ us, inBox (Mo m mo) u.1 ∧ u.2.natAbs ≤ 10 ^ 25) → Q (.ref f) H'
def degN (us : List Tm) (k : Nat) : Nat := ((us.filter fun t => decide (t.2 ≠ 0)).map fun t => gk t.1 k).foldl max 0
theorem foldl_max : ∀ (l : List Nat) (a : Nat), (∀ x ∈ l, x ≤ l.foldl max a) ∧ a ≤ l.foldl max a ∧ (l.foldl max a = a ∨ l.foldl max a ∈ l)
  | [], a => ⟨(fun x hx => nomatch hx), Nat.le_refl _, .inl rfl⟩
  | y :: r, a => by
    obtain ⟨h1, h2, h3⟩ := foldl_max r (max a y)
    refine ⟨fun x hx => ?_, ?_, ?_⟩
    · rcases List.mem_cons.mp hx with e | hx
      · rw [e]
        exact Nat.le_trans (Nat.le_max_right a y) h2
      · exact h1 x hx
    · exact Nat.le_trans (Nat.le_max_left a y) h2
    · show r.foldl max (max a y) = a ∨ r.foldl max (max a y) ∈ y :: r
      rcases h3 with e | e
      · rw [e]
        by_cases c : y ≤ a
        · left
          omega
        · right
          rw [show max a y = y by omega]
          exact List.mem_cons_self
      · exact .inr (List.mem_cons_of_mem _ e)
theorem degN_le {us : List Tm} {k : Nat} {t : Tm} (h : t ∈ us) (hz : t.2 ≠ 0) : gk t.1 k ≤ degN us k :=
  (foldl_max _ 0).1 _ (List.mem_map.mpr ⟨t, List.mem_filter.mpr ⟨h, by simp [hz]⟩, rfl⟩)
theorem degN_has (us : List Tm) (k : Nat) : degN us k = 0 ∨ ∃ t ∈ us, t.2 ≠ 0 ∧ gk t.1 k = degN us k := by
  rcases (foldl_max ((us.filter fun (t : Tm) => decide (t.2 ≠ 0)).map fun (t : Tm) => gk t.1 k) 0).2.2 with e | e
  · exact .inl e
  · obtain ⟨t, ht, e⟩ := List.mem_map.mp e
    obtain ⟨h1, h2⟩ := List.mem_filter.mp ht
    exact .inr ⟨t, h1, by simpa using h2, e⟩
def spDegrees (P : Program) (w : World) (K : PySem.W.Frag) : Sp := fun vs H Q _ => ∃ (f : Addr) (m : Nat) (us : List Tm), vs = [.ref f, .int m] ∧ DD P w K H f (toKV us) ∧ (us.map (·.1)).Nodup ∧ (∀ u ∈ us, u.1.length = 4 ∧ ∀ x ∈ u.1, 0 ≤ x) ∧ m ≤ 4 ∧ us.length < 64 ∧
  ∀ H' l, Same H H' → H' l = some (.lst (((List.range m).map fun k => ((degN us k : Nat) : Int)).map V.int)) → Q (.ref l) H'
def IdxAt (K : PySem.W.Frag) (H : Hp) (v : V) (idx : List Int) : Prop := ∃ a, v = .ref a ∧ SqT K H a (idx.map V.int)
def idxStep (F : List (List Int)) (D : Nat) : List (List Int) := F.flatMap fun idx => (List.range (D + 1)).map fun (k : Nat) => idx ++ [(k : Int)]
def lawIdx (Ds : List Nat) : List (List Int) := Ds.foldl idxStep [[]]
def spIndexes (K : PySem.W.Frag) : Sp := fun vs H Q _ => ∃ (l : Addr) (Ds : List Nat), vs = [.ref l] ∧ SqL K H l ((Ds.map fun (D : Nat) => (D : Int)).map V.int) ∧ (∀ D ∈ Ds, D ≤ 3) ∧ Ds.length ≤ 3 ∧ ∀ H' r xs, Same H H' → H' r = some (.lst xs) → Paired (IdxAt K H') xs (lawIdx Ds) → Q (.ref r) H'
--SP _law_any := spAny K
--SP _law_draw := spDraw K
--SP _law_parts := spParts P w K
--SP _law_degrees := spDegrees P w K
--SP _law_indexes := spIndexes K
variable {P : Program} {w : World} {K : PySem.W.Frag} {mg : Str → Option Value} {base : Heap} {CP CR aN : Addr}
theorem ok__law_parts {f : Addr} {fd : FuncData} (F : C8.Def K mg "_law_parts" s__law_parts f fd) (b : Binds K fd ["_law_hand_here", "_law_many", "_law_most", "_law_terms"] []) (T : Txt K mg CP CR aN) (c__law_any : C8.Cal P w K mg base 2 "_law_any" (spAny K) []) (c__law_draw : C8.Cal P w K mg base 1 "_law_draw" (spDraw K) []) : C8.Cal P w K mg base 3 "_law_parts" (spParts P w K) [] := by
  refine C8.cal0 F b .nil sc__law_parts (fun vs H Q E h => ?_) (fun cdv A outer s H vs Q E hr h => ?_)
  · obtain ⟨d, lc, m, mo, n, rfl, _⟩ := h
    rfl
  · obtain ⟨d, lc, m, mo, n, rfl, hh, hmo, hn1, hn4, q⟩ := h
    have nd := sc__law_parts.nd
    refine ⟨_, (C8.pss_cut (ps_set (i := 4) nd rfl (Or.inl rfl) (pe_ifExp (pt_cmpR op_gt (C8.pe_c c__law_draw hr (by decide) (by rfl) (pa_cons (pv 0) (pa_cons pe_int pa_nil))) pe_int (nomark _)) (C8.pe_c c__law_any hr (by decide) (by rfl) (pa_cons (pv 0) (pa_cons (pe_lst (pa_cons pe_int (pa_cons pe_int (pa_cons pe_int (pa_cons pe_int (pa_cons pe_int (pa_cons (pe_op op_pow pe_int pe_int) pa_nil))))))) pa_nil))) pe_int))
    (pss_cons (ps_set (i := 5) nd rfl (Or.inl rfl) (pe_ddnewK P w K))
    (pss_cons (ps_for PassesOwn.never rfl (pi_range1 (by rfl) T.range (pa_cons (pe_op op_add pe_int (C8.pe_c c__law_draw hr (by decide) (by rfl) (pa_cons (pv 0) (pa_cons (pv 3) pa_nil)))) pa_nil)) (pg_name (i := 6) nd rfl (Or.inl rfl))
      (pss_cons (ps_set (i := 7) nd rfl (Or.inl rfl) (pe_callTy (call_tuple_ofK K) (by rfl) T.tuple (by decide +kernel) (pa_cons (pe_lc (own := [("_law_u", 9)]) (g := (gName 9)) (tt := tYes) rfl nd (pi_range1 (by rfl) T.range (pa_cons pe_int pa_nil)) (blkOk_by (own := [("_law_u", 9)]) (N := ["_law_hand_here", "_law_many", "_law_most", "_law_terms", "_law_great", "_law_found", "_law_k", "_law_powers", "_law_count", "_law_u"]) (sc := C8.fnScope s__law_parts) (by decide +kernel)) (fun _ _ _ _ _ => (pg_name (i := 9) nd rfl (Or.inl rfl))) (fun _ _ _ _ _ => pts_nil) (fun _ _ _ _ _ => (pe_ifExp (pt_cmpR op_lt (pv 9) (pv 1) (nomark _)) (C8.pe_c c__law_draw hr (by decide) (by rfl) (pa_cons (pv 0) (pa_cons (pe_op op_add (pv 2) pe_int) pa_nil))) pe_int))) pa_nil)))
        (pss_cons (ps_set (i := 8) nd rfl (Or.inl rfl) (pe_op op_add pe_int (C8.pe_c c__law_draw hr (by decide) (by rfl) (pa_cons (pv 0) (pa_cons (pv 4) pa_nil)))))
        (pss_one (ps_ddsetK P w K (hu_of hr) (pv 5) (pv 7) (pe_ifExp (pt_cmpR op_eq (C8.pe_c c__law_draw hr (by decide) (by rfl) (pa_cons (pv 0) (pa_cons pe_int pa_nil))) pe_int (nomark _)) (pv 8) (pe_un un_neg (pv 8))) rfl)))))
    (pss_one (ps_ret (pv 5)))))), ?_⟩
    have hb2 : (3 : Int).natAbs < 2 ^ 8000 := sm (by decide) (by decide)
    refine ⟨fun σ' H' => ∃ g, σ' = [some (.ref d), some (.int m), some (.int mo), some (.int n), some (.int g), none, none, none, none, none] ∧ Kp d H H' ∧ HandAt K H' d lc ∧ 1 ≤ g ∧ g ≤ 10 ^ 25, ?_, fun σ' H1 hm => ?_⟩
    · refine ⟨_, rfl, d, lc, 3, rfl, hh, by decide, hb2, fun H1 x k1 h1 x0 x1 => ?_⟩
      refine ⟨_, _, rfl, rfl, _, rfl, ?_⟩
      by_cases c : 0 < x
      · rw [decide_eq_true c]
        refine ⟨_, rfl, _, _, rfl, rfl, ⟨by decide, by decide, by decide⟩, by show 6 ≤ sizeLine; decide, fun l hl => ?_⟩
        have sl : Same H1 (upd H1 l (.lst [.int 3, .int 9, .int 9, .int 9, .int 100, .int (10 ^ (25 : Int).toNat)])) := same_new hl
        refine ⟨d, lc, l, [3, 9, 9, 9, 100, 10 ^ (25 : Int).toNat], rfl, h1.same sl, sqL_at, by simp, by show 6 ≤ 100; decide, fun H2 g k2 h2 hg => ⟨g, rfl, k1.trans ((Kp.of sl).trans k2), h2, ?_⟩⟩
        have e25 : (10 : Int) ^ (25 : Int).toNat = 10 ^ 25 := rfl
        rw [e25] at hg
        simp only [List.mem_cons, List.not_mem_nil, or_false] at hg
        omega
      · rw [decide_eq_false c]
        exact ⟨2, rfl, k1, h1, by decide, by decide⟩
    · obtain ⟨g, rfl, k1, h1, g1, g25⟩ := hm
      intro f hf o D0
      have sf : Same H1 (upd H1 f o) := same_new hf
      refine ⟨_, rfl, _, rfl, d, lc, _, rfl, h1.same sf, by omega, sm (by omega) (by decide), fun H2 x k2 h2 x0 x1 => ?_⟩
      have k12 : Kp d H1 H2 := (Kp.of sf).trans k2
      refine ⟨_, _, rfl, rfl, _, rfl, (by omega), (by omega), ?_⟩
      have eN : (1 + x).toNat ≤ n := by omega
      refine for_range (lo := 0) (n := (1 + x).toNat) (fun i σ H' => ∃ x6 x7 x8 us, σ = [some (.ref d), some (.int m), some (.int mo), some (.int n), some (.int g), some (.ref f), x6, x7, x8, none] ∧ Kp d H1 H' ∧ HandAt K H' d lc ∧ DD P w K H' f (toKV us) ∧ (us.map (·.1)).Nodup ∧ us.length ≤ i ∧ ∀ u ∈ us, inBox (Mo m mo) u.1 ∧ u.2.natAbs ≤ 10 ^ 25)
        ⟨_, _, _, [], rfl, k12, h2, k2.dd (h1.same sf).is D0, List.nodup_nil, Nat.le_refl _, (fun u hu => nomatch hu)⟩ (fun i σ H' hi mm => ?_) (fun σ H' mm => ?_)
      · obtain ⟨x6, x7, x8, us, rfl, k3, h3, dd, nu, hul, hus⟩ := mm
        refine ⟨_, rfl, (by decide), (by decide), ?_⟩
        intro D hD
        refine lc_range (lo := 0) (n := 4) (AccH K d lc H' D fun j y H => ∃ v : Int, y = .int v ∧ 0 ≤ v ∧ v ≤ (((if j < m then mo else 0) : Nat) : Int)) (accH_zero h3 hD) (fun j H4 hj a => ?_) (fun H4 a => ?_)
        · have st : ∀ (j : Nat) (y : V) (Ha Hb : Hp), Off d D Ha Hb → (∃ v : Int, y = .int v ∧ 0 ≤ v ∧ v ≤ (((if j < m then mo else 0) : Nat) : Int)) → ∃ v : Int, y = .int v ∧ 0 ≤ v ∧ v ≤ (((if j < m then mo else 0) : Nat) : Int) := fun j y Ha Hb _ e => e
          refine ⟨rfl, _, rfl, _, rfl, _, _, rfl, rfl, _, rfl, ?_⟩
          by_cases c : (0 : Int) + ((j : Nat) : Int) < ((m : Nat) : Int)
          · rw [decide_eq_true c]
            refine ⟨_, rfl, _, rfl, _, _, rfl, rfl, d, lc, _, rfl, a.2.1, by omega, sm (by omega) (by decide), fun H5 y k5 h5 y0 y1 => ?_⟩
            exact accH_step h3 hD st a (by omega) k5 h5 ⟨y, rfl, y0, by rw [if_pos (by omega)]; omega⟩
          · rw [decide_eq_false c]
            exact accH_step h3 hD st a (by omega) Kp.refl a.2.1 ⟨0, rfl, Int.le_refl 0, by split <;> omega⟩
        · obtain ⟨k4, h4, acc, ea, hal, hr⟩ := a
          obtain ⟨V0, V1, V2, V3, eacc⟩ : ∃ a b c e, acc = [a, b, c, e] := by
            match acc, hal with
            | [a, b, c, e], _ => exact ⟨a, b, c, e, rfl⟩
          subst eacc
          obtain ⟨v0, rfl, p0, p0'⟩ := hr 0 V0 rfl
          obtain ⟨v1, rfl, p1, p1'⟩ := hr 1 V1 rfl
          obtain ⟨v2, rfl, p2, p2'⟩ := hr 2 V2 rfl
          obtain ⟨v3, rfl, p3, p3'⟩ := hr 3 V3 rfl
          refine ⟨D, _, rfl, .inl ⟨SqL.of ea, fun t ht => ?_⟩⟩
          have hbox : inBox (Mo m mo) [v0, v1, v2, v3] := ⟨p0, p0', p1, p1', p2, p2', p3, p3', True.intro⟩
          have st : Same H4 (upd H4 t (.tup [.int v0, .int v1, .int v2, .int v3])) := same_new ht
          have h4t := h4.same st
          -- count
          refine ⟨_, rfl, _, rfl, d, lc, _, rfl, h4t, by omega, Nat.lt_of_le_of_lt (show g.natAbs ≤ 2 ^ 90 by omega) (Nat.pow_lt_pow_right (by decide) (by decide)), fun H5 cc k5 h5 c0 c1 => ?_⟩
          refine ⟨_, _, rfl, rfl, ?_⟩
          refine ⟨_, rfl, d, lc, 2, rfl, h5, by decide, sm (by decide) (by decide), fun H6 y k6 h6 y0 y1 => ?_⟩
          have k46 : Kp d H4 H6 := (Kp.of st).trans (k5.trans k6)
          have dd6 := (k4.trans k46).dd h3.is dd
          have t6 : SqT K H6 t (([v0, v1, v2, v3] : List Int).map V.int) := (k5.trans k6).tup h4t.is sqT_at
          have hsz : (toKV us).length < sizeLine := by
            rw [length_toKV]
            exact Nat.lt_of_lt_of_le (show us.length < 64 by omega) (by decide)
          have fin : ∀ c : Int, c.natAbs ≤ 10 ^ 25 → ∀ o', (DD P w K H6 f (toKV us) → DD P w K (upd H6 f o') f (putK (toKV us) [v0, v1, v2, v3] (.int c))) → ∃ x6 x7 x8 us', (([some (.ref d), some (.int m), some (.int mo), some (.int n), some (.int g), some (.ref f), some (.int (0 + (i : Nat))), some (.ref t), some (.int (1 + cc)), none] : St) = [some (.ref d), some (.int m), some (.int mo), some (.int n), some (.int g), some (.ref f), x6, x7, x8, none]) ∧
              Kp d H1 (upd H6 f o') ∧ HandAt K (upd H6 f o') d lc ∧ DD P w K (upd H6 f o') f (toKV us') ∧ (us'.map (·.1)).Nodup ∧ us'.length ≤ i + 1 ∧ ∀ u ∈ us', inBox (Mo m mo) u.1 ∧ u.2.natAbs ≤ 10 ^ 25 := fun c hc o' d' => by
            refine ⟨_, _, _, setT us [v0, v1, v2, v3] c, rfl, fun b oo nb e => ?_, hand_upd h1 hf h6, ?_, nodup_setT nu, ?_, fun u hu => ?_⟩
            · rw [upd_ne (ne_of_none e hf)]
              exact (k3.trans (k4.trans k46)) b oo nb e
            · rw [← putK_setT nu]
              exact d' dd6
            · have := length_setT us [v0, v1, v2, v3] c
              omega
            · rcases mem_setT hu with h | h
              · exact hus u h
              · rw [h]
                exact ⟨hbox, hc⟩
          refine ⟨rfl, _, rfl, ?_⟩
          by_cases c : y = 0
          · rw [c]
            refine ⟨_, rfl, _, rfl, _, rfl, f, t, toKV us, [v0, v1, v2, v3], rfl, rfl, dd6, hsz, t6, fun o' d' kp => ?_⟩
            exact fin (1 + cc) (by omega) o' d'
          · rw [decide_eq_false fun z => c (by cases z; rfl)]
            refine ⟨_, rfl, _, rfl, _, rfl, _, rfl, f, t, toKV us, [v0, v1, v2, v3], rfl, rfl, dd6, hsz, t6, fun o' d' kp => ?_⟩
            exact fin (-(1 + cc)) (by omega) o' d'
      · obtain ⟨x6, x7, x8, us, rfl, k3, h3, dd, nu, hul, hus⟩ := mm
        exact ⟨_, rfl, q H' f us (k1.trans k3) h3 dd nu (by omega) hus⟩
theorem ok__law_degrees {f : Addr} {fd : FuncData} (F : C8.Def K mg "_law_degrees" s__law_degrees f fd) (b : Binds K fd ["_law_parts_here", "_law_many"] []) (T : Txt K mg CP CR aN) : C8.Cal P w K mg base 1 "_law_degrees" (spDegrees P w K) [] := by
  refine C8.cal0 F b .nil sc__law_degrees (fun vs H Q E h => ?_) (fun cdv A outer s H vs Q E hr h => ?_)
  · obtain ⟨f, m, us, rfl, _⟩ := h
    rfl
  · obtain ⟨f, m, us, rfl, dd, nu, hk, hm, hul, q⟩ := h
    have nd := sc__law_degrees.nd
    refine ⟨_, (pss_one (ps_ret (pe_lc (own := [("_law_k", 2)]) (g := (gName 2)) (tt := tYes) rfl nd (pi_range1 (by rfl) T.range (pa_cons (pv 1) pa_nil)) (blkOk_by (own := [("_law_k", 2)]) (N := ["_law_parts_here", "_law_many", "_law_k", "_law_powers"]) (sc := C8.fnScope s__law_degrees) (by decide +kernel)) (fun _ _ _ _ _ => (pg_name (i := 2) nd rfl (Or.inr rfl))) (fun _ _ _ _ _ => pts_nil) (fun _ _ _ _ _ => (pe_callB (cr_maxK K rfl) (by rfl) T.max (by decide +kernel) (pa_cons (pe_op op_cat (pe_lst (pa_cons pe_int pa_nil)) (pe_lc (own := [("_law_powers", 3)]) (g := (gName 3)) rfl nd (pi_ddK P w (pv 0)) (blkOk_by (own := [("_law_powers", 3)]) (N := ["_law_parts_here", "_law_many", "_law_k", "_law_powers"]) (sc := ⟨.function, [(".0", .local), ("_law_k", .cell), ("max", .globalImplicit), ("_law_parts_here", .cell)], false, false, []⟩) (by decide +kernel)) (fun _ _ _ _ _ => (pg_name (i := 3) nd rfl (Or.inl rfl))) (fun _ _ _ _ _ => (pts_one (pt_cmpR op_ne (pe_ddgetK P w K (hu_of hr) (pv 0) (pv 3) (fun _ _ => rfl)) pe_int (nomark _)))) (fun _ _ _ _ _ => (pe_ix (ix_tupK K) (pv 3) (pv 2) (fun _ _ => rfl))))) pa_nil)))))), ?_⟩
    refine ⟨_, rfl, _, rfl, (by omega), (by omega), ?_⟩
    intro D hD
    have eN : (((m : Nat) : Int)).toNat = m := by omega
    refine lc_range (lo := 0) (n := (((m : Nat) : Int)).toNat) (Acc H D fun j y H => y = .int ((degN us j : Nat) : Int)) (acc_zero hD) (fun i H' hi a => ?_) (fun H' a => ?_)
    · refine ⟨rfl, by show 1 ≤ sizeLine; decide, fun l0 hl0 => ?_⟩
      have s0 : Same H' (upd H' l0 (.lst [.int 0])) := same_new hl0
      obtain ⟨xs, o, e, ek, t⟩ := (dd.same a.1).same s0
      have at_us : ∀ (j : Nat) p, xs[j]? = some p → ∃ u, us[j]? = some u ∧ p.1 = u.1 ∧ p.2.2 = .int u.2 := fun j p hp => by
        have h1 : (kvOf xs)[j]? = (toKV us)[j]? := by rw [ek]
        unfold kvOf toKV at h1
        rw [List.getElem?_map, List.getElem?_map, hp] at h1
        cases hu : us[j]? with
        | none =>
          rw [hu] at h1
          cases h1
        | some u =>
          rw [hu] at h1
          have h2 := Option.some.inj h1
          exact ⟨u, rfl, congrArg (·.1) h2, congrArg (·.2) h2⟩
      have hxl : xs.length = us.length := by
        have := congrArg List.length ek
        unfold kvOf toKV at this
        rwa [List.length_map, List.length_map] at this
      refine ⟨_, rfl, _, xs, o, rfl, e, fun D2 hD2 => ?_⟩
      refine lc_dd (P := P) (w := w) (d := f) (xs := xs) (o := o) (fun j H2 => H2 = upd (upd H' l0 (.lst [.int 0])) D2 (.lst (((((us.take j).filter fun t => decide (t.2 ≠ 0)).map fun t => t.1.getD i 0)).map V.int))) rfl (fun j H2 _ e2 => by rw [e2]; exact same_new hD2 _ _ e) (fun j p H2 hp e2 => ?_) (fun H2 e2 => ?_)
      · subst e2
        obtain ⟨u, hu, e3, e4⟩ := at_us j p hp
        have hum := List.mem_of_getElem? hu
        have s2 : Same (upd H' l0 (.lst [.int 0])) (upd (upd H' l0 (.lst [.int 0])) D2 (.lst (((((us.take j).filter fun t => decide (t.2 ≠ 0)).map fun t => t.1.getD i 0)).map V.int))) := same_new hD2
        have tp := same_tup s2 (t p (List.mem_of_getElem? hp))
        rw [e3] at tp
        have dd2 : DD P w K (upd (upd H' l0 (.lst [.int 0])) D2 (.lst (((((us.take j).filter fun t => decide (t.2 ≠ 0)).map fun t => t.1.getD i 0)).map V.int))) f (toKV us) := ((dd.same a.1).same s0).same s2
        have hv : valV (toKV us) u.1 = some (.int u.2) := by rw [valV_toKV, getT_mem nu hum] <;> rfl
        refine ⟨rfl, _, rfl, _, rfl, _, _, _, _, _, rfl, rfl, dd2, tp, hv, rfl, _, rfl, ?_⟩
        have eb : (!decide (V.int u.2 = V.int 0)) = decide (u.2 ≠ 0) := by
          by_cases c : u.2 = 0
          · rw [c] <;> rfl
          · rw [decide_eq_true c, decide_eq_false fun z => c (V.int.inj z)] <;> rfl
        rw [eb]
        have hfl : ((us.take (j + 1)).filter fun t => decide (t.2 ≠ 0)) = ((us.take j).filter fun t => decide (t.2 ≠ 0)) ++ (if u.2 ≠ 0 then [u] else []) := by
          rw [take_snoc hu, List.filter_append]
          congr 1
          by_cases c : u.2 = 0
          · simp [c]
          · simp [c]
        by_cases c : u.2 = 0
        · rw [decide_eq_false (fun z => z c)]
          show _ = _
          rw [hfl, if_neg (fun z => z c), List.append_nil]
        · rw [decide_eq_true c]
          have hil : i < u.1.length := by rw [(hk u hum).1]; omega
          have hat : atI (u.1.map V.int) (0 + ((i : Nat) : Int)) = some (.int (u.1.getD i 0)) := by
            rw [Int.zero_add]
            exact atI_nat (by rw [List.getElem?_map, List.getElem?_eq_getElem hil, List.getD_eq_getElem?_getD, List.getElem?_eq_getElem hil] <;> rfl)
          refine ⟨_, rfl, _, rfl, _, _, _, _, rfl, rfl, tp, hat, ?_⟩
          refine ⟨_, upd_same, ?_, ?_⟩
          · rw [List.length_map, List.length_map]
            refine Nat.lt_of_le_of_lt (List.length_filter_le ..) ?_
            rw [List.length_take]
            exact Nat.lt_of_lt_of_le (show min j us.length < 64 by omega) (by decide)
          · rw [upd_upd, hfl, if_pos c, List.map_append, List.map_append] <;> rfl
      · subst e2
        have s2 : Same (upd H' l0 (.lst [.int 0])) (upd (upd H' l0 (.lst [.int 0])) D2 (.lst (((((us.take xs.length).filter fun t => decide (t.2 ≠ 0)).map fun t => t.1.getD i 0)).map V.int))) := same_new hD2
        refine ⟨l0, D2, _, _, rfl, rfl, s2 _ _ upd_same, upd_same, ?_, fun l3 hl3 => ?_⟩
        · rw [List.length_map, List.length_map]
          have := List.length_filter_le (fun t : Tm => decide (t.2 ≠ 0)) (us.take xs.length)
          rw [List.length_take] at this
          exact Nat.le_trans (show 1 + ((us.take xs.length).filter fun t => decide (t.2 ≠ 0)).length ≤ 65 by omega) (by decide)
        · refine ⟨l3, 0 :: (((us.take xs.length).filter fun t => decide (t.2 ≠ 0)).map fun t => t.1.getD i 0), rfl, ?_, by simp, fun mx hm1 hm2 => ?_⟩
          · rw [List.map_cons]
            exact sqL_at
          · rw [hxl, List.take_length] at hm1 hm2
            have val : ∀ t ∈ us, t.1.getD i 0 = ((gk t.1 i : Nat) : Int) := fun t ht => by
              have hkl : i < t.1.length := by rw [(hk t ht).1]; omega
              have h0 := (hk t ht).2 t.1[i] (List.getElem_mem _)
              unfold gk
              rw [List.getD_eq_getElem?_getD, List.getElem?_eq_getElem hkl]
              show t.1[i] = ((t.1[i].toNat : Nat) : Int)
              omega
            have h1 : mx ≤ ((degN us i : Nat) : Int) := by
              rcases List.mem_cons.mp hm1 with e | hm
              · omega
              · obtain ⟨t, ht, rfl⟩ := List.mem_map.mp hm
                obtain ⟨ht1, ht2⟩ := List.mem_filter.mp ht
                have := degN_le (k := i) ht1 (by simpa using ht2)
                rw [val t ht1]
                omega
            have h2 : ((degN us i : Nat) : Int) ≤ mx := by
              refine hm2 _ ?_
              rcases degN_has us i with e | ⟨t, ht, hz, e⟩
              · rw [e]
                exact List.mem_cons_self
              · refine List.mem_cons_of_mem _ (List.mem_map.mpr ⟨t, List.mem_filter.mpr ⟨ht, by simp [hz]⟩, ?_⟩)
                rw [val t ht, e]
            have e : mx = ((degN us i : Nat) : Int) := by omega
            exact acc_step hD (fun j y Ha Hb _ e => e) a (by omega) (s0.trans (s2.trans (same_new hl3))) (by rw [e])
    · obtain ⟨s, acc, ea, hal, hr⟩ := a
      rw [eN] at hal
      refine q H' D s ?_
      rw [ea]
      congr 2
      apply List.ext_getElem?
      intro j
      rw [List.getElem?_map, List.getElem?_map]
      by_cases c : j < m
      · rw [List.getElem?_range c, List.getElem?_eq_getElem (by omega), hr j _ (List.getElem?_eq_getElem (by omega))] <;> rfl
      · rw [List.getElem?_eq_none (by omega), List.getElem?_eq_none (by simp; omega)] <;> rfl
theorem length_step {F : List (List Int)} {D : Nat} (h : D ≤ 3) : (idxStep F D).length ≤ F.length * 4 := by
  unfold idxStep
  induction F with
  | nil => exact Nat.zero_le _
  | cons p r ih =>
    rw [List.flatMap_cons, List.length_append, List.length_map, List.length_range, List.length_cons]
    omega
theorem length_foldl : ∀ {Ds : List Nat} {F : List (List Int)}, (∀ D ∈ Ds, D ≤ 3) → (Ds.foldl idxStep F).length ≤ F.length * 4 ^ Ds.length
  | [], F, _ => by simp
  | D :: r, F, h => by
    have h1 := length_foldl (Ds := r) (F := idxStep F D) fun D hD => h D (List.mem_cons_of_mem _ hD)
    have h2 := length_step (F := F) (h D List.mem_cons_self)
    show (r.foldl idxStep (idxStep F D)).length ≤ F.length * 4 ^ (r.length + 1)
    have h3 := Nat.mul_le_mul_right (4 ^ r.length) h2
    rw [Nat.pow_succ]
    have h4 : F.length * 4 * 4 ^ r.length = F.length * (4 ^ r.length * 4) := by grind
    omega
theorem lawIdx_snoc {Ds : List Nat} {D : Nat} : lawIdx (Ds ++ [D]) = idxStep (lawIdx Ds) D := by
  unfold lawIdx
  rw [List.foldl_append] <;> rfl
theorem mem_foldl : ∀ {Ds : List Nat} {F : List (List Int)} {x : List Int}, x ∈ Ds.foldl idxStep F ↔ ∃ p ∈ F, ∃ q, inBox Ds q ∧ x = p ++ q
  | [], F, x => by
    constructor
    · intro h
      exact ⟨x, h, [], True.intro, by simp⟩
    · rintro ⟨p, hp, q, hq, rfl⟩
      cases q with
      | nil => simpa using hp
      | cons => exact False.elim hq
  | D :: r, F, x => by
    show x ∈ r.foldl idxStep (idxStep F D) ↔ _
    rw [mem_foldl]
    constructor
    · rintro ⟨p, hp, q, hq, rfl⟩
      obtain ⟨p', hp', h⟩ := List.mem_flatMap.mp hp
      obtain ⟨k, hk, rfl⟩ := List.mem_map.mp h
      have := List.mem_range.mp hk
      exact ⟨p', hp', (k : Int) :: q, ⟨by omega, by omega, hq⟩, by rw [List.append_assoc] <;> rfl⟩
    · rintro ⟨p, hp, q, hq, rfl⟩
      cases q with
      | nil => exact False.elim hq
      | cons y q =>
        obtain ⟨h1, h2, h3⟩ := hq
        refine ⟨p ++ [y], List.mem_flatMap.mpr ⟨p, hp, List.mem_map.mpr ⟨y.toNat, List.mem_range.mpr (by omega), by rw [Int.toNat_of_nonneg h1]⟩⟩, q, h3, by rw [List.append_assoc] <;> rfl⟩
theorem mem_lawIdx {Ds : List Nat} {x : List Int} : x ∈ lawIdx Ds ↔ inBox Ds x := by
  unfold lawIdx
  rw [mem_foldl]
  constructor
  · rintro ⟨p, hp, q, hq, rfl⟩
    have : p = [] := by simpa using hp
    rw [this]
    exact hq
  · intro h
    exact ⟨[], by simp, x, h, rfl⟩
theorem nodup_step {F : List (List Int)} {D : Nat} (h : F.Nodup) : (idxStep F D).Nodup := by
  unfold idxStep
  rw [List.nodup_iff_pairwise_ne, List.pairwise_flatMap]
  refine ⟨fun p _ => ?_, ?_⟩
  · rw [List.pairwise_map]
    refine (List.nodup_iff_pairwise_ne.mp List.nodup_range).imp fun {i j} hne e => hne ?_
    have := (List.append_inj' e rfl).2
    have : (i : Int) = j := by simpa using this
    omega
  · refine (List.nodup_iff_pairwise_ne.mp h).imp fun {p q} hne x hx y hy e => hne ?_
    obtain ⟨i, _, rfl⟩ := List.mem_map.mp hx
    obtain ⟨j, _, rfl⟩ := List.mem_map.mp hy
    exact (List.append_inj' e rfl).1
theorem nodup_foldl : ∀ {Ds : List Nat} {F : List (List Int)}, F.Nodup → (Ds.foldl idxStep F).Nodup
  | [], _, h => h
  | D :: r, F, h => nodup_foldl (Ds := r) (F := idxStep F D) (nodup_step h)
theorem nodup_lawIdx (Ds : List Nat) : (lawIdx Ds).Nodup := nodup_foldl (by simp)
theorem IdxAt.ste {K : PySem.W.Frag} {Ha Hb : Hp} {v : V} {idx : List Int} (s : Ste Ha Hb) (h : IdxAt K Ha v idx) : IdxAt K Hb v idx :=
  let ⟨a, e, t⟩ := h; ⟨a, e, s.tup t⟩
theorem paired_app {α β : Type} {F : α → β → Prop} {xs xs' : List α} {ys ys' : List β} (p : Paired F xs ys) (q : Paired F xs' ys') : Paired F (xs ++ xs') (ys ++ ys') := by
  induction p with
  | nil => exact q
  | cons h _ ih => exact .cons h ih
theorem ok__law_indexes {f : Addr} {fd : FuncData} (F : C8.Def K mg "_law_indexes" s__law_indexes f fd) (b : Binds K fd ["_law_degrees_here"] []) (T : Txt K mg CP CR aN) : C8.Cal P w K mg base 1 "_law_indexes" (spIndexes K) [] := by
  refine C8.cal0 F b .nil sc__law_indexes (fun vs H Q E h => ?_) (fun cdv A outer s H vs Q E hr h => ?_)
  · obtain ⟨l, Ds, rfl, _⟩ := h
    rfl
  · obtain ⟨l, Ds, rfl, hL, h3, hl3, q⟩ := h
    have nd := sc__law_indexes.nd
    refine ⟨_, (pss_cons (ps_set (i := 1) nd rfl (Or.inl rfl) (pe_lst (pa_cons (pe_tup pa_nil) pa_nil)))
    (pss_cons (ps_for PassesOwn.never rfl (pi_list (pv 0)) (pg_name (i := 2) nd rfl (Or.inl rfl))
      (pss_cons (ps_set (i := 3) nd rfl (Or.inl rfl) (pe_lst pa_nil))
        (pss_cons (ps_for PassesOwn.never rfl (pi_list (pv 1)) (pg_name (i := 4) nd rfl (Or.inr rfl))
          (pss_one (ps_expr (pe_bm PySem.F.plainAttrs_list PySem.F.slot_list_extend PySem.F.type_list_extend mt_extend (pv 3) (pa_cons (pe_lc (own := [("_law_k", 5)]) (g := (gName 5)) (tt := tYes) rfl nd (pi_range1 (by rfl) T.range (pa_cons (pe_op op_add (pv 2) pe_int) pa_nil)) (blkOk_by (own := [("_law_k", 5)]) (N := ["_law_degrees_here", "_law_found", "_law_most", "_law_longer", "_law_index", "_law_k"]) (sc := C8.fnScope s__law_indexes) (by decide +kernel)) (fun _ _ _ _ _ => (pg_name (i := 5) nd rfl (Or.inl rfl))) (fun _ _ _ _ _ => pts_nil) (fun _ _ _ _ _ => (pe_op (op_catAK K) (pv 4) (pe_tup (pa_cons (pv 5) pa_nil))))) pa_nil)))))
        (pss_one (ps_set (i := 1) nd rfl (Or.inl rfl) (pv 3))))))
    (pss_one (ps_ret (pv 1))))), ?_⟩
    refine ⟨by show 0 ≤ sizeLine; decide, fun p0 hp0 => ⟨by show 1 ≤ sizeLine; decide, fun l0 hl0 => ?_⟩⟩
    have s0 : Same H (upd (upd H p0 (.tup [])) l0 (.lst [.ref p0])) := (same_new hp0).trans (same_new hl0)
    refine ⟨_, rfl, _, rfl, ⟨_, s0.seq hL⟩, ?_⟩
    have big : ∀ i, (lawIdx (Ds.take i)).length ≤ 64 := fun i => by
      have h1 := length_foldl (Ds := Ds.take i) (F := [[]]) fun D hD => h3 D (List.mem_of_mem_take hD)
      have h2 : (Ds.take i).length ≤ 3 := by
        rw [List.length_take]
        omega
      have h4 : (4 : Nat) ^ (Ds.take i).length ≤ 4 ^ 3 := Nat.pow_le_pow_right (by decide) h2
      unfold lawIdx
      have h5 : ([[]] : List (List Int)).length = 1 := rfl
      rw [h5] at h1
      omega
    refine for_list (K := K) (a := l) (xs := (Ds.map fun (D : Nat) => (D : Int)).map V.int) (fun i σ H' => ∃ r xs x2 x3 x4, σ = [some (.ref l), some (.ref r), x2, x3, x4, none] ∧ Same H H' ∧ H' r = some (.lst xs) ∧ Paired (IdxAt K H') xs (lawIdx (Ds.take i))) ⟨l0, _, _, _, _, rfl, s0, upd_same, .cons ⟨p0, rfl, (same_new hl0) |> fun s => same_tup s sqT_at⟩ .nil⟩
      (fun i σ H' _ ⟨_, _, _, _, _, _, s, _⟩ => s.seq hL) (fun i x σ H' hx m => ?_) (fun σ H' m => ?_)
    · obtain ⟨r, xs, x2, x3, x4, rfl, s1, hr, hP⟩ := m
      rw [List.map_map, List.getElem?_map] at hx
      cases hDi : Ds[i]? with
      | none =>
        rw [hDi] at hx
        cases hx
      | some D =>
        rw [hDi] at hx
        cases hx
        have hD3 := h3 D (List.mem_of_getElem? hDi)
        have hxl := paired_len hP
        have b1 := big i
        refine ⟨by show 0 ≤ sizeLine; decide, fun L hL' => ?_⟩
        have sL : Same H' (upd H' L (.lst [])) := same_new hL'
        refine ⟨_, rfl, _, rfl, ⟨_, SqL.of (sL _ _ hr)⟩, ?_⟩
        refine for_list (K := K) (a := r) (xs := xs) (fun j σ H2 => ∃ x4 ys, σ = [some (.ref l), some (.ref r), some (.int (D : Nat)), some (.ref L), x4, none] ∧ Same H' H2 ∧ H2 L = some (.lst ys) ∧ Paired (IdxAt K H2) ys (idxStep ((lawIdx (Ds.take i)).take j) D)) ⟨_, [], rfl, sL, upd_same, by show Paired _ [] []; exact .nil⟩
          (fun j σ H2 _ ⟨_, _, _, s, _⟩ => SqL.of (s _ _ hr)) (fun j y σ H2 hy m => ?_) (fun σ H2 m => ?_)
        · obtain ⟨x4, ys, rfl, s2, eL, hY⟩ := m
          obtain ⟨idx, hidx, a, rfl, ta⟩ := paired_at hP hy
          have eN : (((D : Nat) : Int) + 1).toNat = D + 1 := by omega
          refine ⟨_, rfl, (.inl ⟨rfl, _, SqL.of eL⟩), _, rfl, _, _, rfl, rfl, _, rfl, (by omega), (by omega), ?_⟩
          intro Dc hDc
          have ta2 := same_tup s2 ta
          refine lc_range (lo := 0) (n := (((D : Nat) : Int) + 1).toNat) (Acc H2 Dc fun k y H => IdxAt K H y (idx ++ [(k : Int)])) (acc_zero hDc) (fun k H3 hk am => ?_) (fun H3 am => ?_)
          · refine ⟨rfl, _, rfl, _, rfl, by show 1 ≤ sizeLine; decide, fun pk hpk => ?_⟩
            have sk : Same H3 (upd H3 pk (.tup [.int (0 + (k : Nat))])) := same_new hpk
            have hilen : idx.length + 1 ≤ 1000 := by
              have h1 := mem_lawIdx.mp (List.mem_of_getElem? hidx)
              have h2 := inBox_len h1
              rw [List.length_take] at h2
              omega
            refine catA_ints (ns := idx) (ms := [0 + ((k : Nat) : Int)]) (same_tup (am.1.trans sk) ta2) sqT_at hilen fun H4 p4 s4 hp4 => ?_
            rw [Int.zero_add] at hp4
            exact acc_step hDc (fun j y Ha Hb s h => h.ste s) am (by omega) (sk.trans s4) ⟨p4, rfl, hp4⟩
          · obtain ⟨s3, acc, ea, hal, hr3⟩ := am
            rw [eN] at hal
            have eL3 := s3 _ _ eL
            have hnew : Paired (IdxAt K H3) acc ((List.range (D + 1)).map fun (k : Nat) => idx ++ [(k : Int)]) := paired_of (by simp [hal]) fun k x y hx hy => by
              rw [List.getElem?_map] at hy
              have hk : k < D + 1 := by
                have := (List.getElem?_eq_some_iff.mp hx).1
                omega
              rw [List.getElem?_range hk] at hy
              cases hy
              exact hr3 k x hx
            have u : Ste H3 (upd H3 L (.lst (ys ++ acc))) := Ste.upd eL3
            have hYl := paired_len hY
            have hsl : ((lawIdx (Ds.take i)).take j).length ≤ 64 := by
              rw [List.length_take]
              omega
            have hsl2 := length_step (F := (lawIdx (Ds.take i)).take j) hD3
            refine ⟨L, Dc, ys, acc, rfl, rfl, eL3, ea, Nat.le_trans (show ys.length + acc.length ≤ 1000 by omega) (by decide), ?_⟩
            refine ⟨_, ys ++ acc, rfl, same_upd (s2.trans s3) hL', upd_same, ?_⟩
            have e : idxStep ((lawIdx (Ds.take i)).take (j + 1)) D = idxStep ((lawIdx (Ds.take i)).take j) D ++ (List.range (D + 1)).map fun (k : Nat) => idx ++ [(k : Int)] := by
              unfold idxStep
              rw [take_snoc hidx, List.flatMap_append]
              simp
            rw [e]
            exact paired_app (paired_mono (fun _ _ z => z.ste ((Ste.of s3).trans u)) hY) (paired_mono (fun _ _ z => z.ste u) hnew)
        · obtain ⟨x4, ys, rfl, s2, eL, hY⟩ := m
          rw [hxl, List.take_length] at hY
          refine ⟨_, rfl, L, ys, _, _, _, rfl, s1.trans s2, eL, ?_⟩
          rw [take_snoc hDi, lawIdx_snoc]
          exact hY
    · obtain ⟨r, xs, x2, x3, x4, rfl, s1, hr, hP⟩ := m
      rw [List.length_map, List.length_map, List.take_length] at hP
      exact ⟨_, rfl, q H' r xs s1 hr hP⟩
end Bx

/-! Bx M6: the law's counts and the program's, plain Lean. -/
namespace Bx
open L2
def bzL (bs : List S4) (Ds : List Nat) : List Bz := List.zipWith (fun z D => ⟨D, z.a * z.d, z.c * z.b, z.b * z.d⟩) bs Ds
def Fp : List Bz → Int
  | [] => 1
  | z :: r => z.B ^ z.D * fac z.D * Fp r
theorem Fp_snoc : ∀ (l : List Bz) (z : Bz), Fp (l ++ [z]) = Fp l * (z.B ^ z.D * fac z.D)
  | [], z => by simp [Fp]
  | y :: r, z => by
    show y.B ^ y.D * fac y.D * Fp (r ++ [z]) = y.B ^ y.D * fac y.D * Fp r * _
    rw [Fp_snoc r z]
    grind
theorem gk_cons {x : Int} {r : List Int} {k : Nat} : gk (x :: r) (k + 1) = gk r k := by simp [gk]
theorem prodL_snoc : ∀ {l : List Bz} {z : Bz} {idx q : List Int}, l.length < idx.length → l.length < q.length → prodL (l ++ [z]) idx q = prodL l idx q * z.m (gk idx l.length) (gk q l.length)
  | [], z, i :: idx, j :: q, _, _ => by
    show z.m i.toNat j.toNat * prodL [] idx q = prodL [] (i :: idx) (j :: q) * z.m i.toNat j.toNat
    have e1 : prodL [] idx q = 1 := rfl
    have e2 : prodL [] (i :: idx) (j :: q) = 1 := rfl
    rw [e1, e2]
    omega
  | y :: r, z, i :: idx, j :: q, h1, h2 => by
    show y.m i.toNat j.toNat * prodL (r ++ [z]) idx q = y.m i.toNat j.toNat * prodL r idx q * z.m (gk (i :: idx) (r.length + 1)) (gk (j :: q) (r.length + 1))
    rw [prodL_snoc (l := r) (by simpa using h1) (by simpa using h2), gk_cons, gk_cons]
    grind
  | [], _, [], _, h, _ => by simp at h
  | [], _, _ :: _, [], _, h => by simp at h
  | _ :: _, _, [], _, h, _ => by simp at h
  | _ :: _, _, _ :: _, [], _, h => by simp at h
/-- one factor -/
theorem part_m {D i j : Nat} (hD : D ≤ 3) (hi : i ≤ D) (hj : j ≤ D) (L H B : Int) : part D i j L H * (B ^ D * fac D) = MM D L H B i j * (B ^ j * ch D j) := by
  have h := part_SS hD hi hj L H
  unfold MM
  have e : B ^ D = B ^ (D - j) * B ^ j := by rw [← Int.pow_add]; congr 1; omega
  have h2 : part D i j L H * (B ^ D * fac D) = B ^ D * (part D i j L H * fac D) := by grind
  rw [h2, h, e]
  grind
theorem sumN_bits {f : Nat → Int} {a : Nat} : ∀ {n : Nat}, n ≤ 4 → (∀ i, i < n → (f i).natAbs < 2 ^ a) → (sumN n f).natAbs < 2 ^ (a + 3) := by
  intro n hn h
  have key : ∀ m, m ≤ n → (sumN m f).natAbs ≤ m * 2 ^ a := by
    intro m
    induction m with
    | zero => exact fun _ => Nat.zero_le _
    | succ m ih =>
      intro hm
      have h1 := ih (by omega)
      have h2 := h m (by omega)
      show (sumN m f + f m).natAbs ≤ (m + 1) * 2 ^ a
      rw [Nat.add_mul]
      omega
  have h1 := key n (Nat.le_refl _)
  have h2 : n * 2 ^ a ≤ 4 * 2 ^ a := Nat.mul_le_mul_right _ hn
  rw [Nat.pow_add]
  have h3 : 0 < 2 ^ a := Nat.pow_pos (by decide)
  omega
theorem part_bits {D i j : Nat} (hD : D ≤ 3) (hi : i ≤ D) (hj : j ≤ D) {L H : Int} (hL : L.natAbs < 2 ^ 450) (hH : H.natAbs < 2 ^ 450) : (part D i j L H).natAbs < 2 ^ 5000 := by
  refine bits_up (a := 4100 + 3) (sumN_bits (by omega) fun t ht => ?_) (by decide)
  have c1 := (ch_small (n := i) (k := t) (by omega) (by omega)).1
  have c2 := (ch_small (n := D - i) (k := j - t) (by omega) (by omega)).1
  have p1 : (H ^ t).natAbs < 2 ^ 2000 := pow_bits hH 2000 (by omega)
  have p2 : (L ^ (j - t)).natAbs < 2 ^ 2000 := pow_bits hL 2000 (by omega)
  exact bits_up (wide_lt (wide_lt (wide_lt c1 c2) p1) p2) (by decide)
theorem by_bits {D j : Nat} (hD : D ≤ 3) (hj : j ≤ D) {B : Int} (hB : B.natAbs ≤ 2 ^ 292) : (B ^ j * ch D j).natAbs ≤ 2 ^ (292 * D + 2) := by
  rw [Int.natAbs_mul, Int.natAbs_pow, Nat.pow_add]
  have h1 : B.natAbs ^ j ≤ (2 ^ 292) ^ j := Nat.pow_le_pow_left hB j
  rw [← Nat.pow_mul] at h1
  have h2 : (2 : Nat) ^ (292 * j) ≤ 2 ^ (292 * D) := Nat.pow_le_pow_right (by decide) (by omega)
  have h3 : (ch D j).natAbs ≤ 2 ^ 2 := by
    rcases le3 hD with rfl | rfl | rfl | rfl <;> rcases le3 (show j ≤ 3 by omega) with rfl | rfl | rfl | rfl <;> decide
  exact Nat.mul_le_mul (Nat.le_trans h1 h2) h3
theorem by_pos {D j : Nat} (hD : D ≤ 3) (hj : j ≤ D) {B : Int} (hB : 0 < B) : 0 < B ^ j * ch D j := Int.mul_pos (Int.pow_pos hB) (ch_nonneg hD hj)
theorem bd_bits {z : S4} (ok : z.Ok) : (z.b * z.d).natAbs ≤ 2 ^ 292 := by
  rw [Int.natAbs_mul]
  have := Nat.mul_le_mul ok.bb ok.bd
  rw [← Nat.pow_add] at this
  exact this
theorem Fp_pos : ∀ {l : List Bz}, (∀ z ∈ l, 0 < z.B) → 0 < Fp l
  | [], _ => by decide
  | z :: r, h => Int.mul_pos (Int.mul_pos (Int.pow_pos (h z List.mem_cons_self)) (fac_pos _)) (Fp_pos fun y hy => h y (List.mem_cons_of_mem _ hy))
theorem bzL_get {bs : List S4} {Ds : List Nat} {k : Nat} {z : S4} (h : bs[k]? = some z) (hk : k < Ds.length) : (bzL bs Ds)[k]? = some ⟨Ds.getD k 0, z.a * z.d, z.c * z.b, z.b * z.d⟩ := by
  unfold bzL
  rw [List.getElem?_zipWith, h, List.getElem?_eq_getElem hk, List.getD_eq_getElem?_getD, List.getElem?_eq_getElem hk] <;> rfl
/-! ### the law's counts are the program's, up to a positive factor -/
def Gp : List S4 → List Nat → Int
  | z :: bs, D :: Ds => z.gi ^ D * Gp bs Ds
  | _, _ => 1
theorem Gp_pos : ∀ {bs : List S4} {Ds : List Nat}, (∀ z ∈ bs, z.Ok) → 0 < Gp bs Ds
  | [], Ds, _ => by cases Ds <;> exact Int.one_pos
  | _ :: _, [], _ => Int.one_pos
  | z :: bs, D :: Ds, h => Int.mul_pos (Int.pow_pos (h z List.mem_cons_self).nums.g) (Gp_pos fun y hy => h y (List.mem_cons_of_mem _ hy))
theorem prod_law : ∀ {bs : List S4} {Ds : List Nat} {idx q idx' q' : List Int}, (∀ z ∈ bs, z.Ok) → bs.length = Ds.length → inBox Ds idx → inBox Ds q → prodL (bzL bs Ds) idx (q ++ q') = Gp bs Ds * prodL (bzOf bs Ds) (idx ++ idx') (q ++ q')
  | [], [], idx, q, idx', q', _, _, _, _ => by
    show prodL [] _ _ = 1 * prodL [] _ _
    have e : ∀ a b, prodL [] a b = 1 := fun a b => rfl
    rw [e, e] <;> rfl
  | z :: bs, D :: Ds, i :: idx, j :: q, idx', q', ok, hl, h1, h2 => by
    obtain ⟨a1, a2, a3⟩ := h1
    obtain ⟨b1, b2, b3⟩ := h2
    have nu := (ok z List.mem_cons_self).nums
    show MM D (z.a * z.d) (z.c * z.b) (z.b * z.d) i.toNat j.toNat * prodL (bzL bs Ds) idx (q ++ q') = z.gi ^ D * Gp bs Ds * (MM D z.bg (z.bg + z.st) z.bt i.toNat j.toNat * prodL (bzOf bs Ds) (idx ++ idx') (q ++ q'))
    rw [prod_law (idx' := idx') (fun y hy => ok y (List.mem_cons_of_mem _ hy)) (by simpa using hl) a3 b3, ← nu.bt, ← nu.bg, ← nu.hi, MM_hom (by omega)]
    grind
  | [], _ :: _, _, _, _, _, _, hl, _, _ => by simp at hl
  | _ :: _, [], _, _, _, _, _, hl, _, _ => by simp at hl
  | _ :: _, _ :: _, [], _, _, _, _, _, h, _ => False.elim h
  | _ :: _, _ :: _, _ :: _, [], _, _, _, _, _, h => False.elim h
theorem inBox_app : ∀ {As Bs : List Nat} {x : List Int}, inBox (As ++ Bs) x ↔ ∃ p q, x = p ++ q ∧ inBox As p ∧ inBox Bs q
  | [], Bs, x => by
    constructor
    · intro h
      exact ⟨[], x, rfl, True.intro, h⟩
    · rintro ⟨p, q, rfl, hp, hq⟩
      cases p with
      | nil => exact hq
      | cons => exact False.elim hp
  | A :: As, Bs, x => by
    constructor
    · intro h
      cases x with
      | nil => exact False.elim h
      | cons y x =>
        obtain ⟨h1, h2, h3⟩ := h
        obtain ⟨p, q, rfl, hp, hq⟩ := inBox_app.mp h3
        exact ⟨y :: p, q, rfl, ⟨h1, h2, hp⟩, hq⟩
    · rintro ⟨p, q, rfl, hp, hq⟩
      cases p with
      | nil => exact False.elim hp
      | cons y p =>
        obtain ⟨h1, h2, h3⟩ := hp
        exact ⟨h1, h2, inBox_app.mpr ⟨p, q, rfl, h3, hq⟩⟩
theorem inBox_rep : ∀ n, inBox (List.replicate n 0) (List.replicate n (0 : Int))
  | 0 => True.intro
  | n + 1 => ⟨Int.le_refl _, Int.le_refl _, inBox_rep n⟩
/-- sign_over's answer, by the law's counts -/
theorem sign_link {bs : List S4} {Ds : List Nat} {n : Nat} {ts : List Tm} (ok : ∀ z ∈ bs, z.Ok) (hl : bs.length = Ds.length) (hb : ∀ t ∈ ts, inBox (Ds ++ List.replicate n 0) t.1) :
    sgnAll (idxs (Ds ++ List.replicate n 0)) (fun q => lin ts (opsFrom 0 (bzOf bs (Ds ++ List.replicate n 0)) (ind q))) = sgnAll (lawIdx Ds) (fun idx => lin ts (prodL (bzL bs Ds) idx)) := by
  have hbz : bzOf bs (Ds ++ List.replicate n 0) = bzOf bs Ds := by
    unfold bzOf
    have : ∀ (a : List S4) (b c : List Nat), a.length = b.length → List.zipWith (fun z D => (⟨D, z.bg, z.bg + z.st, z.bt⟩ : Bz)) a (b ++ c) = List.zipWith (fun z D => (⟨D, z.bg, z.bg + z.st, z.bt⟩ : Bz)) a b := by
      intro a
      induction a with
      | nil => intro b c _; cases b <;> simp
      | cons x r ih =>
        intro b c h
        cases b with
        | nil => simp at h
        | cons y s =>
          show _ :: List.zipWith _ r (s ++ c) = _ :: List.zipWith _ r s
          rw [ih s c (by simpa using h)]
    exact this bs Ds _ hl
  have hD : (bzOf bs Ds).map (·.D) = Ds := by
    unfold bzOf
    have : ∀ (a : List S4) (b : List Nat), a.length = b.length → (List.zipWith (fun z D => (⟨D, z.bg, z.bg + z.st, z.bt⟩ : Bz)) a b).map (·.D) = b := by
      intro a
      induction a with
      | nil => intro b h; cases b with
        | nil => rfl
        | cons => simp at h
      | cons x r ih =>
        intro b h
        cases b with
        | nil => simp at h
        | cons y s =>
          show y :: (List.zipWith _ r s).map _ = y :: s
          rw [ih s (by simpa using h)]
    exact this bs Ds hl
  rw [sgnAll_mem (m := (lawIdx Ds).map fun idx => idx ++ List.replicate n (0 : Int)) (fun x => by
    rw [mem_idxs, inBox_app, List.mem_map]
    constructor
    · rintro ⟨p, q, rfl, hp, hq⟩
      exact ⟨p, mem_lawIdx.mpr hp, by rw [inBox_zero hq (inBox_rep n)]⟩
    · rintro ⟨p, hp, rfl⟩
      exact ⟨p, _, rfl, mem_lawIdx.mp hp, inBox_rep n⟩), sgnAll_map]
  refine sgnAll_congr fun idx hidx => ⟨Gp bs Ds, 1, Gp_pos ok, by decide, ?_⟩
  have hi := mem_lawIdx.mp hidx
  show Gp bs Ds * lin ts (opsFrom 0 (bzOf bs (Ds ++ List.replicate n 0)) (ind (idx ++ List.replicate n 0))) = 1 * lin ts (prodL (bzL bs Ds) idx)
  rw [hbz, Int.one_mul, ← lin_smul]
  refine lin_congr fun t ht => ?_
  have hbt := hb t ht
  have e := opsFrom_ind (bs := bzOf bs Ds) (n := n) (k := 0) (pre := []) (pre' := []) (idx := idx ++ List.replicate n 0) (q := t.1) rfl rfl (by rw [hD]; exact inBox_app.mpr ⟨idx, _, rfl, hi, inBox_rep n⟩) (by rw [hD]; exact hbt)
  rw [if_pos rfl] at e
  have e' : opsFrom 0 (bzOf bs Ds) (ind (idx ++ List.replicate n 0)) t.1 = prodL (bzOf bs Ds) (idx ++ List.replicate n 0) t.1 := e
  rw [e']
  obtain ⟨p, q, ep, hp, hq⟩ := inBox_app.mp hbt
  rw [ep, prod_law (idx' := List.replicate n 0) ok hl hi hp]
end Bx

/-! Bx L5: the law's counts and their sign. -/
namespace Bx
open PySem PySem.Spec PyProof.Rows L2
abbrev nz (us : List Tm) : List Tm := us.filter fun t => decide (t.2 ≠ 0)
def degs (us : List Tm) (m : Nat) : List Nat := (List.range m).map (degN us)
structure PartsOk (us : List Tm) (m : Nat) : Prop where
  nd : (us.map (·.1)).Nodup
  l5 : us.length ≤ 5
  l4 : ∀ u ∈ us, u.1.length = 4 ∧ ∀ x ∈ u.1, 0 ≤ x
  cb : ∀ u ∈ us, u.2.natAbs < 2 ^ 100
  d3 : ∀ D ∈ degs us m, D ≤ 3
  s6 : (degs us m).sum ≤ 6
def ValsOk (K : PySem.W.Frag) (H : Hp) (us : List Tm) (bz : List Bz) (kvs : List (List Int × V)) : Prop := ∀ kv ∈ kvs, ∃ r t u a b, kv.2 = .ref r ∧ SqT K H r [.int t, .int u] ∧ 0 < a ∧ 0 < b ∧ a * t = b * lin (nz us) (prodL bz kv.1)
def spCounts (P : Program) (w : World) (K : PySem.W.Frag) : Sp := fun vs H Q _ => ∃ (f a : Addr) (us : List Tm) (bs : List S4), vs = [.ref f, .ref a] ∧ DD P w K H f (toKV us) ∧ BoxAt K H a bs ∧ (∀ z ∈ bs, z.Ok) ∧ bs.length ≤ 3 ∧ PartsOk us bs.length ∧
  ∀ H' F kvs, Same H H' → DD P w K H' F kvs → kvs.map (·.1) = lawIdx (degs us bs.length) → ValsOk K H' us (bzL bs (degs us bs.length)) kvs → Q (.ref F) H'
def lawSign (us : List Tm) (bs : List S4) : Int := sgnAll (lawIdx (degs us bs.length)) fun idx => lin (nz us) (prodL (bzL bs (degs us bs.length)) idx)
def spLawSign (P : Program) (w : World) (K : PySem.W.Frag) : Sp := fun vs H Q _ => ∃ (f a : Addr) (us : List Tm) (bs : List S4), vs = [.ref f, .ref a] ∧ DD P w K H f (toKV us) ∧ BoxAt K H a bs ∧ (∀ z ∈ bs, z.Ok) ∧ bs.length ≤ 3 ∧ PartsOk us bs.length ∧ ∀ H', Same H H' → Q (.int (lawSign us bs)) H'
--SP _law_degrees := spDegrees P w K
--SP _law_indexes := spIndexes K
--SP _law_polar := spPolar K
--SP _law_low := spLow K
--SP _law_counts := spCounts P w K
--SP _law_sign := spLawSign P w K
def KeyAt (K : PySem.W.Frag) (H : Hp) (v : V) (t : Tm) : Prop := ∃ a, v = .ref a ∧ SqT K H a (t.1.map V.int)
theorem KeyAt.ste {K : PySem.W.Frag} {Ha Hb : Hp} {v : V} {t : Tm} (s : Ste Ha Hb) (h : KeyAt K Ha v t) : KeyAt K Hb v t := let ⟨a, e, x⟩ := h; ⟨a, e, s.tup x⟩
theorem sum_take {l : List Nat} {k : Nat} (hk : k < l.length) : (l.take (k + 1)).sum = (l.take k).sum + l.getD k 0 := by
  rw [take_snoc (x := l.getD k 0) (by rw [List.getD_eq_getElem?_getD, List.getElem?_eq_getElem hk] <;> rfl), List.sum_append]
  simp
theorem sum_take_le (l : List Nat) (k : Nat) : (l.take k).sum ≤ l.sum := by
  have := congrArg List.sum (List.take_append_drop k l)
  rw [List.sum_append] at this
  omega
theorem degs_len (us : List Tm) (m : Nat) : (degs us m).length = m := by simp [degs]
theorem degs_get {us : List Tm} {m k : Nat} (h : k < m) : (degs us m).getD k 0 = degN us k := by
  unfold degs
  rw [List.getD_eq_getElem?_getD, List.getElem?_map, List.getElem?_range h] <;> rfl
variable {P : Program} {w : World} {K : PySem.W.Frag} {mg : Str → Option Value} {base : Heap} {CP CR aN : Addr}
theorem ok__law_counts {f : Addr} {fd : FuncData} (F : C8.Def K mg "_law_counts" s__law_counts f fd) (b : Binds K fd ["_law_parts_here", "_law_box_here"] []) (T : Txt K mg CP CR aN) (c__law_degrees : C8.Cal P w K mg base 1 "_law_degrees" (spDegrees P w K) []) (c__law_indexes : C8.Cal P w K mg base 1 "_law_indexes" (spIndexes K) []) (c__law_low : C8.Cal P w K mg base 1 "_law_low" (spLow K) []) (c__law_polar : C8.Cal P w K mg base 2 "_law_polar" (spPolar K) []) : C8.Cal P w K mg base 3 "_law_counts" (spCounts P w K) [] := by
  refine C8.cal0 F b .nil sc__law_counts (fun vs H Q E h => ?_) (fun cdv A outer s H vs Q E hr h => ?_)
  · obtain ⟨f, a, us, bs, rfl, _⟩ := h
    rfl
  · obtain ⟨f, a, us, bs, rfl, dd, hB, hok, hb3, pk, q⟩ := h
    obtain ⟨vs, hT, hBs⟩ := id hB
    have nd := sc__law_counts.nd
    refine ⟨_, (pss_cons (ps_par (i := 2) (j := 3) rfl nd rfl rfl (by decide) rfl rfl (pa_cons (C8.pe_c c__law_degrees hr (by decide) (by rfl) (pa_cons (pv 0) (pa_cons (pe_callB (call_len_seqK K) (by rfl) T.len PySem.boot_len (pa_cons (pv 1) pa_nil)) pa_nil))) (pa_cons (pe_ddnewK P w K) pa_nil)) (by rfl))
    (pss_cons (ps_for PassesOwn.never rfl (pi_list (C8.pe_c c__law_indexes hr (by decide) (by rfl) (pa_cons (pv 2) pa_nil))) (pg_name (i := 4) nd rfl (Or.inl rfl))
      (pss_cons (ps_asg (pe_tup (pa_cons pe_int (pa_cons pe_int pa_nil))) (pg_tup rfl (pgs_cons (pg_name (i := 5) nd rfl (Or.inl rfl)) (pgs_cons (pg_name (i := 6) nd rfl (Or.inl rfl)) pgs_nil))))
        (pss_cons (ps_for PassesOwn.never rfl (pi_list (pe_lc (own := [("_law_powers", 7)]) (g := (gName 7)) rfl nd (pi_ddK P w (pv 0)) (blkOk_by (own := [("_law_powers", 7)]) (N := ["_law_parts_here", "_law_box_here", "_law_degrees_here", "_law_found", "_law_index", "_law_top", "_law_bottom", "_law_powers", "_law_here", "_law_under", "_law_k", "_law_part", "_law_by"]) (sc := C8.fnScope s__law_counts) (by decide +kernel)) (fun _ _ _ _ _ => (pg_name (i := 7) nd rfl (Or.inl rfl))) (fun _ _ _ _ _ => (pts_one (pt_cmpR op_ne (pe_ddgetK P w K (hu_of hr) (pv 0) (pv 7) (fun _ _ => rfl)) pe_int (nomark _)))) (fun _ _ _ _ _ => (pv 7)))) (pg_name (i := 7) nd rfl (Or.inl rfl))
          (pss_cons (ps_par (i := 8) (j := 9) rfl nd rfl rfl (by decide) rfl rfl (pa_cons (pe_ddgetK P w K (hu_of hr) (pv 0) (pv 7) (fun _ _ => rfl)) (pa_cons pe_int pa_nil)) (by rfl))
            (pss_cons (ps_for PassesOwn.never rfl (pi_range1 (by rfl) T.range (pa_cons (pe_callB (call_len_seqK K) (by rfl) T.len PySem.boot_len (pa_cons (pv 1) pa_nil)) pa_nil)) (pg_name (i := 10) nd rfl (Or.inl rfl))
              (pss_cons (ps_asg (C8.pe_c c__law_polar hr (by decide) (by rfl) (pa_cons (pe_ix (ix_tupK K) (pv 1) (pv 10) (fun _ _ => rfl)) (pa_cons (pe_ix (ix_listK K) (pv 2) (pv 10) (fun _ _ => rfl)) (pa_cons (pe_ix (ix_tupK K) (pv 4) (pv 10) (fun _ _ => rfl)) (pa_cons (pe_ix (ix_tupK K) (pv 7) (pv 10) (fun _ _ => rfl)) pa_nil))))) (pg_tup rfl (pgs_cons (pg_name (i := 11) nd rfl (Or.inl rfl)) (pgs_cons (pg_name (i := 12) nd rfl (Or.inl rfl)) pgs_nil))))
                (pss_one (ps_par (i := 8) (j := 9) rfl nd rfl rfl (by decide) rfl rfl (pa_cons (pe_op op_mulW (pv 8) (pv 11)) (pa_cons (pe_op op_mulW (pv 9) (pv 12)) pa_nil)) (by rfl)))))
            (pss_one (ps_par (i := 5) (j := 6) rfl nd rfl rfl (by decide) rfl rfl (pa_cons (pe_op op_add (pe_op op_mulW (pv 5) (pv 9)) (pe_op op_mulW (pv 8) (pv 6))) (pa_cons (pe_op op_mulW (pv 6) (pv 9)) pa_nil)) (by rfl))))))
        (pss_one (ps_ddsetK P w K (hu_of hr) (pv 3) (pv 4) (C8.pe_c c__law_low hr (by decide) (by rfl) (pa_cons (pv 5) (pa_cons (pv 6) pa_nil))) rfl)))))
    (pss_one (ps_ret (pv 3))))), ?_⟩
    have hvl := paired_len hBs
    have hul := pk.l5
    generalize hm : bs.length = m at *
    generalize hDs : degs us m = Ds at *
    have hDl : Ds.length = m := by rw [← hDs, degs_len]
    generalize hbz : bzL bs Ds = bz at *
    have hbzl : bz.length = m := by
      rw [← hbz]
      unfold bzL
      rw [List.length_zipWith]
      omega
    have hd3 := pk.d3
    have hs6 := pk.s6
    rw [hDs] at hd3 hs6
    -- degrees, found
    refine ⟨_, rfl, _, rfl, _, _, rfl, .inr hT, f, m, us, by rw [hvl]; rfl, dd, pk.nd, pk.l4, by omega, by omega, fun H1 ld s1 hld => ?_⟩
    intro F hF o D0
    refine ⟨_, _, rfl, ?_⟩
    have hld' : H1 ld = some (.lst ((Ds.map fun (D : Nat) => (D : Int)).map V.int)) := by
      rw [hld, ← hDs]
      unfold degs
      simp only [List.map_map]
      rfl
    have sF : Same H1 (upd H1 F o) := same_new hF
    -- indexes
    refine ⟨_, rfl, ld, Ds, rfl, SqL.of (sF _ _ hld'), hd3, by omega, fun H3 r xs s3 hr hX => ?_⟩
    refine ⟨_, rfl, ⟨_, SqL.of hr⟩, ?_⟩
    have s13 := sF.trans s3
    have hxl := paired_len hX
    have lb : (lawIdx Ds).length ≤ 64 := by
      have h1 := length_foldl (Ds := Ds) (F := [[]]) hd3
      have h4 : (4 : Nat) ^ Ds.length ≤ 4 ^ 3 := Nat.pow_le_pow_right (by decide) (by omega)
      unfold lawIdx
      have h5 : ([[]] : List (List Int)).length = 1 := rfl
      rw [h5] at h1
      omega
    refine for_list (K := K) (a := r) (xs := xs) (fun i σ H' => ∃ kvs x4 x5 x6 x7 x8 x9 x10 x11 x12, σ = [some (.ref f), some (.ref a), some (.ref ld), some (.ref F), x4, x5, x6, x7, x8, x9, x10, x11, x12] ∧ Same H1 H' ∧ H' r = some (.lst xs) ∧ Paired (IdxAt K H') xs (lawIdx Ds) ∧
      DD P w K H' F kvs ∧ kvs.map (·.1) = (lawIdx Ds).take i ∧ ValsOk K H' us bz kvs) ⟨[], _, _, _, _, _, _, _, _, _, rfl, s13, hr, hX, D0.same s3, rfl, (fun kv hkv => nomatch hkv)⟩ (fun i σ H' _ ⟨_, _, _, _, _, _, _, _, _, _, _, _, e, _⟩ => SqL.of e) (fun i x σ H' hx mm => ?_) (fun σ H' mm => ?_)
    · obtain ⟨kvs, x4, x5, x6, x7, x8, x9, x10, x11, x12, rfl, s1', hr', hX', ddF, hkeys, hvals⟩ := mm
      obtain ⟨idx, hidx, ia, rfl, ti⟩ := paired_at hX' hx
      have hbox := mem_lawIdx.mp (List.mem_of_getElem? hidx)
      have hil : idx.length = m := by rw [inBox_len hbox, hDl]
      have sH : Same H H' := s1.trans s1'
      refine ⟨by show 2 ≤ sizeLine; decide, fun pt hpt => ⟨_, _, rfl, sqT_at, rfl, _, _, rfl, _, _, rfl, rfl, ?_⟩⟩
      have sp : Same H' (upd H' pt (.tup [.int 0, .int 1])) := same_new hpt
      -- the powers whose counts are not 0
      obtain ⟨es, eo, e, ek, et⟩ := (dd.same sH).same sp
      have at_us : ∀ (j : Nat) p, es[j]? = some p → ∃ u, us[j]? = some u ∧ p.1 = u.1 := fun j p hp => by
        have h1 : (kvOf es)[j]? = (toKV us)[j]? := by rw [ek]
        unfold kvOf toKV at h1
        rw [List.getElem?_map, List.getElem?_map, hp] at h1
        cases hu : us[j]? with
        | none =>
          rw [hu] at h1
          cases h1
        | some u =>
          rw [hu] at h1
          exact ⟨u, rfl, congrArg (·.1) (Option.some.inj h1)⟩
      have hel : es.length = us.length := by
        have := congrArg List.length ek
        unfold kvOf toKV at this
        rwa [List.length_map, List.length_map] at this
      refine ⟨_, rfl, _, es, eo, rfl, e, fun D2 hD2 => ?_⟩
      refine lc_dd (P := P) (w := w) (d := f) (xs := es) (o := eo) (fun j H2 => Same (upd H' pt (.tup [.int 0, .int 1])) H2 ∧ ∃ acc, H2 D2 = some (.lst acc) ∧ Paired (KeyAt K H2) acc (nz (us.take j))) ⟨same_new hD2, [], upd_same, .nil⟩ (fun j H2 _ m2 => m2.1 _ _ e) (fun j p H2 hp m2 => ?_) (fun H2 m2 => ?_)
      · obtain ⟨s2, acc, ea, hA⟩ := m2
        obtain ⟨u, hu, e3⟩ := at_us j p hp
        have hum := List.mem_of_getElem? hu
        have tp := same_tup s2 (et p (List.mem_of_getElem? hp))
        rw [e3] at tp
        have dd2 := ((dd.same sH).same sp).same s2
        have hv : valV (toKV us) u.1 = some (.int u.2) := by rw [valV_toKV, getT_mem pk.nd hum] <;> rfl
        refine ⟨rfl, _, rfl, _, rfl, _, _, _, _, _, rfl, rfl, dd2, tp, hv, rfl, _, rfl, ?_⟩
        have eb : (!decide (V.int u.2 = V.int 0)) = decide (u.2 ≠ 0) := by
          by_cases c : u.2 = 0
          · rw [c] <;> rfl
          · rw [decide_eq_true c, decide_eq_false fun z => c (V.int.inj z)] <;> rfl
        rw [eb]
        have hfl : nz (us.take (j + 1)) = nz (us.take j) ++ (if u.2 ≠ 0 then [u] else []) := by
          unfold nz
          rw [take_snoc hu, List.filter_append]
          congr 1
          by_cases c : u.2 = 0
          · simp [c]
          · simp [c]
        by_cases c : u.2 = 0
        · rw [decide_eq_false (fun z => z c)]
          refine ⟨s2, acc, ea, ?_⟩
          rw [hfl, if_neg (fun z => z c), List.append_nil]
          exact hA
        · rw [decide_eq_true c]
          have hal := paired_len hA
          have hz : (nz (us.take j)).length ≤ 5 := by
            refine Nat.le_trans (List.length_filter_le ..) ?_
            rw [List.length_take]
            omega
          have st : Ste H2 (upd H2 D2 (.lst (acc ++ [.ref p.2.1]))) := Ste.upd ea
          refine ⟨_, rfl, acc, ea, Nat.lt_of_le_of_lt (show acc.length ≤ 5 by omega) (by decide), same_upd s2 hD2, _, upd_same, ?_⟩
          rw [hfl, if_pos c]
          exact Paired.snoc (paired_mono (fun _ _ x => x.ste st) hA) ⟨p.2.1, rfl, st.tup tp⟩
      · obtain ⟨s2, acc, ea, hA⟩ := m2
        rw [hel, List.take_length] at hA
        have hal := paired_len hA
        have hN5 : (nz us).length ≤ 5 := Nat.le_trans (List.length_filter_le ..) hul
        have s02 : Same H' H2 := sp.trans s2
        refine ⟨_, rfl, ⟨_, SqL.of ea⟩, ?_⟩
        refine for_list (K := K) (a := D2) (xs := acc) (fun j σ H4 => ∃ tp bt x7 x8 x9 x10 x11 x12, σ = [some (.ref f), some (.ref a), some (.ref ld), some (.ref F), some (.ref ia), some (.int tp), some (.int bt), x7, x8, x9, x10, x11, x12] ∧ Same H2 H4 ∧
          tp * Fp bz = bt * lin ((nz us).take j) (prodL bz idx) ∧ 0 < bt ∧ bt.natAbs ≤ 2 ^ (1758 * j) ∧ tp.natAbs < 2 ^ (20000 + 2000 * j)) ⟨0, 1, _, _, _, _, _, _, rfl, Same.refl _, by simp [lin], by decide, by decide, Nat.pow_pos (by decide)⟩ (fun j σ H4 _ ⟨_, _, _, _, _, _, _, _, _, s, _⟩ => (SqL.of (s _ _ ea))) (fun j y σ H4 hy m4 => ?_) (fun σ H4 m4 => ?_)
        · obtain ⟨tp, bt, x7, x8, x9, x10, x11, x12, rfl, s4, eqn, b0, bb, tb⟩ := m4
          obtain ⟨t, ht, pa, rfl, tq⟩ := paired_at hA hy
          have hj5 : j < 5 := by
            have := (List.getElem?_eq_some_iff.mp ht).1
            omega
          have htn := List.mem_filter.mp (List.mem_of_getElem? ht)
          have htm := htn.1
          have htz : t.2 ≠ 0 := by simpa using htn.2
          have s04 := s02.trans s4
          have sH4 := sH.trans s04
          have tq4 := same_tup s4 tq
          have hv : valV (toKV us) t.1 = some (.int t.2) := by rw [valV_toKV, getT_mem pk.nd htm] <;> rfl
          have l4 := pk.l4 t htm
          refine ⟨_, rfl, _, rfl, _, _, _, _, _, rfl, rfl, (dd.same sH4), tq4, hv, _, _, rfl, ?_⟩
          refine ⟨_, rfl, _, _, rfl, .inr (same_tup sH4 hT), _, rfl, (by omega), (by omega), ?_⟩
          have eN : (((vs.length : Nat) : Int)).toNat = m := by omega
          refine for_range (lo := 0) (n := (((vs.length : Nat) : Int)).toNat) (fun k σ H5 => ∃ he un x10 x11 x12, σ = [some (.ref f), some (.ref a), some (.ref ld), some (.ref F), some (.ref ia), some (.int tp), some (.int bt), some (.ref pa), some (.int he), some (.int un), x10, x11, x12] ∧ Same H4 H5 ∧
            he * Fp (bz.take k) = t.2 * prodL (bz.take k) idx t.1 * un ∧ 0 < un ∧ un.natAbs ≤ 2 ^ (292 * (Ds.take k).sum + 2 * k) ∧ he.natAbs < 2 ^ (100 + 5000 * k)) ⟨t.2, 1, _, _, _, rfl, Same.refl _, by show t.2 * 1 = t.2 * 1 * 1; omega, by decide, by show 1 ≤ 2 ^ 0; decide, pk.cb t htm⟩ (fun k σ H5 hk m5 => ?_) (fun σ H5 m5 => ?_)
          · obtain ⟨he, un, x10, x11, x12, rfl, s5, eq5, u0, ub, hb⟩ := m5
            have hkm : k < m := by omega
            have s05 := s04.trans s5
            have sH5 := sH.trans s05
            have hvk : vs[k]? = some vs[k] := List.getElem?_eq_getElem (by omega)
            obtain ⟨z, hz, hst⟩ := paired_at hBs hvk
            have ok := hok z (List.mem_of_getElem? hz)
            have hD3 := getD_le hd3 k
            have gi := inBox_gk hbox (show k < Ds.length by omega)
            have gq : gk t.1 k ≤ Ds.getD k 0 := by
              rw [← hDs, degs_get hkm]
              exact degN_le htm htz
            have i0 : ∀ x ∈ idx, 0 ≤ x := fun x hx => (inBox_all hd3 hbox x hx).1
            have at1 : atI vs (0 + ((k : Nat) : Int)) = some vs[k] := by rw [Int.zero_add]; exact atI_nat hvk
            have at2 : atI ((Ds.map fun (D : Nat) => (D : Int)).map V.int) (0 + ((k : Nat) : Int)) = some (.int ((Ds.getD k 0 : Nat) : Int)) := by
              rw [Int.zero_add]
              refine atI_nat ?_
              rw [List.map_map, List.getElem?_map, List.getElem?_eq_getElem (show k < Ds.length by omega), List.getD_eq_getElem?_getD, List.getElem?_eq_getElem (show k < Ds.length by omega)] <;> rfl
            have at3 : atI (idx.map V.int) (0 + ((k : Nat) : Int)) = some (.int ((gk idx k : Nat) : Int)) := by rw [Int.zero_add]; exact nat_at (by omega) i0
            have at4 : atI (t.1.map V.int) (0 + ((k : Nat) : Int)) = some (.int ((gk t.1 k : Nat) : Int)) := by rw [Int.zero_add]; exact nat_at (by rw [l4.1]; omega) l4.2
            have hld5 : SqL K H5 ld ((Ds.map fun (D : Nat) => (D : Int)).map V.int) := SqL.of ((s1'.trans s05) _ _ hld')
            refine ⟨_, rfl, _, rfl, _, _, _, _, rfl, rfl, (same_tup sH5 hT), at1, _, rfl, _, rfl, _, _, _, _, rfl, rfl, hld5, at2, _, rfl, _, rfl, _, _, _, _, rfl, rfl, (same_tup s05 ti), at3, _, rfl, _, rfl, _, _, _, _, rfl, rfl, (same_tup s5 tq4), at4, ?_⟩
            refine ⟨_, Ds.getD k 0, gk idx k, gk t.1 k, z, rfl, hD3, gi.1, gq, hst.same sH5, ok, fun H6 pp s6 hpp => ?_⟩
            refine ⟨_, _, rfl, hpp, rfl, _, _, rfl, _, _, rfl, rfl, ?_⟩
            have b450 : ∀ {x y : Int}, x.natAbs < 2 ^ 300 → y.natAbs ≤ 2 ^ 146 → (x * y).natAbs < 2 ^ 450 := fun h1 h2 => bits_up (wide_lt h1 (bits_le h2 (show 146 < 150 by decide))) (by decide)
            have pb : (part (Ds.getD k 0) (gk idx k) (gk t.1 k) (z.a * z.d) (z.c * z.b)).natAbs < 2 ^ 5000 := part_bits hD3 gi.1 gq (b450 ok.ba ok.bd) (b450 ok.bc ok.bb)
            have yb : ((z.b * z.d) ^ gk t.1 k * ch (Ds.getD k 0) (gk t.1 k)).natAbs ≤ 2 ^ (292 * Ds.getD k 0 + 2) := by_bits hD3 gq (bd_bits ok)
            have y0 : 0 < (z.b * z.d) ^ gk t.1 k * ch (Ds.getD k 0) (gk t.1 k) := by_pos hD3 gq (Int.mul_pos ok.hb ok.hd)
            have hub : un.natAbs < 2 ^ 2000 := bits_le ub (by
              have := sum_take_le Ds k
              omega)
            have hyb : ((z.b * z.d) ^ gk t.1 k * ch (Ds.getD k 0) (gk t.1 k)).natAbs < 2 ^ 2000 := bits_le yb (by omega)
            have hhb : he.natAbs < 2 ^ 20000 := bits_up hb (by omega)
            refine ⟨_, rfl, _, rfl, _, _, rfl, rfl, wide_mul hhb pb (by decide) (by decide) (by decide), _, rfl, _, rfl, _, _, rfl, rfl, wide_mul hub hyb (by decide) (by decide) (by decide), _, _, rfl, ?_⟩
            have hbk : bz[k]? = some ⟨Ds.getD k 0, z.a * z.d, z.c * z.b, z.b * z.d⟩ := by
              rw [← hbz]
              exact bzL_get hz (by omega)
            have htl : (bz.take k).length = k := by
              rw [List.length_take]
              omega
            refine ⟨_, _, _, _, _, rfl, s5.trans s6, ?_, Int.mul_pos u0 y0, ?_, ?_⟩
            · rw [take_snoc hbk, Fp_snoc, prodL_snoc (by rw [htl]; omega) (by rw [htl, l4.1]; omega), htl]
              have pm := part_m hD3 gi.1 gq (z.a * z.d) (z.c * z.b) (z.b * z.d)
              show he * part (Ds.getD k 0) (gk idx k) (gk t.1 k) (z.a * z.d) (z.c * z.b) * (Fp (bz.take k) * ((z.b * z.d) ^ Ds.getD k 0 * fac (Ds.getD k 0))) = t.2 * (prodL (bz.take k) idx t.1 * MM (Ds.getD k 0) (z.a * z.d) (z.c * z.b) (z.b * z.d) (gk idx k) (gk t.1 k)) * (un * ((z.b * z.d) ^ gk t.1 k * ch (Ds.getD k 0) (gk t.1 k)))
              generalize part (Ds.getD k 0) (gk idx k) (gk t.1 k) (z.a * z.d) (z.c * z.b) = A1 at pm ⊢
              generalize (z.b * z.d) ^ Ds.getD k 0 * fac (Ds.getD k 0) = A2 at pm ⊢
              generalize MM (Ds.getD k 0) (z.a * z.d) (z.c * z.b) (z.b * z.d) (gk idx k) (gk t.1 k) = A3 at pm ⊢
              generalize (z.b * z.d) ^ gk t.1 k * ch (Ds.getD k 0) (gk t.1 k) = A4 at pm ⊢
              generalize Fp (bz.take k) = A5 at eq5 ⊢
              generalize prodL (bz.take k) idx t.1 = A6 at eq5 ⊢
              have h1 : he * A1 * (A5 * A2) = (he * A5) * (A1 * A2) := by grind
              rw [h1, eq5, pm]
              grind
            · rw [Int.natAbs_mul, sum_take (by omega), show 292 * ((Ds.take k).sum + Ds.getD k 0) + 2 * (k + 1) = (292 * (Ds.take k).sum + 2 * k) + (292 * Ds.getD k 0 + 2) by omega, Nat.pow_add]
              exact Nat.mul_le_mul ub yb
            · exact bits_up (wide_lt hb pb) (by omega)
          · obtain ⟨he, un, x10, x11, x12, rfl, s5, eq5, u0, ub, hb⟩ := m5
            rw [eN] at eq5 ub hb
            have htk : bz.take m = bz := List.take_of_length_le (by omega)
            have hdk : Ds.take m = Ds := List.take_of_length_le (by omega)
            rw [htk] at eq5
            rw [hdk] at ub
            have ub2 : un.natAbs ≤ 2 ^ 1758 := Nat.le_trans ub (Nat.pow_le_pow_right (by decide) (by omega))
            have hub : un.natAbs < 2 ^ 1759 := bits_le ub2 (by decide)
            have hbb : bt.natAbs < 2 ^ 9000 := bits_le bb (by omega)
            have htb : tp.natAbs < 2 ^ 40000 := bits_up tb (by omega)
            have hhb : he.natAbs < 2 ^ 16000 := bits_up hb (by omega)
            refine ⟨_, rfl, _, rfl, _, _, rfl, rfl, wide_mul htb hub (by decide) (by decide) (by decide), _, rfl, _, rfl, _, _, rfl, rfl, wide_mul hhb hbb (by decide) (by decide) (by decide), _, _, rfl, rfl, ?_⟩
            refine ⟨_, rfl, _, rfl, _, _, rfl, rfl, wide_mul hbb hub (by decide) (by decide) (by decide), _, _, rfl, ?_⟩
            refine ⟨_, _, _, _, _, _, _, _, rfl, s4.trans s5, ?_, Int.mul_pos b0 u0, ?_, ?_⟩
            · rw [take_snoc ht, lin_append, lin_one]
              have h1 : (tp * un + he * bt) * Fp bz = (tp * Fp bz) * un + (he * Fp bz) * bt := by grind
              rw [h1, eqn, eq5]
              grind
            · rw [Int.natAbs_mul, show 1758 * (j + 1) = 1758 * j + 1758 by omega, Nat.pow_add]
              exact Nat.mul_le_mul bb ub2
            · have h1 : (tp * un).natAbs < 2 ^ (20000 + 2000 * j + 1759) := wide_lt tb hub
              have h2 : (he * bt).natAbs < 2 ^ (20000 + 2000 * j + 1759) := by
                have hb2 : bt.natAbs < 2 ^ (1758 * j + 1) := bits_le bb (by omega)
                exact bits_up (wide_lt hhb hb2) (by omega)
              have h3 : (2 : Nat) ^ (20000 + 2000 * j + 1759 + 1) ≤ 2 ^ (20000 + 2000 * (j + 1)) := Nat.pow_le_pow_right (by decide) (by omega)
              rw [Nat.pow_succ] at h3
              omega
        · obtain ⟨tp, bt, x7, x8, x9, x10, x11, x12, rfl, s4, eqn, b0, bb, tb⟩ := m4
          rw [hal, List.take_length] at eqn
          have s04 := s02.trans s4
          have hbb : bt.natAbs < 2 ^ 8900 := bits_le bb (by omega)
          refine ⟨_, rfl, _, rfl, tp, bt, rfl, b0, hbb, fun H5 pl s5 hpl => ?_⟩
          have s05 := s04.trans s5
          have ddF5 := ddF.same s05
          have ti5 := same_tup s05 ti
          have hkl : kvs.length = i := by
            have := congrArg List.length hkeys
            rw [List.length_map, List.length_take] at this
            have := (List.getElem?_eq_some_iff.mp hidx).1
            omega
          have hil64 : i < 64 := by
            have := (List.getElem?_eq_some_iff.mp hidx).1
            omega
          refine ⟨_, rfl, _, rfl, F, ia, kvs, idx, rfl, rfl, ddF5, by rw [hkl]; exact Nat.lt_of_lt_of_le hil64 (by decide), ti5, fun o' d' kp => ?_⟩
          have hnew : valV kvs idx = none := by
            cases hv : valV kvs idx with
            | none => rfl
            | some y =>
              exfalso
              have hmem := valV_in hv
              rw [hkeys] at hmem
              obtain ⟨j, hj⟩ := List.mem_iff_getElem?.mp hmem
              rw [List.getElem?_take] at hj
              split at hj
              · rename_i hlt
                have := nodup_at (nodup_lawIdx Ds) hj hidx
                omega
              · cases hj
          have hrF : r ≠ F := fun z => by
            obtain ⟨_, _, e9, _⟩ := ddF5
            have e10 := s05 _ _ hr'
            rw [z, e9] at e10
            cases e10
          refine ⟨putK kvs idx (.ref pl), _, _, _, _, _, _, _, _, _, rfl, same_upd (s1'.trans s05) hF, ?_, ?_, d' ddF5, ?_, ?_⟩
          · rw [upd_ne hrF]
            exact s05 _ _ hr'
          · exact paired_mono (fun _ _ z => let ⟨a9, e9, t9⟩ := z; ⟨a9, e9, kp _ _ (same_tup s05 t9)⟩) hX'
          · rw [putK_new _ hnew, List.map_append, hkeys, take_snoc hidx] <;> rfl
          · rw [putK_new _ hnew]
            intro kv hkv
            rcases List.mem_append.mp hkv with h | h
            · obtain ⟨r9, t9, u9, a9, b9, e9, h9, p9, q9, m9⟩ := hvals kv h
              exact ⟨r9, t9, u9, a9, b9, e9, kp _ _ (same_tup s05 h9), p9, q9, m9⟩
            · have ekv : kv = (idx, .ref pl) := by simpa using h
              have lo := low_ok (t := tp) b0
              have fp : 0 < Fp bz := Fp_pos fun z hz => by
                rw [← hbz] at hz
                unfold bzL at hz
                obtain ⟨j, hj⟩ := List.mem_iff_getElem?.mp hz
                rw [List.getElem?_zipWith] at hj
                cases h1 : bs[j]? with
                | none =>
                  rw [h1] at hj
                  cases hj
                | some zz =>
                  cases h2 : Ds[j]? with
                  | none =>
                    rw [h1, h2] at hj
                    cases hj
                  | some D =>
                    rw [h1, h2] at hj
                    cases hj
                    have ok := hok zz (List.mem_of_getElem? h1)
                    exact Int.mul_pos ok.hb ok.hd
              rw [ekv]
              refine ⟨pl, lowT tp bt, lowB tp bt, ((Int.gcd tp bt : Nat) : Int) * Fp bz, bt, rfl, kp _ _ hpl, Int.mul_pos lo.gp fp, b0, ?_⟩
              have := lo.ht
              rw [show ((Int.gcd tp bt : Nat) : Int) * Fp bz * lowT tp bt = (((Int.gcd tp bt : Nat) : Int) * lowT tp bt) * Fp bz by grind, this]
              exact eqn
    · obtain ⟨kvs, x4, x5, x6, x7, x8, x9, x10, x11, x12, rfl, s1', hr', hX', ddF, hkeys, hvals⟩ := mm
      rw [hxl, List.take_length] at hkeys
      exact ⟨_, rfl, q H' F kvs (s1.trans s1') ddF hkeys hvals⟩
end Bx

/-! Bx L6: the law's sign, the worth at a place. -/
namespace Bx
open PySem PySem.Spec PyProof.Rows L2
theorem sgn_paired {kvs : List (List Int × V)} {tops : List Int} {cf : List Int → Int} (p : Paired (fun (kv : List Int × V) (t : Int) => ∃ a b : Int, 0 < a ∧ 0 < b ∧ a * t = b * cf kv.1) kvs tops) : sgnAll tops (fun t => t) = sgnAll (kvs.map (·.1)) cf := by
  have key : (tops.all fun x => decide (0 < x)) = ((kvs.map (·.1)).all fun x => decide (0 < cf x)) ∧ (tops.all fun x => decide (x < 0)) = ((kvs.map (·.1)).all fun x => decide (cf x < 0)) := by
    induction p with
    | nil => exact ⟨rfl, rfl⟩
    | cons h _ ih =>
      obtain ⟨a, b, ha, hb, e⟩ := h
      rw [List.all_cons, List.map_cons, List.all_cons, List.all_cons, List.all_cons, ih.1, ih.2]
      rename_i kv t _ _ _
      have h1 : (0 < t) ↔ 0 < cf kv.1 := ⟨fun z => pos_r hb (by rw [← e]; exact Int.mul_pos ha z), fun z => pos_r ha (by rw [e]; exact Int.mul_pos hb z)⟩
      have h2 : (t < 0) ↔ cf kv.1 < 0 := by
        constructor
        · intro z
          have : 0 < b * -cf kv.1 := by rw [Int.mul_neg, ← e, ← Int.mul_neg]; exact Int.mul_pos ha (by omega)
          have := pos_r hb this
          omega
        · intro z
          have : 0 < a * -t := by rw [Int.mul_neg, e, ← Int.mul_neg]; exact Int.mul_pos hb (by omega)
          have := pos_r ha this
          omega
      exact ⟨by simp only [h1], by simp only [h2]⟩
  unfold sgnAll
  rw [key.1, key.2]
theorem inBox_zeros : ∀ Ds : List Nat, inBox Ds (Ds.map fun _ => (0 : Int))
  | [] => True.intro
  | D :: r => ⟨Int.le_refl _, by show (0 : Int) ≤ (D : Int); omega, inBox_zeros r⟩
/-! ### at a place -/
def prodQ : List Nat → List (Int × Int) → List Int → Int
  | D :: r, (p, q) :: ps, j :: js => p ^ j.toNat * q ^ (D - j.toNat) * prodQ r ps js
  | _, _, _ => 1
theorem prodP_eq : ∀ {bz : List Bz} {ps : List (Int × Int)} {q : List Int}, prodP bz ps q = prodQ (bz.map (·.D)) ps q
  | [], _, _ => rfl
  | _ :: _, [], _ => rfl
  | _ :: _, _ :: _, [] => rfl
  | z :: r, (a, b) :: ps, j :: js => by
    show a ^ j.toNat * b ^ (z.D - j.toNat) * prodP r ps js = a ^ j.toNat * b ^ (z.D - j.toNat) * prodQ (r.map (·.D)) ps js
    rw [prodP_eq]
def Wd : List Nat → List (Int × Int) → Int
  | D :: r, (_, q) :: ps => q ^ D * Wd r ps
  | _, _ => 1
def prodN : List (Int × Int) → List Int → Int
  | (p, _) :: ps, j :: js => p ^ j.toNat * prodN ps js
  | _, _ => 1
def prodD : List (Int × Int) → List Int → Int
  | (_, q) :: ps, j :: js => q ^ j.toNat * prodD ps js
  | _, _ => 1
theorem prod_place : ∀ {Ds : List Nat} {ps : List (Int × Int)} {q : List Int}, Ds.length = ps.length → (∀ k, k < Ds.length → gk q k ≤ Ds.getD k 0) → Ds.length ≤ q.length → prodN ps q * Wd Ds ps = prodQ Ds ps q * prodD ps q
  | [], [], q, _, _, _ => by
    have e1 : prodN [] q = 1 := by cases q <;> rfl
    have e2 : prodD [] q = 1 := by cases q <;> rfl
    have e3 : prodQ [] [] q = 1 := rfl
    rw [e1, e2, e3] <;> rfl
  | D :: r, (a, b) :: ps, j :: js, hl, h, hq => by
    have ih := prod_place (Ds := r) (ps := ps) (q := js) (by simpa using hl) (fun k hk => by
      have := h (k + 1) (by simpa using hk)
      rw [gk_cons] at this
      simpa using this) (by simpa using hq)
    have h0 : j.toNat ≤ D := h 0 (by simp)
    show a ^ j.toNat * prodN ps js * (b ^ D * Wd r ps) = a ^ j.toNat * b ^ (D - j.toNat) * prodQ r ps js * (b ^ j.toNat * prodD ps js)
    have e : b ^ D = b ^ (D - j.toNat) * b ^ j.toNat := by rw [← Int.pow_add]; congr 1; omega
    rw [e]
    have h1 : a ^ j.toNat * prodN ps js * (b ^ (D - j.toNat) * b ^ j.toNat * Wd r ps) = a ^ j.toNat * (b ^ (D - j.toNat) * b ^ j.toNat) * (prodN ps js * Wd r ps) := by grind
    rw [h1, ih]
    grind
  | _ :: _, _ :: _, [], _, _, h => by simp at h
  | [], _ :: _, _, h, _, _ => by simp at h
  | _ :: _, [], _, h, _, _ => by simp at h
theorem Wd_pos : ∀ {Ds : List Nat} {ps : List (Int × Int)}, (∀ p ∈ ps, 0 < p.2) → 0 < Wd Ds ps
  | [], _, _ => Int.one_pos
  | _ :: _, [], _ => Int.one_pos
  | D :: r, (a, b) :: ps, h => Int.mul_pos (Int.pow_pos (h _ List.mem_cons_self)) (Wd_pos fun p hp => h p (List.mem_cons_of_mem _ hp))
theorem prodD_pos : ∀ {ps : List (Int × Int)} {q : List Int}, (∀ p ∈ ps, 0 < p.2) → 0 < prodD ps q
  | [], _, _ => Int.one_pos
  | _ :: _, [], _ => Int.one_pos
  | (a, b) :: ps, j :: js, h => Int.mul_pos (Int.pow_pos (h _ List.mem_cons_self)) (prodD_pos fun p hp => h p (List.mem_cons_of_mem _ hp))
/-- the places' numbers, four of them -/
def ptAt (pts : List (Int × Int)) (k : Nat) : Int × Int := pts.getD k (0, 1)
def nTo (pts : List (Int × Int)) (q : List Int) : Nat → Int
  | 0 => 1
  | k + 1 => nTo pts q k * (ptAt pts k).1 ^ gk q k
def dTo (pts : List (Int × Int)) (q : List Int) : Nat → Int
  | 0 => 1
  | k + 1 => dTo pts q k * (ptAt pts k).2 ^ gk q k
theorem nTo_cons (p : Int × Int) (pts : List (Int × Int)) (j : Int) (q : List Int) : ∀ k, nTo (p :: pts) (j :: q) (k + 1) = p.1 ^ j.toNat * nTo pts q k
  | 0 => by
    show 1 * p.1 ^ j.toNat = p.1 ^ j.toNat * 1
    omega
  | k + 1 => by
    show nTo (p :: pts) (j :: q) (k + 1) * (ptAt (p :: pts) (k + 1)).1 ^ gk (j :: q) (k + 1) = _
    rw [nTo_cons p pts j q k, gk_cons]
    show p.1 ^ j.toNat * nTo pts q k * (ptAt pts k).1 ^ gk q k = p.1 ^ j.toNat * (nTo pts q k * (ptAt pts k).1 ^ gk q k)
    grind
theorem dTo_cons (p : Int × Int) (pts : List (Int × Int)) (j : Int) (q : List Int) : ∀ k, dTo (p :: pts) (j :: q) (k + 1) = p.2 ^ j.toNat * dTo pts q k
  | 0 => by
    show 1 * p.2 ^ j.toNat = p.2 ^ j.toNat * 1
    omega
  | k + 1 => by
    show dTo (p :: pts) (j :: q) (k + 1) * (ptAt (p :: pts) (k + 1)).2 ^ gk (j :: q) (k + 1) = _
    rw [dTo_cons p pts j q k, gk_cons]
    show p.2 ^ j.toNat * dTo pts q k * (ptAt pts k).2 ^ gk q k = p.2 ^ j.toNat * (dTo pts q k * (ptAt pts k).2 ^ gk q k)
    grind
theorem nTo_nil {q : List Int} : ∀ k, (∀ i, gk q i = 0) → nTo [] q k = 1 ∧ dTo [] q k = 1
  | 0, _ => ⟨rfl, rfl⟩
  | k + 1, h => by
    obtain ⟨h1, h2⟩ := nTo_nil k h
    show nTo [] q k * _ ^ gk q k = 1 ∧ dTo [] q k * _ ^ gk q k = 1
    rw [h1, h2, h k, Int.pow_zero, Int.pow_zero]
    exact ⟨rfl, rfl⟩
theorem nTo_all : ∀ {pts : List (Int × Int)} {q : List Int}, pts.length ≤ q.length → (∀ k, pts.length ≤ k → gk q k = 0) → nTo pts q q.length = prodN pts q ∧ dTo pts q q.length = prodD pts q
  | [], q, _, h => by
    have e1 : prodN [] q = 1 := by cases q <;> rfl
    have e2 : prodD [] q = 1 := by cases q <;> rfl
    rw [e1, e2]
    exact nTo_nil _ fun i => h i (Nat.zero_le _)
  | p :: pts, j :: q, hl, h => by
    obtain ⟨h1, h2⟩ := nTo_all (pts := pts) (q := q) (by simpa using hl) fun k hk => by
      have := h (k + 1) (by simpa using hk)
      rw [gk_cons] at this
      exact this
    show nTo (p :: pts) (j :: q) (q.length + 1) = _ ∧ dTo (p :: pts) (j :: q) (q.length + 1) = _
    rw [nTo_cons, dTo_cons, h1, h2]
    exact ⟨rfl, rfl⟩
  | _ :: _, [], h, _ => by simp at h
def spWorth (P : Program) (w : World) (K : PySem.W.Frag) : Sp := fun vs H Q _ => ∃ (f l : Addr) (us : List Tm) (xs : List V) (pts : List (Int × Int)), vs = [.ref f, .ref l] ∧ DD P w K H f (toKV us) ∧ SqL K H l xs ∧ Paired (PlaceAt K H) xs pts ∧ (∀ p ∈ pts, 0 < p.2 ∧ PtSmall p) ∧ PartsOk us pts.length ∧
  (∀ u ∈ us, ∀ k, gk u.1 k ≤ 3 ∧ (pts.length ≤ k → gk u.1 k = 0)) ∧ pts.length ≤ 3 ∧ ∀ H' r t u a b, Same H H' → SqT K H' r [.int t, .int u] → 0 < a → 0 < b → a * t = b * lin us (prodQ (degs us pts.length) pts) → t.natAbs < 2 ^ 20000 → Q (.ref r) H'
--SP _law_counts := spCounts P w K
--SP _law_sign := spLawSign P w K
--SP _law_power := spPower
--SP _law_low := spLow K
--SP _law_worth := spWorth P w K
variable {P : Program} {w : World} {K : PySem.W.Frag} {mg : Str → Option Value} {base : Heap} {CP CR aN : Addr}
theorem ok__law_sign {f : Addr} {fd : FuncData} (F : C8.Def K mg "_law_sign" s__law_sign f fd) (b : Binds K fd ["_law_parts_here", "_law_box_here"] []) (T : Txt K mg CP CR aN) (c__law_counts : C8.Cal P w K mg base 3 "_law_counts" (spCounts P w K) []) : C8.Cal P w K mg base 4 "_law_sign" (spLawSign P w K) [] := by
  refine C8.cal0 F b .nil sc__law_sign (fun vs H Q E h => ?_) (fun cdv A outer s H vs Q E hr h => ?_)
  · obtain ⟨f, a, us, bs, rfl, _⟩ := h
    rfl
  · obtain ⟨f, a, us, bs, rfl, dd, hB, hok, hb3, pk, q⟩ := h
    have nd := sc__law_sign.nd
    refine ⟨_, (pss_cons (ps_setLc (i := 2) (own := [("_law_count", 3)]) (g := (gName 3)) (tt := tYes) rfl nd rfl rfl (sw_true rfl rfl rfl (by decide +kernel)) (pi_list (pe_listValsK P w K rfl (C8.pe_c c__law_counts hr (by decide) (by rfl) (pa_cons (pv 0) (pa_cons (pv 1) pa_nil))) (by rfl) T.list (by decide +kernel))) (blkOk_by (own := [("_law_count", 3)]) (N := ["_law_parts_here", "_law_box_here", "_law_tops", "_law_count"]) (sc := C8.fnScope s__law_sign) (by decide +kernel)) (fun _ _ _ _ _ => (pg_name (i := 3) nd rfl (Or.inl rfl))) (fun _ _ _ _ _ => pts_nil) (fun _ _ _ _ _ => (pe_ix (ix_tupK K) (pv 3) pe_int (fun _ _ => rfl))))
    (pss_one (ps_ret (pe_ifExp (pt_cmpR op_gt (pe_callB (cr_minK K rfl) (by rfl) T.min (by decide +kernel) (pa_cons (pv 2) pa_nil)) pe_int (nomark _)) pe_int (pe_ifExp (pt_cmpR op_lt (pe_callB (cr_maxK K rfl) (by rfl) T.max (by decide +kernel) (pa_cons (pv 2) pa_nil)) pe_int (nomark _)) (pe_un un_neg pe_int) pe_int))))), ?_⟩
    refine ⟨_, rfl, _, rfl, f, a, us, bs, rfl, dd, hB, hok, hb3, pk, fun H1 F kvs s1 ddF hkeys hvals => ?_⟩
    refine ⟨F, kvs, rfl, ddF, fun lv hlv => ?_⟩
    refine ⟨_, rfl, ⟨_, sqL_at⟩, fun D hD => ?_⟩
    obtain ⟨tops, hP⟩ := choose_all (F := fun (kv : List Int × V) (t : Int) => ∃ r u a b, kv.2 = V.ref r ∧ SqT K H1 r [.int t, .int u] ∧ 0 < a ∧ 0 < b ∧ a * t = b * lin (nz us) (prodL (bzL bs (degs us bs.length)) kv.1)) (xs := kvs) fun j kv hkv => by
      obtain ⟨r, t, u, a, b, h1, h2, h3, h4, h5⟩ := hvals kv (List.mem_of_getElem? hkv)
      exact ⟨t, r, u, a, b, h1, h2, h3, h4, h5⟩
    have hpl := paired_len hP
    have s12 : Same H1 (upd H1 lv (.lst (kvs.map (·.2)))) := same_new hlv
    have lbk : kvs.length = (lawIdx (degs us bs.length)).length := by rw [← hkeys, List.length_map]
    have lb : (lawIdx (degs us bs.length)).length ≤ 64 := by
      have h1 := length_foldl (Ds := degs us bs.length) (F := [[]]) pk.d3
      have h4 : (4 : Nat) ^ (degs us bs.length).length ≤ 4 ^ 3 := Nat.pow_le_pow_right (by decide) (by rw [degs_len]; omega)
      unfold lawIdx
      have h5 : ([[]] : List (List Int)).length = 1 := rfl
      rw [h5] at h1
      omega
    have lpos : 0 < tops.length := by
      rw [← hpl, lbk]
      exact List.length_pos_of_mem (mem_lawIdx.mpr (inBox_zeros _))
    refine lc_list (K := K) (a := lv) (xs := kvs.map (·.2)) (fun i H' => H' = upd (upd H1 lv (.lst (kvs.map (·.2)))) D (.lst ((tops.take i).map V.int))) rfl (fun i H' _ e => by rw [e]; exact (same_new hD).seq sqL_at) (fun i x H' hx e => ?_) (fun H' e => ?_)
    · subst e
      rw [List.getElem?_map] at hx
      cases hi : kvs[i]? with
      | none =>
        rw [hi] at hx
        cases hx
      | some kv =>
        rw [hi] at hx
        cases hx
        obtain ⟨t, ht, r, u, a9, b9, e1, h1, _⟩ := paired_at hP hi
        have hil : i < tops.length := (List.getElem?_eq_some_iff.mp ht).1
        refine ⟨rfl, _, rfl, _, _, _, _, e1, rfl, same_tup (s12.trans (same_new hD)) h1, (by rfl), ?_⟩
        refine ⟨_, upd_same, ?_, ?_⟩
        · rw [List.length_map, List.length_take]
          exact Nat.lt_of_le_of_lt (show min i tops.length ≤ 64 by omega) (by decide)
        · rw [upd_upd, take_snoc ht, List.map_append] <;> rfl
    · subst e
      rw [show tops.take (kvs.map (·.2)).length = tops by rw [List.length_map, hpl, List.take_length]]
      have fin : sgnAll tops (fun t => t) = lawSign us bs := by
        unfold lawSign
        rw [← hkeys]
        exact sgn_paired (paired_mono (fun _ _ ⟨r, u, a, b, h1, h2, h3, h4, h5⟩ => ⟨a, b, h3, h4, h5⟩) hP)
      have res : ∀ v : Int, v = sgnAll tops (fun t => t) → Q (.int v) (upd (upd H1 lv (.lst (kvs.map (·.2)))) D (.lst (tops.map V.int))) := fun v hv => by
        rw [hv, fin]
        exact q _ (s1.trans (s12.trans (same_new hD)))
      refine ⟨_, rfl, D, tops, rfl, sqL_at, lpos, fun mn hm1 hm2 => ?_⟩
      refine ⟨_, _, rfl, rfl, _, rfl, ?_⟩
      by_cases c1 : 0 < mn
      · rw [decide_eq_true c1]
        refine res 1 ?_
        unfold sgnAll
        rw [if_pos (all_iff.mpr fun x hx => by have := hm2 x hx; show 0 < x; omega)]
      · rw [decide_eq_false c1]
        refine ⟨_, rfl, D, tops, rfl, sqL_at, lpos, fun mx hx1 hx2 => ?_⟩
        refine ⟨_, _, rfl, rfl, _, rfl, ?_⟩
        have n1 : ¬ (tops.all fun x => decide (0 < x)) = true := fun z => c1 (all_iff.mp z mn hm1)
        by_cases c2 : mx < 0
        · rw [decide_eq_true c2]
          refine ⟨_, rfl, res (-1) ?_⟩
          unfold sgnAll
          rw [if_neg n1, if_pos (all_iff.mpr fun x hx => by have := hx2 x hx; show x < 0; omega)]
        · rw [decide_eq_false c2]
          refine res 0 ?_
          unfold sgnAll
          rw [if_neg n1, if_neg fun z => c2 (all_iff.mp z mx hx1)]
theorem nd_bits {pts : List (Int × Int)} {q : List Int} (h : ∀ k, (ptAt pts k).1.natAbs < 2 ^ 70 ∧ (ptAt pts k).2.natAbs < 2 ^ 70) (hg : ∀ k, gk q k ≤ 3) : ∀ k, (nTo pts q k).natAbs < 2 ^ (1 + 250 * k) ∧ (dTo pts q k).natAbs < 2 ^ (1 + 250 * k)
  | 0 => ⟨by show 1 < 2 ^ 1; decide, by show 1 < 2 ^ 1; decide⟩
  | k + 1 => by
    obtain ⟨h1, h2⟩ := nd_bits h hg k
    have g3 := hg k
    have p1 := pow_bits (i := gk q k) (h k).1 250 (by omega)
    have p2 := pow_bits (i := gk q k) (h k).2 250 (by omega)
    exact ⟨bits_up (wide_lt h1 p1) (by omega), bits_up (wide_lt h2 p2) (by omega)⟩
theorem ok__law_worth {f : Addr} {fd : FuncData} (F : C8.Def K mg "_law_worth" s__law_worth f fd) (b : Binds K fd ["_law_parts_here", "_law_point"] []) (T : Txt K mg CP CR aN) (c__law_low : C8.Cal P w K mg base 1 "_law_low" (spLow K) []) (c__law_power : C8.Cal P w K mg base 1 "_law_power" (spPower) []) : C8.Cal P w K mg base 2 "_law_worth" (spWorth P w K) [] := by
  refine C8.cal0 F b .nil sc__law_worth (fun vs H Q E h => ?_) (fun cdv A outer s H vs Q E hr h => ?_)
  · obtain ⟨f, l, us, xs, pts, rfl, _⟩ := h
    rfl
  · obtain ⟨f, l, us, xs, pts, rfl, dd, hL, hP, hpt, pk, hg, hp3, q⟩ := h
    have nd := sc__law_worth.nd
    refine ⟨_, (pss_cons (ps_asg (pe_tup (pa_cons pe_int (pa_cons pe_int pa_nil))) (pg_tup rfl (pgs_cons (pg_name (i := 2) nd rfl (Or.inl rfl)) (pgs_cons (pg_name (i := 3) nd rfl (Or.inl rfl)) pgs_nil))))
    (pss_cons (ps_for PassesOwn.never rfl (pi_ddK P w (pv 0)) (pg_name (i := 4) nd rfl (Or.inl rfl))
      (pss_cons (ps_par (i := 5) (j := 6) rfl nd rfl rfl (by decide) rfl rfl (pa_cons (pe_ddgetK P w K (hu_of hr) (pv 0) (pv 4) (fun _ _ => rfl)) (pa_cons pe_int pa_nil)) (by rfl))
        (pss_cons (ps_for PassesOwn.never rfl (pi_range1 (by rfl) T.range (pa_cons pe_int pa_nil)) (pg_name (i := 7) nd rfl (Or.inl rfl))
          (C8.pss_cut (ps_set (i := 8) nd rfl (Or.inl rfl) (pe_ifExp (pt_cmpR op_lt (pv 7) (pe_callB (call_len_seqK K) (by rfl) T.len PySem.boot_len (pa_cons (pv 1) pa_nil)) (nomark _)) (pe_ix (ix_listK K) (pv 1) (pv 7) (fun _ _ => rfl)) (pe_tup (pa_cons pe_int (pa_cons pe_int pa_nil)))))
            (pss_one (ps_par (i := 5) (j := 6) rfl nd rfl rfl (by decide) rfl rfl (pa_cons (pe_op op_mulW (pv 5) (C8.pe_c c__law_power hr (by decide) (by rfl) (pa_cons (pe_ix (ix_tupK K) (pv 8) pe_int (fun _ _ => rfl)) (pa_cons (pe_ix (ix_tupK K) (pv 4) (pv 7) (fun _ _ => rfl)) pa_nil)))) (pa_cons (pe_op op_mulW (pv 6) (C8.pe_c c__law_power hr (by decide) (by rfl) (pa_cons (pe_ix (ix_tupK K) (pv 8) pe_int (fun _ _ => rfl)) (pa_cons (pe_ix (ix_tupK K) (pv 4) (pv 7) (fun _ _ => rfl)) pa_nil)))) pa_nil)) (by rfl)))))
        (pss_one (ps_par (i := 2) (j := 3) rfl nd rfl rfl (by decide) rfl rfl (pa_cons (pe_op op_add (pe_op op_mulW (pv 2) (pv 6)) (pe_op op_mulW (pv 5) (pv 3))) (pa_cons (pe_op op_mulW (pv 3) (pv 6)) pa_nil)) (by rfl))))))
    (pss_one (ps_ret (C8.pe_c c__law_low hr (by decide) (by rfl) (pa_cons (pv 2) (pa_cons (pv 3) pa_nil))))))), ?_⟩
    have hpl := paired_len hP
    have hul := pk.l5
    generalize hm : pts.length = m at *
    generalize hDs : degs us m = Ds at *
    have hDl : Ds.length = m := by rw [← hDs, degs_len]
    have ptb : ∀ k, (ptAt pts k).1.natAbs < 2 ^ 70 ∧ (ptAt pts k).2.natAbs < 2 ^ 70 := fun k => by
      unfold ptAt
      rw [List.getD_eq_getElem?_getD]
      cases hk : pts[k]? with
      | none => exact ⟨by show 0 < 2 ^ 70; decide, by show 1 < 2 ^ 70; decide⟩
      | some p =>
        obtain ⟨h1, h2, h3⟩ := hpt p (List.mem_of_getElem? hk)
        exact ⟨Nat.lt_of_le_of_lt h3 (by decide), Nat.lt_of_le_of_lt (show p.2.natAbs ≤ 1000000000000000 by omega) (by decide)⟩
    have pt0 : ∀ p ∈ pts, 0 < p.2 := fun p hp => (hpt p hp).1
    refine ⟨by show 2 ≤ sizeLine; decide, fun pr hpr => ⟨_, _, rfl, sqT_at, rfl, _, _, rfl, _, _, rfl, rfl, ?_⟩⟩
    have s1 : Same H (upd H pr (.tup [.int 0, .int 1])) := same_new hpr
    obtain ⟨es, eo, e, ek, et⟩ := dd.same s1
    have at_us : ∀ (j : Nat) p, es[j]? = some p → ∃ u, us[j]? = some u ∧ p.1 = u.1 := fun j p hp => by
      have h1 : (kvOf es)[j]? = (toKV us)[j]? := by rw [ek]
      unfold kvOf toKV at h1
      rw [List.getElem?_map, List.getElem?_map, hp] at h1
      cases hu : us[j]? with
      | none =>
        rw [hu] at h1
        cases h1
      | some u =>
        rw [hu] at h1
        exact ⟨u, rfl, congrArg (·.1) (Option.some.inj h1)⟩
    have hel : es.length = us.length := by
      have := congrArg List.length ek
      unfold kvOf toKV at this
      rwa [List.length_map, List.length_map] at this
    refine ⟨_, rfl, _, es, eo, rfl, e, ?_⟩
    refine for_dd (P := P) (w := w) (d := f) (xs := es) (o := eo) (fun j σ H2 => ∃ tp bt x4 x5 x6 x7 x8, σ = [some (.ref f), some (.ref l), some (.int tp), some (.int bt), x4, x5, x6, x7, x8] ∧ Same (upd H pr (.tup [.int 0, .int 1])) H2 ∧
      tp * Wd Ds pts = bt * lin (us.take j) (prodQ Ds pts) ∧ 0 < bt ∧ bt.natAbs < 2 ^ (1 + 1001 * j) ∧ tp.natAbs < 2 ^ (6500 + 1002 * j)) ⟨0, 1, _, _, _, _, _, rfl, Same.refl _, by simp [lin], by decide, by decide, Nat.pow_pos (by decide)⟩ (fun j σ H2 _ ⟨_, _, _, _, _, _, _, _, s, _⟩ => s _ _ e) (fun j p σ H2 hp mm => ?_) (fun σ H2 mm => ?_)
    · obtain ⟨tp, bt, x4, x5, x6, x7, x8, rfl, s2, eqn, b0, bb, tb⟩ := mm
      obtain ⟨u, hu, e3⟩ := at_us j p hp
      have hum := List.mem_of_getElem? hu
      have hj5 : j < 5 := by
        have := (List.getElem?_eq_some_iff.mp hu).1
        omega
      have tq := same_tup s2 (et p (List.mem_of_getElem? hp))
      rw [e3] at tq
      have sH2 := s1.trans s2
      have hv : valV (toKV us) u.1 = some (.int u.2) := by rw [valV_toKV, getT_mem pk.nd hum] <;> rfl
      have l4 := pk.l4 u hum
      have hgu := hg u hum
      have ndb := nd_bits ptb (fun k => (hgu k).1)
      refine ⟨_, rfl, _, rfl, _, _, _, _, _, rfl, rfl, (dd.same sH2), tq, hv, _, _, rfl, ?_⟩
      refine ⟨_, rfl, (by decide), (by decide), ?_⟩
      refine for_range (lo := 0) (n := 4) (fun k σ H3 => ∃ x7 x8, σ = [some (.ref f), some (.ref l), some (.int tp), some (.int bt), some (.ref p.2.1), some (.int (u.2 * nTo pts u.1 k)), some (.int (dTo pts u.1 k)), x7, x8] ∧ Same H2 H3) ⟨_, _, by rw [show u.2 * nTo pts u.1 0 = u.2 from Int.mul_one _]; rfl, Same.refl _⟩ (fun k σ H3 hk m3 => ?_) (fun σ H3 m3 => ?_)
      · obtain ⟨x7, x8, rfl, s3⟩ := m3
        have sH3 := sH2.trans s3
        refine ⟨fun σ' H' => ∃ pa, σ' = [some (.ref f), some (.ref l), some (.int tp), some (.int bt), some (.ref p.2.1), some (.int (u.2 * nTo pts u.1 k)), some (.int (dTo pts u.1 k)), some (.int (0 + (k : Nat))), some (.ref pa)] ∧ Same H3 H' ∧ SqT K H' pa [.int (ptAt pts k).1, .int (ptAt pts k).2], ?_, fun σ' H4 m4 => ?_⟩
        · refine ⟨_, rfl, _, rfl, _, _, rfl, .inl (sH3.seq hL), _, _, rfl, rfl, _, rfl, ?_⟩
          by_cases c : (0 : Int) + ((k : Nat) : Int) < ((xs.length : Nat) : Int)
          · rw [decide_eq_true c]
            have hkx : k < xs.length := by omega
            obtain ⟨pt, hpk, pa, epa, tpa⟩ := paired_at hP (List.getElem?_eq_getElem hkx)
            have hat : atI xs (0 + ((k : Nat) : Int)) = some (.ref pa) := by
              rw [Int.zero_add, ← epa]
              exact atI_nat (List.getElem?_eq_getElem hkx)
            have ept : ptAt pts k = pt := by
              unfold ptAt
              rw [List.getD_eq_getElem?_getD, hpk] <;> rfl
            refine ⟨_, rfl, _, rfl, _, _, _, _, rfl, rfl, (sH3.seq hL), hat, ?_⟩
            exact ⟨pa, rfl, Same.refl _, by rw [ept]; exact same_tup sH3 tpa⟩
          · rw [decide_eq_false c]
            refine ⟨by show 2 ≤ sizeLine; decide, fun pa hpa => ⟨pa, rfl, same_new hpa, ?_⟩⟩
            have ept : ptAt pts k = (0, 1) := by
              unfold ptAt
              rw [List.getD_eq_getElem?_getD, List.getElem?_eq_none (by omega)] <;> rfl
            rw [ept]
            exact sqT_at
        · obtain ⟨pa, rfl, s4, tpa⟩ := m4
          have tq4 := same_tup (s3.trans s4) tq
          have at4 : atI (u.1.map V.int) (0 + ((k : Nat) : Int)) = some (.int ((gk u.1 k : Nat) : Int)) := by rw [Int.zero_add]; exact nat_at (by rw [l4.1]; omega) l4.2
          have g3 := (hgu k).1
          have pb := ptb k
          have nb := ndb k
          have hnb : (u.2 * nTo pts u.1 k).natAbs < 2 ^ 3000 := bits_up (wide_lt (pk.cb u hum) nb.1) (by omega)
          have hdb : (dTo pts u.1 k).natAbs < 2 ^ 3000 := bits_up nb.2 (by omega)
          refine ⟨_, rfl, _, rfl, _, _, _, _, rfl, rfl, tpa, (by rfl), _, rfl, _, rfl, _, _, _, _, rfl, rfl, tq4, at4, ?_⟩
          refine ⟨(ptAt pts k).1, gk u.1 k, rfl, by omega, bits_up pb.1 (by decide), ?_⟩
          refine ⟨_, _, rfl, rfl, wide_mul hnb (pow_bits pb.1 250 (show 70 * gk u.1 k < 250 by omega)) (by decide) (by decide) (by decide), ?_⟩
          refine ⟨_, rfl, _, rfl, _, _, _, _, rfl, rfl, tpa, (by rfl), _, rfl, _, rfl, _, _, _, _, rfl, rfl, tq4, at4, ?_⟩
          refine ⟨(ptAt pts k).2, gk u.1 k, rfl, by omega, bits_up pb.2 (by decide), ?_⟩
          refine ⟨_, _, rfl, rfl, wide_mul hdb (pow_bits pb.2 250 (show 70 * gk u.1 k < 250 by omega)) (by decide) (by decide) (by decide), _, _, rfl, ?_⟩
          refine ⟨some (.int (0 + (k : Nat))), some (.ref pa), ?_, s3.trans s4⟩
          have e5 : u.2 * nTo pts u.1 k * (ptAt pts k).1 ^ gk u.1 k = u.2 * nTo pts u.1 (k + 1) := by
            show _ = u.2 * (nTo pts u.1 k * (ptAt pts k).1 ^ gk u.1 k)
            grind
          show ([some (.ref f), some (.ref l), some (.int tp), some (.int bt), some (.ref p.2.1), some (.int (u.2 * nTo pts u.1 k * (ptAt pts k).1 ^ gk u.1 k)), some (.int (dTo pts u.1 k * (ptAt pts k).2 ^ gk u.1 k)), some (.int (0 + (k : Nat))), some (.ref pa)] : St) = _
          rw [e5] <;> rfl
      · obtain ⟨x7, x8, rfl, s3⟩ := m3
        have all4 := nTo_all (pts := pts) (q := u.1) (by rw [l4.1]; omega) fun k hk => (hgu k).2 (by omega)
        rw [l4.1] at all4
        have nb := ndb 4
        rw [all4.1, all4.2] at nb
        rw [all4.1, all4.2]
        have hhe : (u.2 * prodN pts u.1).natAbs < 2 ^ 1200 := bits_up (wide_lt (pk.cb u hum) nb.1) (by decide)
        have d0 := prodD_pos (q := u.1) pt0
        have hbb : bt.natAbs < 2 ^ 6000 := bits_up bb (by omega)
        have htb : tp.natAbs < 2 ^ 20000 := bits_up tb (by omega)
        refine ⟨_, rfl, _, rfl, _, _, rfl, rfl, wide_mul htb nb.2 (by decide) (by decide) (by decide), _, rfl, _, rfl, _, _, rfl, rfl, wide_mul hhe hbb (by decide) (by decide) (by decide), _, _, rfl, rfl, ?_⟩
        refine ⟨_, rfl, _, rfl, _, _, rfl, rfl, wide_mul hbb nb.2 (by decide) (by decide) (by decide), _, _, rfl, ?_⟩
        refine ⟨_, _, _, _, _, _, _, rfl, s2.trans s3, ?_, Int.mul_pos b0 d0, ?_, ?_⟩
        · rw [take_snoc hu, lin_append, lin_one]
          have h1 : (tp * prodD pts u.1 + u.2 * prodN pts u.1 * bt) * Wd Ds pts = (tp * Wd Ds pts) * prodD pts u.1 + u.2 * (prodN pts u.1 * Wd Ds pts) * bt := by grind
          rw [h1, eqn]
          by_cases c : u.2 = 0
          · rw [c]
            grind
          · rw [prod_place (by omega) (fun k hk => by
              rw [← hDs, degs_get (by omega)]
              exact degN_le hum c) (by omega)]
            grind
        · exact bits_up (wide_lt bb nb.2) (by omega)
        · have h1 : (tp * prodD pts u.1).natAbs < 2 ^ (6500 + 1002 * j + 1001) := wide_lt tb nb.2
          have h2 : (u.2 * prodN pts u.1 * bt).natAbs < 2 ^ (6500 + 1002 * j + 1001) := bits_up (wide_lt hhe bb) (by omega)
          have h3 : (2 : Nat) ^ (6500 + 1002 * j + 1001 + 1) = 2 ^ (6500 + 1002 * (j + 1)) := by congr 1
          rw [Nat.pow_succ] at h3
          omega
    · obtain ⟨tp, bt, x4, x5, x6, x7, x8, rfl, s2, eqn, b0, bb, tb⟩ := mm
      rw [hel, List.take_length] at eqn
      refine ⟨_, rfl, _, rfl, tp, bt, rfl, b0, bits_up bb (by omega), fun H3 r s3 hr => ?_⟩
      have lo := low_ok (t := tp) b0
      have w0 := Wd_pos (Ds := Ds) pt0
      refine q H3 r (lowT tp bt) (lowB tp bt) (((Int.gcd tp bt : Nat) : Int) * Wd Ds pts) bt (s1.trans (s2.trans s3)) hr (Int.mul_pos lo.gp w0) b0 ?_ (Nat.lt_of_le_of_lt lo.tle (bits_up tb (by omega)))
      have := lo.ht
      rw [show ((Int.gcd tp bt : Nat) : Int) * Wd Ds pts * lowT tp bt = (((Int.gcd tp bt : Nat) : Int) * lowT tp bt) * Wd Ds pts by grind, this]
      exact eqn
end Bx

/-! Bx L7: what is told, beside the law's own sign. -/
namespace Bx
open PySem PySem.Spec PyProof.Rows L2
/-- the law's parts: at most five terms, of m unknowns, powers up to mo -/
structure PartsG (us : List Tm) (m mo : Nat) : Prop where
  nd : (us.map (·.1)).Nodup
  l5 : us.length ≤ 5
  bx : ∀ u ∈ us, inBox (Mo m mo) u.1
  cb : ∀ u ∈ us, u.2.natAbs ≤ 10 ^ 25 + 5000
  m3 : m ≤ 3
  mo3 : mo ≤ 3
  mm : m = 3 → mo = 2
theorem Mo_get {m mo k : Nat} (h : k < 4) : (Mo m mo).getD k 0 = if k < m then mo else 0 := by
  unfold Mo
  rw [List.getD_eq_getElem?_getD, List.getElem?_map, List.getElem?_range h] <;> rfl
theorem PartsG.gk {us : List Tm} {m mo : Nat} (p : PartsG us m mo) {u : Tm} (hu : u ∈ us) (k : Nat) : gk u.1 k ≤ if k < m then mo else 0 := by
  have hl : u.1.length = 4 := by rw [inBox_len (p.bx u hu)] <;> rfl
  by_cases h : k < 4
  · have := (inBox_gk (p.bx u hu) (show k < (Mo m mo).length from h)).1
    rwa [Mo_get h] at this
  · unfold Bx.gk
    rw [List.getD_eq_getElem?_getD, List.getElem?_eq_none (by omega)]
    exact Nat.zero_le _
theorem PartsG.l4 {us : List Tm} {m mo : Nat} (p : PartsG us m mo) {u : Tm} (hu : u ∈ us) : u.1.length = 4 ∧ ∀ x ∈ u.1, 0 ≤ x ∧ x ≤ 3 := by
  refine ⟨by rw [inBox_len (p.bx u hu)] <;> rfl, inBox_all (fun D hD => ?_) (p.bx u hu)⟩
  unfold Mo at hD
  obtain ⟨j, _, rfl⟩ := List.mem_map.mp hD
  have := p.mo3
  split <;> omega
theorem PartsG.deg {us : List Tm} {m mo : Nat} (p : PartsG us m mo) (k : Nat) : degN us k ≤ if k < m then mo else 0 := by
  rcases degN_has us k with e | ⟨t, ht, _, e⟩
  · omega
  · rw [← e]
    exact p.gk ht k
theorem PartsG.cases {us : List Tm} {m mo n : Nat} (p : PartsG us m mo) (hn : n ≤ 3) (C : List Nat → Prop) (h : ∀ Ds : List Nat, Ds.length ≤ 3 → (∀ D ∈ Ds, D ≤ 3) → Ds.sum ≤ 6 → many Ds ≤ 27 → C Ds) : C (degs us n) := by
  have d0 := p.deg 0
  have d1 := p.deg 1
  have d2 := p.deg 2
  have h1 := p.m3
  have h2 := p.mo3
  have h3 := p.mm
  have key : ∀ a b c : Nat, a ≤ 3 → b ≤ 3 → c ≤ 3 → (a + b + c ≤ 6) → (2 < m → a ≤ 2 ∧ b ≤ 2) → (¬ 2 < m → c = 0) → c ≤ 2 → (a + 1) * ((b + 1) * ((c + 1) * 1)) ≤ 27 := by
    intro a b c ha hb hc _ h5 h6 h7
    by_cases hm : 2 < m
    · obtain ⟨x, y⟩ := h5 hm
      have := Nat.mul_le_mul (show a + 1 ≤ 3 by omega) (Nat.mul_le_mul (show b + 1 ≤ 3 by omega) (show (c + 1) * 1 ≤ 3 by omega))
      omega
    · have hc0 := h6 hm
      subst hc0
      have := Nat.mul_le_mul (show a + 1 ≤ 4 by omega) (Nat.mul_le_mul (show b + 1 ≤ 4 by omega) (show (0 + 1) * 1 ≤ 1 by omega))
      omega
  have e0 : degN us 0 ≤ 3 ∧ degN us 1 ≤ 3 ∧ degN us 2 ≤ 2 ∧ (2 < m → degN us 0 ≤ 2 ∧ degN us 1 ≤ 2) ∧ (¬ 2 < m → degN us 2 = 0) := by
    refine ⟨?_, ?_, ?_, fun hm => ?_, fun hm => ?_⟩ <;> (split at d0 <;> split at d1 <;> split at d2 <;> omega)
  obtain ⟨x0, x1, x2, x3, x4⟩ := e0
  have s6 : degN us 0 + degN us 1 + degN us 2 ≤ 6 := by
    by_cases hm : 2 < m
    · have := x3 hm
      omega
    · have := x4 hm
      omega
  have m3 : (degN us 0 + 1) * ((degN us 1 + 1) * ((degN us 2 + 1) * 1)) ≤ 27 := key _ _ _ x0 x1 (by omega) s6 x3 x4 x2
  have m2 : (degN us 0 + 1) * ((degN us 1 + 1) * 1) ≤ 27 := Nat.le_trans (Nat.mul_le_mul_left _ (by
    have := Nat.le_mul_of_pos_right (degN us 1 + 1) (show 0 < (degN us 2 + 1) * 1 by omega)
    omega)) m3
  have m1 : (degN us 0 + 1) * 1 ≤ 27 := by omega
  rcases le3 hn with rfl | rfl | rfl | rfl
  · exact h [] (by decide) (fun D hD => nomatch hD) (by decide) (by decide)
  · refine h [degN us 0] (by show 1 ≤ 3; decide) (fun D hD => ?_) (by show degN us 0 + 0 ≤ 6; omega) m1
    have : D = degN us 0 := by simpa using hD
    omega
  · refine h [degN us 0, degN us 1] (Nat.le_of_ble_eq_true rfl) (fun D hD => ?_) (by show degN us 0 + (degN us 1 + 0) ≤ 6; omega) m2
    have : D = degN us 0 ∨ D = degN us 1 := by simpa using hD
    omega
  · refine h [degN us 0, degN us 1, degN us 2] (Nat.le_of_ble_eq_true rfl) (fun D hD => ?_) (by show degN us 0 + (degN us 1 + (degN us 2 + 0)) ≤ 6; omega) m3
    have : D = degN us 0 ∨ D = degN us 1 ∨ D = degN us 2 := by simpa using hD
    omega
theorem PartsG.ok {us : List Tm} {m mo n : Nat} (p : PartsG us m mo) (hn : n ≤ 3) : PartsOk us n :=
  ⟨p.nd, p.l5, fun u hu => ⟨(p.l4 hu).1, fun x hx => ((p.l4 hu).2 x hx).1⟩, fun u hu => Nat.lt_of_le_of_lt (p.cb u hu) (by decide), p.cases hn (fun Ds => ∀ D ∈ Ds, D ≤ 3) fun _ _ h _ _ => h, p.cases hn (fun Ds => Ds.sum ≤ 6) fun _ _ _ h _ => h⟩
theorem inBox_of : ∀ {Ds : List Nat} {q : List Int}, q.length = Ds.length → (∀ x ∈ q, 0 ≤ x) → (∀ k, k < Ds.length → gk q k ≤ Ds.getD k 0) → inBox Ds q
  | [], [], _, _, _ => True.intro
  | D :: r, x :: q, hl, h0, h => by
    have hx := h0 x List.mem_cons_self
    have h1 : x.toNat ≤ D := h 0 (by simp)
    refine ⟨hx, by omega, inBox_of (by simpa using hl) (fun y hy => h0 y (List.mem_cons_of_mem _ hy)) fun k hk => ?_⟩
    have := h (k + 1) (by simpa using hk)
    rw [gk_cons] at this
    simpa using this
  | [], _ :: _, hl, _, _ => by simp at hl
  | _ :: _, [], hl, _, _ => by simp at hl
def ds4 (us : List Tm) (n : Nat) : List Nat := degs us n ++ List.replicate (4 - n) 0
theorem ds4_get {us : List Tm} {n k : Nat} : (ds4 us n).getD k 0 = if k < n then degN us k else 0 := by
  unfold ds4
  rw [List.getD_eq_getElem?_getD]
  by_cases h : k < n
  · rw [List.getElem?_append_left (by rw [degs_len]; exact h), if_pos h, ← List.getD_eq_getElem?_getD, degs_get h]
  · rw [List.getElem?_append_right (by rw [degs_len]; omega), if_neg h, List.getElem?_replicate]
    split <;> rfl
theorem many_app : ∀ (l m : List Nat), many (l ++ m) = many l * many m
  | [], m => by simp [many]
  | y :: r, m => by
    show (y + 1) * many (r ++ m) = (y + 1) * many r * many m
    rw [many_app r m, Nat.mul_assoc]
theorem many_zero : ∀ n, many (List.replicate n 0) = 1
  | 0 => rfl
  | n + 1 => by
    show (0 + 1) * many (List.replicate n 0) = 1
    rw [many_zero n]
theorem nrm_le {c : Nat} : ∀ {us : List Tm}, (∀ u ∈ us, u.2.natAbs ≤ c) → nrm us ≤ us.length * c
  | [], _ => Nat.zero_le _
  | u :: r, h => by
    rw [nrm_cons, List.length_cons, Nat.add_mul]
    have := nrm_le (us := r) fun x hx => h x (List.mem_cons_of_mem _ hx)
    have := h u List.mem_cons_self
    omega
structure ToldPre (us ts : List Tm) (n : Nat) : Prop where
  pw : PW (ds4 us n) ts
  l4 : (ds4 us n).length = 4
  d3 : ∀ D ∈ ds4 us n, D ≤ 3
  m27 : many (ds4 us n) ≤ 27
  tops : ∀ k, k < 4 → Top ts k ((ds4 us n).getD k 0)
  nb : nrm ts < 2 ^ 200
  z0 : ∀ k, n ≤ k → (ds4 us n).getD k 0 = 0
theorem told_pre {us ts : List Tm} {m mo n : Nat} (p : PartsG us m mo) (hmn : m ≤ n) (hn : n ≤ 3) (h : ts.Perm (nz us)) : ToldPre us ts n := by
  have mem : ∀ t, t ∈ ts ↔ t ∈ us ∧ t.2 ≠ 0 := fun t => by
    rw [h.mem_iff, List.mem_filter]
    simp
  have nd : (ts.map (·.1)).Nodup := (h.map (·.1)).nodup_iff.mpr (p.nd.sublist ((List.filter_sublist (l := us)).map _))
  have nzz : ∀ t ∈ ts, t.2 ≠ 0 := fun t ht => ((mem t).mp ht).2
  have l4 : (ds4 us n).length = 4 := by
    unfold ds4
    rw [List.length_append, degs_len, List.length_replicate]
    omega
  refine ⟨⟨nd, nzz, fun t ht => ?_⟩, l4, fun D hD => ?_, ?_, fun k _ => ?_, ?_, fun k hk => by rw [ds4_get, if_neg (by omega)]⟩
  · have htu := ((mem t).mp ht).1
    obtain ⟨q1, q2⟩ := p.l4 htu
    refine inBox_of (by rw [l4, q1]) (fun x hx => (q2 x hx).1) fun k hk => ?_
    rw [ds4_get]
    by_cases c : k < n
    · rw [if_pos c]
      exact degN_le htu (nzz t ht)
    · rw [if_neg c]
      have := p.gk htu k
      rw [if_neg (by omega)] at this
      exact this
  · unfold ds4 at hD
    rcases List.mem_append.mp hD with h1 | h1
    · exact (p.ok hn).d3 D h1
    · have := (List.mem_replicate.mp h1).2
      omega
  · unfold ds4
    rw [many_app, many_zero, Nat.mul_one]
    exact p.cases hn (fun Ds => many Ds ≤ 27) fun _ _ _ _ h => h
  · rw [ds4_get]
    by_cases c : k < n
    · rw [if_pos c]
      refine Top.of nd nzz ?_
      rcases degN_has us k with e | ⟨t, ht, hz, e⟩
      · exact .inl e
      · exact .inr ⟨t, (mem t).mpr ⟨ht, hz⟩, e⟩
    · rw [if_neg c]
      exact .inl rfl
  · rw [nrm_perm h, nrm_filter]
    have h1 := nrm_le (us := us) (c := 10 ^ 25 + 5000) p.cb
    have h2 := Nat.mul_le_mul_right (10 ^ 25 + 5000) p.l5
    exact Nat.lt_of_le_of_lt (Nat.le_trans h1 h2) (by decide)
theorem told_eq {us ts : List Tm} {m mo : Nat} {bs : List S4} (p : PartsG us m mo) (hmn : m ≤ bs.length) (hn : bs.length ≤ 3) (h : ts.Perm (nz us)) (ok : ∀ z ∈ bs, z.Ok) :
    sgnAll (idxs (ds4 us bs.length)) (fun q => lin ts (opsFrom 0 (bzOf bs (ds4 us bs.length)) (ind q))) = lawSign us bs := by
  have pre := told_pre p hmn hn h
  have e := sign_link (n := 4 - bs.length) (ts := ts) ok (show bs.length = (degs us bs.length).length by rw [degs_len]) pre.pw.bx
  refine e.trans ?_
  unfold lawSign
  congr 1
  funext idx
  exact lin_perm h _
def spIsTold (P : Program) (w : World) (K : PySem.W.Frag) (CP CR : Addr) : Sp := fun vs H Q _ => ∃ (p f a : Addr) (us ts : List Tm) (bs : List S4) (m mo : Nat), vs = [.ref p, .ref f, .ref a] ∧ PolyAt K CP CR H p ts ∧ ts.Perm (nz us) ∧ DD P w K H f (toKV us) ∧ BoxAt K H a bs ∧ (∀ z ∈ bs, z.Ok) ∧ bs.length ≤ 3 ∧ PartsG us m mo ∧ m ≤ bs.length ∧ ∀ H', Same H H' → Q (.bl true) H'
--SP _law_sign := spLawSign P w K
--SP sign_over := spSignThere K CP CR
--SP _law_is_told := spIsTold P w K CP CR
variable {P : Program} {w : World} {K : PySem.W.Frag} {mg : Str → Option Value} {base : Heap} {CP CR aN : Addr}
theorem ok__law_is_told {f : Addr} {fd : FuncData} (F : C8.Def K mg "_law_is_told" s__law_is_told f fd) (b : Binds K fd ["_law_poly_here", "_law_parts_here", "_law_box_here"] []) (T : Txt K mg CP CR aN) (c__law_sign : C8.Cal P w K mg base 4 "_law_sign" (spLawSign P w K) []) (c_sign_over : C8.Cal P w K mg base 9 "sign_over" (spSignThere K CP CR) []) : C8.Cal P w K mg base 10 "_law_is_told" (spIsTold P w K CP CR) [] := by
  refine C8.cal0 F b .nil sc__law_is_told (fun vs H Q E h => ?_) (fun cdv A outer s H vs Q E hr h => ?_)
  · obtain ⟨p, f, a, us, ts, bs, m, mo, rfl, _⟩ := h
    rfl
  · obtain ⟨p, f, a, us, ts, bs, m, mo, rfl, hP, hperm, dd, hB, ok, hb3, pg, hmn, q⟩ := h
    have nd := sc__law_is_told.nd
    refine ⟨_, (pss_cons (ps_set (i := 3) nd rfl (Or.inl rfl) (C8.pe_c c__law_sign hr (by decide) (by rfl) (pa_cons (pv 1) (pa_cons (pv 2) pa_nil))))
    (pss_cons (ps_set (i := 4) nd rfl (Or.inl rfl) (C8.pe_c c_sign_over hr (by decide) (by rfl) (pa_cons (pv 0) (pa_cons (pv 2) pa_nil))))
    (pss_one (ps_ret (pe_and (pe_callB (call_isiK K) (by rfl) T.isinstance (by decide +kernel) (pa_cons (pv 4) (pa_cons (pe_bltn (v := .ty "int") (by rfl) T.int (by decide +kernel) rfl) pa_nil))) (pe_and (pe_not (pe_callB (call_isiK K) (by rfl) T.isinstance (by decide +kernel) (pa_cons (pv 4) (pa_cons (pe_bltn (v := .ty "bool") (by rfl) T.bool (by decide +kernel) rfl) pa_nil)))) (pe_one (pe_cmpR op_eq (pv 4) (pv 3) (nomark _))))))))), ?_⟩
    have pre := told_pre pg hmn hb3 hperm
    refine ⟨_, rfl, _, rfl, f, a, us, bs, rfl, dd, hB, ok, hb3, pg.ok hb3, fun H1 s1 => ?_⟩
    refine ⟨_, rfl, _, rfl, p, a, ts, ds4 us bs.length, bs, rfl, hP.same s1, pre.pw, pre.l4, pre.d3, pre.m27, pre.tops, hB.same s1, ok, hb3, pre.nb, pre.z0, fun H2 s2 => ?_⟩
    refine ⟨_, rfl, _, _, _, _, true, rfl, .ty _, .base (.int _), kit_ty (by decide +kernel), _, rfl, _, rfl, _, _, _, _, false, rfl, .ty _, .base (.int _), kit_ty (by decide +kernel), _, rfl, _, rfl, _, rfl, _, rfl, rfl, ?_⟩
    rw [told_eq pg hmn hb3 hperm ok, decide_eq_true rfl]
    exact q H2 (s1.trans s2)
end Bx

/-! Bx M7: the sign at a place of the box; boxes about a place. -/
namespace Bx
open PySem L2
theorem paired_get {α β : Type} {F : α → β → Prop} {xs : List α} {ys : List β} (p : Paired F xs ys) : ∀ y ∈ ys, ∃ x ∈ xs, F x y := by
  induction p with
  | nil => exact fun y hy => nomatch hy
  | cons h _ ih =>
    intro y hy
    rcases List.mem_cons.mp hy with e | hy
    · rw [e]
      exact ⟨_, List.mem_cons_self, h⟩
    · obtain ⟨x, hx, hf⟩ := ih y hy
      exact ⟨x, List.mem_cons_of_mem _ hx, hf⟩
theorem within_of : ∀ {bs : List S4} {pts : List (Int × Int)} {Ds : List Nat}, Paired InS bs pts → (∀ z ∈ bs, z.Ok) → (∀ D ∈ Ds, D ≤ 3) → Ds.length = bs.length → Within (bzL bs Ds) pts
  | [], [], [], .nil, _, _, _ => .nil
  | z :: bs, pt :: pts, D :: Ds, .cons h t, ok, h3, hl => by
    have oz := ok z List.mem_cons_self
    have lo := h.lo
    have hi := h.hi
    refine .cons (h3 D List.mem_cons_self) (Int.mul_pos oz.hb oz.hd) oz.lt h.q0 ?_ ?_ (within_of t (fun y hy => ok y (List.mem_cons_of_mem _ hy)) (fun E hE => h3 E (List.mem_cons_of_mem _ hE)) (by simpa using hl))
    · show z.a * z.d * pt.2 ≤ pt.1 * (z.b * z.d)
      have := Int.mul_le_mul_of_nonneg_right lo (Int.le_of_lt oz.hd)
      have e1 : z.a * z.d * pt.2 = z.a * pt.2 * z.d := by grind
      have e2 : pt.1 * (z.b * z.d) = pt.1 * z.b * z.d := by grind
      rw [e1, e2]
      exact this
    · show pt.1 * (z.b * z.d) ≤ z.c * z.b * pt.2
      have := Int.mul_le_mul_of_nonneg_right hi (Int.le_of_lt oz.hb)
      have e1 : z.c * z.b * pt.2 = z.c * pt.2 * z.b := by grind
      have e2 : pt.1 * (z.b * z.d) = pt.1 * z.d * z.b := by grind
      rw [e1, e2]
      exact this
  | _ :: _, _ :: _, [], _, _, _, hl => by simp at hl
  | [], [], _ :: _, _, _, _, hl => by simp at hl
theorem bzL_D : ∀ {bs : List S4} {Ds : List Nat}, Ds.length = bs.length → (bzL bs Ds).map (·.D) = Ds
  | [], [], _ => rfl
  | z :: bs, D :: Ds, h => by
    show D :: (bzL bs Ds).map (·.D) = D :: Ds
    rw [bzL_D (by simpa using h)]
  | [], _ :: _, h => by simp at h
  | _ :: _, [], h => by simp at h
def worthAt (us : List Tm) (pts : List (Int × Int)) : Int := lin us (prodQ (degs us pts.length) pts)
theorem lin_neg (ts : List Tm) (w) : lin (ts.map fun t => (t.1, -t.2)) w = -lin ts w := by
  induction ts with
  | nil => rfl
  | cons t r ih =>
    rw [List.map_cons, lin_cons, lin_cons, ih]
    show -t.2 * w t.1 + -lin r w = -(t.2 * w t.1 + lin r w)
    grind
theorem sign_place {us : List Tm} {m mo : Nat} {bs : List S4} {pts : List (Int × Int)} (p : PartsG us m mo) (hmn : m ≤ bs.length) (hn : bs.length ≤ 3) (ok : ∀ z ∈ bs, z.Ok) (hP : Paired InS bs pts) (h0 : lawSign us bs ≠ 0) : 0 < lawSign us bs * worthAt us pts := by
  have hl := Paired.length hP
  have pre := told_pre p hmn hn (List.Perm.refl _)
  have hDl : (degs us bs.length).length = bs.length := degs_len ..
  have wi := within_of (Ds := degs us bs.length) hP ok (p.ok hn).d3 hDl
  have hb : ∀ t ∈ nz us, ∃ q r, t.1 = q ++ r ∧ inBox ((bzL bs (degs us bs.length)).map (·.D)) q := fun t ht => by
    obtain ⟨q, r, e, h1, _⟩ := inBox_app.mp (pre.pw.bx t ht)
    exact ⟨q, r, e, by rw [bzL_D hDl]; exact h1⟩
  have ew : worthAt us pts = lin (nz us) (prodP (bzL bs (degs us bs.length)) pts) := by
    unfold worthAt
    rw [← lin_filter, ← hl]
    refine lin_congr fun t _ => ?_
    rw [prodP_eq, bzL_D hDl]
  rw [ew]
  rcases sgnAll_cases (lawIdx (degs us bs.length)) (fun idx => lin (nz us) (prodL (bzL bs (degs us bs.length)) idx)) with e | e | e
  · have e' : lawSign us bs = 1 := e
    rw [e', Int.one_mul]
    refine prod_pos wi hb fun idx hi => ?_
    rw [bzL_D hDl] at hi
    exact sgnAll_pos e idx (mem_lawIdx.mpr hi)
  · have e' : lawSign us bs = -1 := e
    rw [e']
    have := prod_pos wi (ts := (nz us).map fun t => (t.1, -t.2)) (fun t ht => by
      obtain ⟨u, hu, rfl⟩ := List.mem_map.mp ht
      exact hb u hu) fun idx hi => by
      rw [bzL_D hDl] at hi
      have := sgnAll_neg e idx (mem_lawIdx.mpr hi)
      rw [lin_neg]
      have : lin (nz us) (prodL (bzL bs (degs us bs.length)) idx) < 0 := this
      omega
    rw [lin_neg] at this
    omega
  · exact absurd e h0
theorem near_ok {pt : Int × Int} {y : Int} (q0 : 0 < pt.2) (s : PtSmall pt) (y0 : 0 < y) (y1 : y ≤ 2 ^ 96) : (nearS pt y).Ok ∧ InS (nearS pt y) pt := by
  have sq := s.q
  have sp := s.p
  have pqy : 0 < pt.2 * y := Int.mul_pos q0 y0
  have bp : pt.1.natAbs < 2 ^ 100 := Nat.lt_of_le_of_lt sp (by decide)
  have byy : y.natAbs < 2 ^ 100 := Nat.lt_of_le_of_lt (show y.natAbs ≤ 2 ^ 96 by omega) (by decide)
  have b1 : (pt.1 * y).natAbs < 2 ^ 200 := wide_lt bp byy
  have b2 : pt.2.natAbs < 2 ^ 200 := Nat.lt_of_le_of_lt (show pt.2.natAbs ≤ 1000000000000000 by omega) (by decide)
  have hBn : (pt.2 * y).natAbs ≤ 2 ^ 146 := by
    rw [Int.natAbs_mul]
    have h1 : pt.2.natAbs ≤ 2 ^ 50 := by
      have : (1000000000000000 : Nat) ≤ 2 ^ 50 := by decide
      omega
    have h2 : y.natAbs ≤ 2 ^ 96 := by omega
    have := Nat.mul_le_mul h1 h2
    rw [← Nat.pow_add] at this
    exact this
  have p201 : (2 : Nat) ^ 201 = 2 ^ 200 + 2 ^ 200 := by rw [Nat.pow_succ, Nat.mul_two]
  refine ⟨lowS_ok pqy (by omega) (bits_up (a := 201) (by omega) (by decide)) (bits_up (a := 201) (by omega) (by decide)) hBn, q0, ?_, ?_⟩
  · have lo := low_ok (t := pt.1 * y - 1 * pt.2) pqy
    show lowT (pt.1 * y - 1 * pt.2) (pt.2 * y) * pt.2 ≤ pt.1 * lowB (pt.1 * y - 1 * pt.2) (pt.2 * y)
    refine Int.le_of_mul_le_mul_left ?_ lo.gp
    have e1 := lo.ht
    have e2 := lo.hb
    generalize ((Int.gcd (pt.1 * y - 1 * pt.2) (pt.2 * y) : Nat) : Int) = g at e1 e2
    have h1 : g * (lowT (pt.1 * y - 1 * pt.2) (pt.2 * y) * pt.2) = (pt.1 * y - 1 * pt.2) * pt.2 := by rw [← Int.mul_assoc, e1]
    have h2 : g * (pt.1 * lowB (pt.1 * y - 1 * pt.2) (pt.2 * y)) = pt.1 * (pt.2 * y) := by
      have : g * (pt.1 * lowB (pt.1 * y - 1 * pt.2) (pt.2 * y)) = pt.1 * (g * lowB (pt.1 * y - 1 * pt.2) (pt.2 * y)) := by grind
      rw [this, e2]
    rw [h1, h2]
    have h3 : pt.1 * (pt.2 * y) - (pt.1 * y - 1 * pt.2) * pt.2 = pt.2 * pt.2 := by grind
    have h4 : 0 < pt.2 * pt.2 := Int.mul_pos q0 q0
    omega
  · have lo := low_ok (t := pt.1 * y + 1 * pt.2) pqy
    show pt.1 * lowB (pt.1 * y + 1 * pt.2) (pt.2 * y) ≤ lowT (pt.1 * y + 1 * pt.2) (pt.2 * y) * pt.2
    refine Int.le_of_mul_le_mul_left ?_ lo.gp
    have e1 := lo.ht
    have e2 := lo.hb
    generalize ((Int.gcd (pt.1 * y + 1 * pt.2) (pt.2 * y) : Nat) : Int) = g at e1 e2
    have h1 : g * (lowT (pt.1 * y + 1 * pt.2) (pt.2 * y) * pt.2) = (pt.1 * y + 1 * pt.2) * pt.2 := by rw [← Int.mul_assoc, e1]
    have h2 : g * (pt.1 * lowB (pt.1 * y + 1 * pt.2) (pt.2 * y)) = pt.1 * (pt.2 * y) := by
      have : g * (pt.1 * lowB (pt.1 * y + 1 * pt.2) (pt.2 * y)) = pt.1 * (g * lowB (pt.1 * y + 1 * pt.2) (pt.2 * y)) := by grind
      rw [this, e2]
    rw [h1, h2]
    have h3 : (pt.1 * y + 1 * pt.2) * pt.2 - pt.1 * (pt.2 * y) = pt.2 * pt.2 := by grind
    have h4 : 0 < pt.2 * pt.2 := Int.mul_pos q0 q0
    omega
def nearB (pts : List (Int × Int)) (y : Int) : List S4 := pts.map fun pt => nearS pt y
theorem nearB_ok {pts : List (Int × Int)} {y : Int} (h : ∀ p ∈ pts, 0 < p.2 ∧ PtSmall p) (y0 : 0 < y) (y1 : y ≤ 2 ^ 96) : (∀ z ∈ nearB pts y, z.Ok) ∧ Paired InS (nearB pts y) pts := by
  induction pts with
  | nil => exact ⟨(fun z hz => nomatch hz), .nil⟩
  | cons p r ih =>
    obtain ⟨h1, h2⟩ := ih fun x hx => h x (List.mem_cons_of_mem _ hx)
    obtain ⟨a, b⟩ := h p List.mem_cons_self
    have n := near_ok a b y0 y1
    exact ⟨fun z hz => by
      rcases List.mem_cons.mp hz with e | hz
      · rw [e]
        exact n.1
      · exact h1 z hz, .cons n.2 h2⟩
theorem mem_addT : ∀ {us : List Tm} {k : List Int} {d : Int} {t : Tm}, t ∈ addT us k d → t ∈ us ∨ ∃ c, ((k, c) ∈ us ∨ c = 0) ∧ t = (k, c + d)
  | [], k, d, t, h => .inr ⟨0, .inr rfl, by
    have : t = (k, d) := by simpa [addT] using h
    rw [this, Int.zero_add]⟩
  | (q, x) :: r, k, d, t, h => by
    unfold addT at h
    by_cases e : q = k
    · rw [if_pos e] at h
      rcases List.mem_cons.mp h with h | h
      · exact .inr ⟨x, .inl (by rw [← e]; exact List.mem_cons_self), by rw [h, e]⟩
      · exact .inl (List.mem_cons_of_mem _ h)
    · rw [if_neg e] at h
      rcases List.mem_cons.mp h with h | h
      · exact .inl (by rw [h]; exact List.mem_cons_self)
      · rcases mem_addT h with h | ⟨c, hc, e2⟩
        · exact .inl (List.mem_cons_of_mem _ h)
        · exact .inr ⟨c, hc.imp (List.mem_cons_of_mem _) id, e2⟩
theorem choose_ix {α β : Type} : ∀ {xs : List α} {F : Nat → α → β → Prop}, (∀ (j : Nat) x, xs[j]? = some x → ∃ y, F j x y) → ∃ ys : List β, ys.length = xs.length ∧ ∀ (j : Nat) x y, xs[j]? = some x → ys[j]? = some y → F j x y
  | [], _, _ => ⟨[], rfl, fun j x y h => by simp at h⟩
  | x :: xs, F, h => by
    obtain ⟨y, hy⟩ := h 0 x rfl
    obtain ⟨ys, hl, hys⟩ := choose_ix (xs := xs) (F := fun j => F (j + 1)) fun j z hz => h (j + 1) z hz
    refine ⟨y :: ys, by simp [hl], fun j a b ha hb => ?_⟩
    cases j with
    | zero =>
      cases ha
      cases hb
      exact hy
    | succ j => exact hys j a b ha hb
end Bx

/-! Bx L8: the law. -/
namespace Bx
open PySem PySem.Spec PyProof.Rows L2
def spLaw (K : PySem.W.Frag) : Sp := fun vs H Q _ => ∃ (a : Addr) (ns : List Int), vs = [.ref a] ∧ SqL K H a (ns.map V.int) ∧ ns.length ≤ 63 ∧ ∀ H', Q (.bl true) H'
--SP _law_hand := spHand K
--SP _law_any := spAny K
--SP _law_draw := spDraw K
--SP _law_parts := spParts P w K
--SP _law_poly := spLawPoly P w K CP CR
--SP _law_box := spLawBox K
--SP _law_is_told := spIsTold P w K CP CR
--SP _law_sign := spLawSign P w K
--SP _law_place := spPlace K
--SP _law_worth := spWorth P w K
--SP _law_about := spAbout K
--SP law := spLaw K
/-- a list of places -/
def PointAt (K : PySem.W.Frag) (H : Hp) (l : Addr) (pts : List (Int × Int)) : Prop := ∃ xs, H l = some (.lst xs) ∧ Paired (PlaceAt K H) xs pts
theorem Off.place {K : PySem.W.Frag} {d D : Addr} {Ha Hb : Hp} {v : V} {pt : Int × Int} (f : Off d D Ha Hb) (x : PlaceAt K Ha v pt) : PlaceAt K Hb v pt := let ⟨r, e, t⟩ := x; ⟨r, e, f.tup t⟩
theorem Off.point {K : PySem.W.Frag} {d D l : Addr} {Ha Hb : Hp} {pts : List (Int × Int)} (f : Off d D Ha Hb) (hl : l ≠ D) (x : PointAt K Ha l pts) : PointAt K Hb l pts := by
  obtain ⟨xs, e, p⟩ := x
  obtain ⟨kvs, h⟩ := id f.h
  exact ⟨xs, f.k l _ (fun z => by rw [z, h] at e; cases e) hl e, paired_mono (fun _ _ y => f.place y) p⟩
theorem same_place {K : PySem.W.Frag} {Ha Hb : Hp} {v : V} {pt : Int × Int} (s : Same Ha Hb) (x : PlaceAt K Ha v pt) : PlaceAt K Hb v pt := let ⟨r, e, t⟩ := x; ⟨r, e, same_tup s t⟩
theorem same_point {K : PySem.W.Frag} {l : Addr} {Ha Hb : Hp} {pts : List (Int × Int)} (s : Same Ha Hb) (x : PointAt K Ha l pts) : PointAt K Hb l pts :=
  let ⟨xs, e, p⟩ := x; ⟨xs, s _ _ e, paired_mono (fun _ _ y => same_place s y) p⟩
theorem Kp.place {K : PySem.W.Frag} {d : Addr} {Ha Hb : Hp} {v : V} {pt : Int × Int} (k : Kp d Ha Hb) (h : IsH Ha d) (x : PlaceAt K Ha v pt) : PlaceAt K Hb v pt := let ⟨r, e, t⟩ := x; ⟨r, e, k.tup h t⟩
theorem Kp.point {K : PySem.W.Frag} {d l : Addr} {Ha Hb : Hp} {pts : List (Int × Int)} (k : Kp d Ha Hb) (h : IsH Ha d) (x : PointAt K Ha l pts) : PointAt K Hb l pts :=
  let ⟨xs, e, p⟩ := x; ⟨xs, k.lst h e, paired_mono (fun _ _ y => k.place h y) p⟩
theorem zero_box (m mo : Nat) : inBox (Mo m mo) [0, 0, 0, 0] := ⟨Int.le_refl _, by show (0 : Int) ≤ ((if 0 < m then mo else 0 : Nat) : Int); omega, Int.le_refl _, by show (0 : Int) ≤ ((if 1 < m then mo else 0 : Nat) : Int); omega, Int.le_refl _, by show (0 : Int) ≤ ((if 2 < m then mo else 0 : Nat) : Int); omega, Int.le_refl _, by show (0 : Int) ≤ ((if 3 < m then mo else 0 : Nat) : Int); omega, True.intro⟩
theorem dec_ne {t : Int} : (!decide (V.int t = V.int 0)) = decide (t ≠ 0) := by
  by_cases c : t = 0
  · rw [c] <;> rfl
  · rw [decide_eq_true c, decide_eq_false fun z => c (V.int.inj z)] <;> rfl
variable {P : Program} {w : World} {K : PySem.W.Frag} {mg : Str → Option Value} {base : Heap} {CP CR aN : Addr}
theorem ok_law {f : Addr} {fd : FuncData} (F : C8.Def K mg "law" s_law f fd) (T : Txt K mg CP CR aN) (c__law_about : C8.Cal P w K mg base 2 "_law_about" (spAbout K) []) (c__law_any : C8.Cal P w K mg base 2 "_law_any" (spAny K) []) (c__law_box : C8.Cal P w K mg base 4 "_law_box" (spLawBox K) []) (c__law_draw : C8.Cal P w K mg base 1 "_law_draw" (spDraw K) []) (c__law_hand : C8.Cal P w K mg base 1 "_law_hand" (spHand K) []) (c__law_is_told : C8.Cal P w K mg base 10 "_law_is_told" (spIsTold P w K CP CR) []) (c__law_parts : C8.Cal P w K mg base 3 "_law_parts" (spParts P w K) []) (c__law_place : C8.Cal P w K mg base 3 "_law_place" (spPlace K) []) (c__law_poly : C8.Cal P w K mg base 6 "_law_poly" (spLawPoly P w K CP CR) []) (c__law_sign : C8.Cal P w K mg base 4 "_law_sign" (spLawSign P w K) []) (c__law_worth : C8.Cal P w K mg base 2 "_law_worth" (spWorth P w K) []) : FnOk P w K mg base C8.CX0 11 f fd ["_law_script"] (spLaw K) := by
  refine C8.fn0 F.fn sc_law (fun vs H Q E h => ?_) (fun cdv A outer s H vs Q E hr h => ?_)
  · obtain ⟨a, ns, rfl, _⟩ := h
    rfl
  · obtain ⟨a, ns, rfl, hL, hlen, q⟩ := h
    have nd := sc_law.nd
    refine ⟨_, (pss_cons (ps_set (i := 1) nd rfl (Or.inr rfl) (C8.pe_c c__law_hand hr (by decide) (by rfl) (pa_cons (pv 0) pa_nil)))
    (pss_cons (ps_for PassesOwn.never rfl (pi_range1 (by rfl) T.range (pa_cons pe_int pa_nil)) (pg_name (i := 2) nd rfl (Or.inl rfl))
      (pss_cons (ps_set (i := 3) nd rfl (Or.inl rfl) (C8.pe_c c__law_any hr (by decide) (by rfl) (pa_cons (pv 1) (pa_cons (pe_lst (pa_cons pe_int (pa_cons pe_int (pa_cons pe_int (pa_cons pe_int (pa_cons pe_int (pa_cons pe_int pa_nil))))))) pa_nil))))
        (C8.pss_cut (ps_set (i := 4) nd rfl (Or.inr rfl) (C8.pe_c c__law_parts hr (by decide) (by rfl) (pa_cons (pv 1) (pa_cons (pv 3) (pa_cons (pe_ifExp (pt_cmpR op_eq (pv 3) pe_int (nomark _)) pe_int pe_int) (pa_cons pe_int pa_nil))))))
        (C8.pss_cut (ps_if (pt_cmpR op_eq (C8.pe_c c__law_draw hr (by decide) (by rfl) (pa_cons (pv 1) (pa_cons pe_int pa_nil))) pe_int (nomark _))
          (pss_cons (ps_set (i := 5) nd rfl (Or.inl rfl) (pe_op op_mulW (C8.pe_c c__law_any hr (by decide) (by rfl) (pa_cons (pv 1) (pa_cons (pe_lst (pa_cons pe_int (pa_cons pe_int (pa_cons pe_int (pa_cons pe_int pa_nil))))) pa_nil))) (pe_op op_sub pe_int (pe_op op_mulW pe_int (C8.pe_c c__law_draw hr (by decide) (by rfl) (pa_cons (pv 1) (pa_cons pe_int pa_nil)))))))
            (pss_one (ps_ddsetK P w K (hu_of hr) (pv 4) (pe_tup (pa_cons pe_int (pa_cons pe_int (pa_cons pe_int (pa_cons pe_int pa_nil))))) (pe_op op_add (pe_ddget2K P w K (hu_of hr) (pv 4) (pe_tup (pa_cons pe_int (pa_cons pe_int (pa_cons pe_int (pa_cons pe_int pa_nil))))) pe_int m2_by) (pv 5)) rfl)))
          pss_nil)
        (pss_cons (ps_asg (pe_tup (pa_cons (C8.pe_c c__law_poly hr (by decide) (by rfl) (pa_cons (pv 4) pa_nil)) (pa_cons (C8.pe_c c__law_box hr (by decide) (by rfl) (pa_cons (pv 1) (pa_cons (C8.pe_c c__law_any hr (by decide) (by rfl) (pa_cons (pv 1) (pa_cons (pe_lst (pa_cons (pv 3) (pa_cons (pv 3) (pa_cons pe_int pa_nil)))) pa_nil))) pa_nil))) pa_nil))) (pg_tup rfl (pgs_cons (pg_name (i := 6) nd rfl (Or.inl rfl)) (pgs_cons (pg_name (i := 7) nd rfl (Or.inr rfl)) pgs_nil))))
        (pss_cons (ps_if (pt_not (pt_val (C8.pe_c c__law_is_told hr (by decide) (by rfl) (pa_cons (pv 6) (pa_cons (pv 4) (pa_cons (pv 7) pa_nil))))))
          (pss_one (ps_ret pe_bl))
          pss_nil)
        (pss_cons (ps_set (i := 8) nd rfl (Or.inr rfl) (C8.pe_c c__law_sign hr (by decide) (by rfl) (pa_cons (pv 4) (pa_cons (pv 7) pa_nil))))
        (pss_cons (ps_setLc (i := 9) (own := [("_law_k", 15)]) (g := (gName 15)) (tt := tYes) rfl nd rfl rfl (sw_true rfl rfl rfl (by decide +kernel)) (pi_range1 (by rfl) T.range (pa_cons pe_int pa_nil)) (blkOk_by (own := [("_law_k", 15)]) (N := ["_law_script", "_law_hand_here", "_law_turn", "_law_many", "_law_parts_here", "_law_more", "_law_poly_here", "_law_box_here", "_law_sign_here", "_law_points", "_law_worth_here", "_law_by", "_law_found", "_law_again", "_law_near", "_law_k", "_law_stretch_here", "_law_point", "_law_place_here", "_law_powers"]) (sc := C8.fnScope s_law) (by decide +kernel)) (fun _ _ _ _ _ => (pg_name (i := 15) nd rfl (Or.inl rfl))) (fun _ _ _ _ _ => pts_nil) (fun _ _ _ _ _ => (pe_lc (own := [("_law_stretch_here", 16)]) (g := (gName 16)) (tt := tYes) rfl nd (pi_tupK K (pv 7)) (blkOk_by (own := [("_law_stretch_here", 16)]) (N := ["_law_script", "_law_hand_here", "_law_turn", "_law_many", "_law_parts_here", "_law_more", "_law_poly_here", "_law_box_here", "_law_sign_here", "_law_points", "_law_worth_here", "_law_by", "_law_found", "_law_again", "_law_near", "_law_k", "_law_stretch_here", "_law_point", "_law_place_here", "_law_powers"]) (sc := ⟨.function, [(".0", .local), ("_law_k", .local), ("_law_box_here", .cell), ("_law_hand_here", .cell)], false, false, []⟩) (by decide +kernel)) (fun _ _ _ _ _ => (pg_name (i := 16) nd rfl (Or.inl rfl))) (fun _ _ _ _ _ => pts_nil) (fun _ _ _ _ _ => (C8.pe_c c__law_place hr (by decide) (by rfl) (pa_cons (pv 1) (pa_cons (pv 16) pa_nil)))))))
        (pss_cons (ps_if (pt_not (pt_val (pe_callB (cr_allK K rfl) (by rfl) T.all (by decide +kernel) (pa_cons (pe_lc (own := [("_law_point", 17)]) (g := (gName 17)) (tt := tYes) rfl nd (pi_list (pv 9)) (blkOk_by (own := [("_law_point", 17)]) (N := ["_law_script", "_law_hand_here", "_law_turn", "_law_many", "_law_parts_here", "_law_more", "_law_poly_here", "_law_box_here", "_law_sign_here", "_law_points", "_law_worth_here", "_law_by", "_law_found", "_law_again", "_law_near", "_law_k", "_law_stretch_here", "_law_point", "_law_place_here", "_law_powers"]) (sc := C8.fnScope s_law) (by decide +kernel)) (fun _ _ _ _ _ => (pg_name (i := 17) nd rfl (Or.inl rfl))) (fun _ _ _ _ _ => pts_nil) (fun _ _ _ _ _ => (pe_or (pe_cmpR op_eq (pv 8) pe_int (nomark _)) (pe_one (pe_cmpR op_gt (pe_op op_mulW (pe_ix (ix_tupK K) (C8.pe_c c__law_worth hr (by decide) (by rfl) (pa_cons (pv 4) (pa_cons (pv 17) pa_nil))) pe_int (fun _ _ => rfl)) (pv 8)) pe_int (nomark _)))))) pa_nil))))
          (pss_one (ps_ret pe_bl))
          pss_nil)
        (pss_cons (ps_asg (pe_tup (pa_cons (pe_ix (ix_tupK K) (C8.pe_c c__law_worth hr (by decide) (by rfl) (pa_cons (pv 4) (pa_cons (pe_ix (ix_listK K) (pv 9) pe_int (fun _ _ => rfl)) pa_nil))) pe_int (fun _ _ => rfl)) (pa_cons pe_int (pa_cons pe_int pa_nil)))) (pg_tup rfl (pgs_cons (pg_name (i := 10) nd rfl (Or.inl rfl)) (pgs_cons (pg_name (i := 11) nd rfl (Or.inr rfl)) (pgs_cons (pg_name (i := 12) nd rfl (Or.inl rfl)) pgs_nil)))))
        (C8.pss_cut (ps_for PassesOwn.never rfl (pi_range1 (by rfl) T.range (pa_cons pe_int pa_nil)) (pg_name (i := 13) nd rfl (Or.inl rfl))
          (pss_cons (ps_set (i := 14) nd rfl (Or.inl rfl) (pe_callTy (call_tuple_ofK K) (by rfl) T.tuple (by decide +kernel) (pa_cons (pe_lc (own := [("_law_place_here", 18)]) (g := (gName 18)) (tt := tYes) rfl nd (pi_list (pe_ix (ix_listK K) (pv 9) pe_int (fun _ _ => rfl))) (blkOk_by (own := [("_law_place_here", 18)]) (N := ["_law_script", "_law_hand_here", "_law_turn", "_law_many", "_law_parts_here", "_law_more", "_law_poly_here", "_law_box_here", "_law_sign_here", "_law_points", "_law_worth_here", "_law_by", "_law_found", "_law_again", "_law_near", "_law_k", "_law_stretch_here", "_law_point", "_law_place_here", "_law_powers"]) (sc := C8.fnScope s_law) (by decide +kernel)) (fun _ _ _ _ _ => (pg_name (i := 18) nd rfl (Or.inl rfl))) (fun _ _ _ _ _ => pts_nil) (fun _ _ _ _ _ => (C8.pe_c c__law_about hr (by decide) (by rfl) (pa_cons (pv 18) (pa_cons pe_int (pa_cons (pv 11) pa_nil)))))) pa_nil)))
            (C8.pss_cut (ps_set (i := 12) nd rfl (Or.inl rfl) (pe_ifExp (pt_cmpR op_ne (pv 10) pe_int (nomark _)) (C8.pe_c c__law_sign hr (by decide) (by rfl) (pa_cons (pv 4) (pa_cons (pv 14) pa_nil))) pe_int))
            (pss_cons (ps_if (pt_cmpR op_ne (pv 12) pe_int (nomark _))
              (pss_one ps_break)
              pss_nil)
            (C8.pss_cut (ps_if (PW.pt (pw_and (pt_cmpR op_lt (pv 13) pe_int (nomark _)) (pw_and1 (pt_not (pt_val (C8.pe_c c__law_is_told hr (by decide) (by rfl) (pa_cons (pv 6) (pa_cons (pv 4) (pa_cons (pv 14) pa_nil)))))))))
              (pss_one (ps_ret pe_bl))
              pss_nil)
            (pss_one (ps_set (i := 11) nd rfl (Or.inr rfl) (pe_op op_mulW (pv 11) (C8.pe_c c__law_any hr (by decide) (by rfl) (pa_cons (pv 1) (pa_cons (pe_lst (pa_cons pe_int (pa_cons pe_int (pa_cons pe_int pa_nil)))) pa_nil)))))))))))
        (pss_one (ps_if (PW.pt (pw_and (pt_cmpR op_ne (pv 10) pe_int (nomark _)) (pw_and1 (pt_cmpR op_lt (pe_callB (cr_sumK K rfl) (by rfl) T.sum (by decide +kernel) (pa_cons (pe_lc (own := [("_law_powers", 19)]) (g := (gName 19)) (tt := tYes) rfl nd (pi_ddK P w (pv 4)) (blkOk_by (own := [("_law_powers", 19)]) (N := ["_law_script", "_law_hand_here", "_law_turn", "_law_many", "_law_parts_here", "_law_more", "_law_poly_here", "_law_box_here", "_law_sign_here", "_law_points", "_law_worth_here", "_law_by", "_law_found", "_law_again", "_law_near", "_law_k", "_law_stretch_here", "_law_point", "_law_place_here", "_law_powers"]) (sc := C8.fnScope s_law) (by decide +kernel)) (fun _ _ _ _ _ => (pg_name (i := 19) nd rfl (Or.inl rfl))) (fun _ _ _ _ _ => pts_nil) (fun _ _ _ _ _ => (pe_callB call_len_str (by rfl) T.len PySem.boot_len (pa_cons (pe_callTy call_str_int (by rfl) T.str (by decide +kernel) (pa_cons (pe_callB call_abs (by rfl) T.abs (by decide +kernel) (pa_cons (pe_ddgetK P w K (hu_of hr) (pv 4) (pv 19) (fun _ _ => rfl)) pa_nil)) pa_nil)) pa_nil)))) pa_nil)) pe_int (nomark _)))))
          (pss_cons (ps_set (i := 14) nd rfl (Or.inl rfl) (pe_callTy (call_tuple_ofK K) (by rfl) T.tuple (by decide +kernel) (pa_cons (pe_lc (own := [("_law_place_here", 18)]) (g := (gName 18)) (tt := tYes) rfl nd (pi_list (pe_ix (ix_listK K) (pv 9) pe_int (fun _ _ => rfl))) (blkOk_by (own := [("_law_place_here", 18)]) (N := ["_law_script", "_law_hand_here", "_law_turn", "_law_many", "_law_parts_here", "_law_more", "_law_poly_here", "_law_box_here", "_law_sign_here", "_law_points", "_law_worth_here", "_law_by", "_law_found", "_law_again", "_law_near", "_law_k", "_law_stretch_here", "_law_point", "_law_place_here", "_law_powers"]) (sc := C8.fnScope s_law) (by decide +kernel)) (fun _ _ _ _ _ => (pg_name (i := 18) nd rfl (Or.inl rfl))) (fun _ _ _ _ _ => pts_nil) (fun _ _ _ _ _ => (C8.pe_c c__law_about hr (by decide) (by rfl) (pa_cons (pv 18) (pa_cons pe_int (pa_cons (pv 11) pa_nil)))))) pa_nil)))
            (pss_one (ps_if (PW.pt (pw_or (pt_cmpR op_lt (pe_op op_mulW (pv 12) (pv 10)) pe_int (nomark _)) (pw_or1 (pt_not (pt_val (C8.pe_c c__law_is_told hr (by decide) (by rfl) (pa_cons (pv 6) (pa_cons (pv 4) (pa_cons (pv 14) pa_nil)))))))))
              (pss_one (ps_ret pe_bl))
              pss_nil)))
          pss_nil)))))))))))))
    (pss_one (ps_ret pe_bl)))), ?_⟩
    refine ⟨_, rfl, a, ns, rfl, hL, hlen, fun H0 d lc s0 h0 => ?_⟩
    refine ⟨_, rfl, (by decide), (by decide), ?_⟩
    refine for_range (lo := 0) (n := 2) (fun i σ H' => ∃ x2 x3 x4 x5 x6 x7 x8 x9 x10 x11 x12 x13 x14, σ = [some (.ref a), some (.ref d), x2, x3, x4, x5, x6, x7, x8, x9, x10, x11, x12, x13, x14, none, none, none, none, none] ∧ HandAt K H' d lc)
      ⟨_, _, _, _, _, _, _, _, _, _, _, _, _, rfl, h0⟩ (fun i σ H1 hi mm => ?_) (fun σ H' mm => ?_)
    · obtain ⟨x2, x3, x4, x5, x6, x7, x8, x9, x10, x11, x12, x13, x14, rfl, h1⟩ := mm
      -- many
      refine ⟨_, rfl, by show 6 ≤ sizeLine; decide, fun l2 hl2 => ?_⟩
      have s2 : Same H1 (upd H1 l2 (.lst [.int 0, .int 1, .int 1, .int 2, .int 2, .int 3])) := same_new hl2
      refine ⟨d, lc, l2, [0, 1, 1, 2, 2, 3], rfl, h1.same s2, sqL_at, by simp, by show 6 ≤ 100; decide, fun H3 M k3 h3 hM => ?_⟩
      obtain ⟨m, rfl, hm3⟩ : ∃ m : Nat, M = (m : Int) ∧ m ≤ 3 := by
        simp only [List.mem_cons, List.not_mem_nil, or_false] at hM
        exact ⟨M.toNat, by omega, by omega⟩
      -- parts
      refine ⟨fun σ' H' => ∃ f us mo, σ' = [some (.ref a), some (.ref d), some (.int (0 + (i : Nat))), some (.int (m : Nat)), some (.ref f), x5, x6, x7, x8, x9, x10, x11, x12, x13, x14, none, none, none, none, none] ∧ HandAt K H' d lc ∧ DD P w K H' f (toKV us) ∧ (us.map (·.1)).Nodup ∧ us.length ≤ 4 ∧
        (∀ u ∈ us, inBox (Mo m mo) u.1 ∧ u.2.natAbs ≤ 10 ^ 25) ∧ mo ≤ 3 ∧ (m = 3 → mo = 2), ?_, fun σ' H4 m4 => ?_⟩
      · refine ⟨_, rfl, _, rfl, _, rfl, rfl, _, rfl, ?_⟩
        have e3 : decide (V.int ((m : Nat) : Int) = V.int 3) = decide (m = 3) := dec_nat (m := 3)
        rw [e3]
        by_cases c : m = 3
        · rw [decide_eq_true c]
          exact ⟨d, lc, m, 2, 4, rfl, h3, by decide, by decide, by decide, fun H4 f us k4 h4 dd nu hl hu => ⟨f, us, 2, rfl, h4, dd, nu, hl, hu, by decide, fun _ => rfl⟩⟩
        · rw [decide_eq_false c]
          exact ⟨d, lc, m, 3, 4, rfl, h3, by decide, by decide, by decide, fun H4 f us k4 h4 dd nu hl hu => ⟨f, us, 3, rfl, h4, dd, nu, hl, hu, by decide, fun z => absurd z c⟩⟩
      · obtain ⟨f, us, mo, rfl, h4, dd, nu, hul, hus, hmo3, hmm⟩ := m4
        -- more
        refine ⟨fun σ' H' => ∃ us y5, σ' = [some (.ref a), some (.ref d), some (.int (0 + (i : Nat))), some (.int (m : Nat)), some (.ref f), y5, x6, x7, x8, x9, x10, x11, x12, x13, x14, none, none, none, none, none] ∧ HandAt K H' d lc ∧ DD P w K H' f (toKV us) ∧ PartsG us m mo, ?_, fun σ' H5 m5 => ?_⟩
        · refine ⟨_, rfl, d, lc, 2, rfl, h4, by decide, sm (by decide) (by decide), fun H5 y k5 h5 y0 y1 => ?_⟩
          have dd5 := k5.dd h4.is dd
          refine ⟨rfl, _, rfl, ?_⟩
          by_cases c : y = 0
          · rw [c]
            refine ⟨_, rfl, by show 4 ≤ sizeLine; decide, fun l6 hl6 => ?_⟩
            have s6 : Same H5 (upd H5 l6 (.lst [.int 1, .int 30, .int 300, .int 5000])) := same_new hl6
            refine ⟨d, lc, l6, [1, 30, 300, 5000], rfl, h5.same s6, sqL_at, by simp, by show 4 ≤ 100; decide, fun H7 g k7 h7 hg => ?_⟩
            refine ⟨_, rfl, d, lc, 2, rfl, h7, by decide, sm (by decide) (by decide), fun H8 z k8 h8 z0 z1 => ?_⟩
            have hg' : 1 ≤ g ∧ g ≤ 5000 := by
              simp only [List.mem_cons, List.not_mem_nil, or_false] at hg
              omega
            refine ⟨_, _, rfl, rfl, cmul_s (by decide) (sm (by omega) (by decide)), _, _, rfl, rfl, _, _, rfl, rfl, cmul_s (sm (by omega) (by decide)) (sm (by omega) (by decide)), ?_⟩
            have hmore : (g * (1 - 2 * z)).natAbs ≤ 5000 := by
              rcases (show z = 0 ∨ z = 1 by omega) with e | e
              · rw [e]
                omega
              · rw [e]
                omega
            have k58 : Kp d H5 H8 := (Kp.of s6).trans (k7.trans k8)
            have dd8 := k58.dd h5.is dd5
            refine ⟨_, rfl, _, rfl, ⟨_, dd8⟩, by show 4 ≤ sizeLine; decide, fun p1 hp1 => ?_⟩
            have sp1 : Same H8 (upd H8 p1 (.tup [.int 0, .int 0, .int 0, .int 0])) := same_new hp1
            have dd9 := dd8.same sp1
            refine ⟨p1, _, [0, 0, 0, 0], rfl, dd9, sqT_at, _, rfl, _, _, get_int us _, rfl, ?_⟩
            refine ⟨_, rfl, by show 4 ≤ sizeLine; decide, fun p2 hp2 => ?_⟩
            have sp2 : Same (upd H8 p1 (.tup [.int 0, .int 0, .int 0, .int 0])) (upd (upd H8 p1 (.tup [.int 0, .int 0, .int 0, .int 0])) p2 (.tup [.int 0, .int 0, .int 0, .int 0])) := same_new hp2
            have dd10 := dd9.same sp2
            refine ⟨f, p2, toKV us, [0, 0, 0, 0], rfl, rfl, dd10, by rw [length_toKV]; exact Nat.lt_of_le_of_lt hul (by decide), sqT_at, fun o' d' kp => ?_⟩
            have h10 := (h8.same sp1).same sp2
            have hf : f ≠ d ∧ f ≠ lc := by
              obtain ⟨_, _, ef, _⟩ := dd10
              obtain ⟨_, _, _, _, _, g1, g2, _⟩ := h10
              exact ⟨(fun z => by rw [z, g1] at ef; cases ef), (fun z => by rw [z, g2] at ef; cases ef)⟩
            refine ⟨addT us [0, 0, 0, 0] (g * (1 - 2 * z)), _, rfl, ?_, ?_, nodup_addT nu, ?_, fun u hu => ?_, fun u hu => ?_, hm3, hmo3, hmm⟩
            · obtain ⟨cs, a1, b1, c1, e1, g1, g2, gr⟩ := h10
              exact ⟨cs, a1, b1, c1, e1, by rw [upd_ne (Ne.symm hf.1)]; exact g1, by rw [upd_ne (Ne.symm hf.2)]; exact g2, gr⟩
            · rw [← putK_addT nu]
              exact d' dd10
            · have := length_addT us [0, 0, 0, 0] (g * (1 - 2 * z))
              omega
            · rcases mem_addT hu with h | ⟨cc, _, e⟩
              · exact (hus u h).1
              · rw [e]
                exact zero_box m mo
            · rcases mem_addT hu with h | ⟨cc, hc, e⟩
              · have := (hus u h).2
                omega
              · rw [e]
                show (cc + g * (1 - 2 * z)).natAbs ≤ 10 ^ 25 + 5000
                rcases hc with hc | hc
                · have : cc.natAbs ≤ 10 ^ 25 := (hus _ hc).2
                  omega
                · omega
          · rw [decide_eq_false fun z => c (by cases z; rfl)]
            exact ⟨us, _, rfl, h5, dd5, nu, by omega, fun u hu => (hus u hu).1, fun u hu => by have := (hus u hu).2; omega, hm3, hmo3, hmm⟩
        · clear dd nu hul hus h4
          obtain ⟨us, y5, rfl, h5, dd, pg⟩ := m5
          -- poly, box
          refine ⟨_, rfl, f, us, rfl, dd, pg.nd, fun u hu => pg.l4 hu, Nat.lt_of_le_of_lt pg.l5 (by decide), fun H6 p ts s6 hP hperm => ?_⟩
          refine ⟨_, rfl, _, rfl, _, rfl, _, rfl, by show 3 ≤ sizeLine; decide, fun l7 hl7 => ?_⟩
          have s7 : Same H6 (upd H6 l7 (.lst [.int (m : Nat), .int (m : Nat), .int 3])) := same_new hl7
          refine ⟨d, lc, l7, [((m : Nat) : Int), ((m : Nat) : Int), 3], rfl, (h5.same s6).same s7, sqL_at, by simp, by show 3 ≤ 100; decide, fun H8 N k8 h8 hN => ?_⟩
          obtain ⟨n, rfl, hn3, hmn⟩ : ∃ n : Nat, N = (n : Int) ∧ n ≤ 3 ∧ m ≤ n := by
            simp only [List.mem_cons, List.not_mem_nil, or_false] at hN
            exact ⟨N.toNat, by omega, by omega, by omega⟩
          have hP8 := k8.poly ((h5.same s6).same s7).is (hP.same s7)
          have dd8 := k8.dd ((h5.same s6).same s7).is ((dd.same s6).same s7)
          refine ⟨d, lc, n, rfl, h8, hn3, fun H9 bx bs k9 h9 hB hbl hbs => ?_⟩
          have hP9 := k9.poly h8.is hP8
          have dd9 := k9.dd h8.is dd8
          refine ⟨by show 2 ≤ sizeLine; decide, fun tt htt => ⟨_, _, rfl, sqT_at, rfl, _, _, rfl, _, _, rfl, rfl, ?_⟩⟩
          have s10 : Same H9 (upd H9 tt (.tup [.ref p, .ref bx])) := same_new htt
          generalize upd H9 tt (.tup [.ref p, .ref bx]) = H10 at s10 ⊢
          have h10 := h9.same s10
          have hP10 := hP9.same s10
          have dd10 := dd9.same s10
          have hB10 := hB.same s10
          clear hP hP8 hP9 dd8 dd9 hB s7 s6 k8 k9 h8 h9 s10 h5 dd
          have hok : ∀ z ∈ bs, z.Ok := fun z hz => (hbs z hz).1
          subst hbl
          -- is_told
          refine ⟨_, rfl, _, rfl, _, rfl, p, f, bx, us, ts, bs, m, mo, rfl, hP10, hperm, dd10, hB10, hok, hn3, pg, hmn, fun H11 s11 => ⟨true, rfl, ?_⟩⟩
          -- the sign
          refine ⟨_, rfl, _, rfl, f, bx, us, bs, rfl, dd10.same s11, hB10.same s11, hok, hn3, pg.ok hn3, fun H12 s12 => ?_⟩
          have s1012 := s11.trans s12
          have h12 := h10.same s1012
          have hP12 := hP10.same s1012
          have dd12 := dd10.same s1012
          obtain ⟨vs, hT, hBs⟩ := hB10.same s1012
          have hvl := paired_len hBs
          clear hP10 dd10 hB10 s11 s12 s1012 h10
          -- points
          refine ⟨_, rfl, by decide, by decide, fun D hD => ?_⟩
          refine lc_range (lo := 0) (n := 3) (AccH K d lc H12 D fun j y H => ∃ l pts, y = .ref l ∧ l ≠ D ∧ PointAt K H l pts ∧ Paired InS bs pts ∧ ∀ pt ∈ pts, PtSmall pt) (accH_zero h12 hD) (fun j H13 hj a13 => ?_) (fun H13 a13 => ?_)
          · have k1213 := a13.1
            have h13 := a13.2.1
            obtain ⟨acc13, ea13, _⟩ := a13.2.2
            refine ⟨rfl, _, rfl, _, rfl, ⟨_, k1213.tup h12.is hT⟩, fun D2 hD2 => ?_⟩
            have hDD : D2 ≠ D := fun z => by
              rw [z, ea13] at hD2
              cases hD2
            refine lc_tup (K := K) (a := bx) (xs := vs) (AccH K d lc H13 D2 fun j y H => ∃ z pt, bs[j]? = some z ∧ PlaceAt K H y pt ∧ InS z pt ∧ PtSmall pt) (accH_zero h13 hD2) (fun e H14 _ a14 => (k1213.trans a14.1).tup h12.is hT) (fun e x H14 hx a14 => ?_) (fun H14 a14 => ?_)
            · obtain ⟨z, hz, hst⟩ := paired_at hBs hx
              have hz2 := hbs z (List.mem_of_getElem? hz)
              have he : e < bs.length := (List.getElem?_eq_some_iff.mp hz).1
              refine ⟨rfl, _, rfl, _, rfl, d, lc, x, z, rfl, a14.2.1, (k1213.trans a14.1).stretch h12.is hst, hz2.1, hz2.2, fun H15 r pt k15 h15 hpl hin hsm => ?_⟩
              exact accH_step h13 hD2 (fun j y Ha Hb o ⟨z, pt, e1, e2, e3⟩ => ⟨z, pt, e1, o.place e2, e3⟩) a14 (by omega) k15 h15 ⟨z, pt, hz, hpl, hin, hsm⟩
            · obtain ⟨k14, h14, acc, ea, hal, hr⟩ := a14
              obtain ⟨pts, hpl, hpts⟩ := choose_ix (xs := acc) (F := fun j y pt => ∃ z, bs[j]? = some z ∧ PlaceAt K H14 y pt ∧ InS z pt ∧ PtSmall pt) fun j y hy => by
                obtain ⟨z, pt, e1⟩ := hr j y hy
                exact ⟨pt, z, e1⟩
              refine accH_step h12 hD (fun j y Ha Hb o ⟨l, pts, e1, e2, e3, e4⟩ => ⟨l, pts, e1, e2, o.point e2 e3, e4⟩) a13 (by omega) k14 h14 ⟨D2, pts, rfl, hDD, ⟨acc, ea, paired_of hpl.symm fun j x y hx hy => ?_⟩, paired_of (by omega) fun j z pt hz hpt => ?_, fun pt hpt => ?_⟩
              · obtain ⟨z, _, e2, _⟩ := hpts j x y hx hy
                exact e2
              · have hj : j < acc.length := by
                  have := (List.getElem?_eq_some_iff.mp hpt).1
                  omega
                obtain ⟨z', e1, _, e3, _⟩ := hpts j _ pt (List.getElem?_eq_getElem hj) hpt
                rw [hz] at e1
                cases e1
                exact e3
              · obtain ⟨j, hj⟩ := List.mem_iff_getElem?.mp hpt
                have hjl : j < acc.length := by
                  have := (List.getElem?_eq_some_iff.mp hj).1
                  omega
                obtain ⟨z', _, _, _, e4⟩ := hpts j _ pt (List.getElem?_eq_getElem hjl) hj
                exact e4
          · obtain ⟨k13, h13, lp, elp, hlpl, hlp⟩ := a13
            have hP13 := k13.poly h12.is hP12
            have dd13 := k13.dd h12.is dd12
            clear hP12 dd12 hT hBs hvl h12 hD
            have wok : ∀ (l : Addr) (pts : List (Int × Int)), Paired InS bs pts → (∀ pt ∈ pts, PtSmall pt) → pts.length = bs.length ∧ (∀ pt ∈ pts, 0 < pt.2 ∧ PtSmall pt) ∧ (∀ u ∈ us, ∀ k, gk u.1 k ≤ 3 ∧ (pts.length ≤ k → gk u.1 k = 0)) := fun l pts hIn hSm => by
              have hl := paired_len hIn
              refine ⟨hl.symm, fun pt hpt => ?_, fun u hu k => ?_⟩
              · obtain ⟨z, _, hz⟩ := paired_get hIn pt hpt
                exact ⟨hz.q0, hSm pt hpt⟩
              · have g := pg.gk hu k
                have := pg.mo3
                refine ⟨by split at g <;> omega, fun hk => ?_⟩
                rw [if_neg (by omega)] at g
                omega
            -- all the signs
            generalize hS : lawSign us bs = S at *
            have hSb : S.natAbs ≤ 1 := by
              rcases sgnAll_cases (lawIdx (degs us bs.length)) (fun idx => lin (nz us) (prodL (bzL bs (degs us bs.length)) idx)) with e | e | e
              · have : lawSign us bs = 1 := e
                omega
              · have : lawSign us bs = -1 := e
                omega
              · have : lawSign us bs = 0 := e
                omega
            have cmS : ∀ {x y : Int}, x.natAbs < 2 ^ 20000 → y.natAbs ≤ 1 → CMulW x y := fun h1 h2 => wide_mul h1 (b := 10) (Nat.lt_of_le_of_lt h2 (by decide)) (by decide) (by decide) (by decide)
            have worthS : ∀ (pts : List (Int × Int)) (t A B : Int), 0 < A → 0 < B → A * t = B * lin us (prodQ (degs us pts.length) pts) → ∀ sg : Int, 0 < sg * worthAt us pts → 0 < sg * t := fun pts t A B hA hB heq sg hsg => by
              have e1 : A * (sg * t) = B * (sg * worthAt us pts) := by
                have h1 : A * (sg * t) = sg * (A * t) := by grind
                rw [h1, heq]
                unfold worthAt
                grind
              exact pos_r hA (by rw [e1]; exact Int.mul_pos hB hsg)
            refine ⟨_, rfl, _, rfl, ⟨_, SqL.of elp⟩, fun D3 hD3 => ?_⟩
            refine lc_list (K := K) (a := D) (xs := lp) (Acc H13 D3 fun j y H => y = .bl true) (acc_zero hD3) (fun j H14 _ a14 => SqL.of (a14.1 _ _ elp)) (fun j x H14 hx a14 => ?_) (fun H14 a14 => ?_)
            · obtain ⟨l, pts, rfl, hlD, hPt, hIn, hSm⟩ := hlp j x hx
              have hj3 : j < 3 := by
                have := (List.getElem?_eq_some_iff.mp hx).1
                omega
              refine ⟨rfl, _, rfl, rfl, _, rfl, ?_⟩
              by_cases c : S = 0
              · rw [c]
                exact acc_step hD3 (fun j y Ha Hb st e => e) a14 (by omega) (Same.refl _) rfl
              · rw [decide_eq_false fun z => c (V.int.inj z)]
                obtain ⟨w1, w2, w3⟩ := wok l pts hIn hSm
                obtain ⟨xs9, e9, hp9⟩ := same_point a14.1 hPt
                refine ⟨_, rfl, _, rfl, f, l, us, xs9, pts, rfl, dd13.same a14.1, SqL.of e9, hp9, w2, by rw [w1]; exact pg.ok hn3, w3, by omega, fun H15 r t u A B s15 hr hA hB heq htb => ?_⟩
                have hpos := worthS pts t A B hA hB heq S (by rw [← hS]; exact sign_place pg hmn hn3 hok hIn (by rw [hS]; exact c))
                refine ⟨_, _, _, _, rfl, rfl, hr, rfl, _, rfl, _, _, rfl, rfl, cmS htb hSb, _, _, rfl, rfl, ?_⟩
                have eb : decide ((0 : Int) < t * S) = true := decide_eq_true (by rw [Int.mul_comm]; exact hpos)
                exact acc_step hD3 (fun j y Ha Hb st e => e) a14 (by omega) s15 (by show V.bl (decide ((0 : Int) < t * S)) = V.bl true; rw [eb])
            · obtain ⟨s14, acc, ea, hal, hr⟩ := a14
              have eacc : acc = (List.replicate acc.length true).map V.bl := by
                apply List.ext_getElem?
                intro j
                rw [List.getElem?_map]
                by_cases c : j < acc.length
                · rw [List.getElem?_replicate, if_pos c, List.getElem?_eq_getElem c, hr j _ (List.getElem?_eq_getElem c)] <;> rfl
                · rw [List.getElem?_eq_none (by omega), List.getElem?_eq_none (by simp; omega)] <;> rfl
              refine ⟨D3, List.replicate acc.length true, rfl, SqL.of (by rw [← eacc]; exact ea), true, ?_, ?_⟩
              · rw [show (List.replicate acc.length true).all id = true by simp]
              clear eacc hr hal ea acc hD3
              have h14 := h13.same s14
              have hP14 := hP13.same s14
              have dd14 := dd13.same s14
              have elp14 := s14 _ _ elp
              -- worth_here, by, found
              have h03 : 0 < lp.length := by omega
              obtain ⟨l0, pts, e0, hlD, hPt, hIn, hSm⟩ := hlp 0 _ (List.getElem?_eq_getElem h03)
              have at0 : atI lp 0 = some (.ref l0) := by
                have := atI_nat (xs := lp) (j := 0) (List.getElem?_eq_getElem h03)
                rw [e0] at this
                exact this
              obtain ⟨w1, w2, w3⟩ := wok l0 pts hIn hSm
              obtain ⟨xs9, e9, hp9⟩ := same_point s14 hPt
              refine ⟨_, rfl, _, rfl, _, _, _, _, rfl, rfl, SqL.of elp14, at0, f, l0, us, xs9, pts, rfl, dd14, SqL.of e9, hp9, w2, by rw [w1]; exact pg.ok hn3, w3, by omega, fun H15 r t u A B s15 hr hA hB heq htb => ?_⟩
              have hsgn := worthS pts t A B hA hB heq
              refine ⟨_, _, _, _, rfl, rfl, hr, rfl, by show 3 ≤ sizeLine; decide, fun tt htt => ⟨_, _, rfl, sqT_at, rfl, _, _, rfl, _, _, rfl, _, _, rfl, rfl, ?_⟩⟩
              have s16 : Same H14 (upd H15 tt (.tup [.int t, .int 1, .int 0])) := s15.trans (same_new htt)
              generalize upd H15 tt (.tup [.int t, .int 1, .int 0]) = H16 at s16 ⊢
              have h16 := h14.same s16
              have hP16 := hP14.same s16
              have dd16 := dd14.same s16
              have elp16 := s16 _ _ elp14
              have hPt16 := same_point (s14.trans s16) hPt
              clear hP14 dd14 h14 elp14 hPt s15 s14 hr htt s16
              have near_sign : ∀ y : Nat, 1 ≤ y → y ≤ 2 ^ 96 → (∀ z ∈ nearB pts (y : Int), z.Ok) ∧ (nearB pts (y : Int)).length = bs.length ∧ (lawSign us (nearB pts (y : Int)) = 0 ∨ 0 < lawSign us (nearB pts (y : Int)) * t) ∧ (lawSign us (nearB pts (y : Int))).natAbs ≤ 1 := fun y hy1 hy2 => by
                have hy3 : ((y : Nat) : Int) ≤ 2 ^ 96 := by
                  have : ((2 ^ 96 : Nat) : Int) = (2 : Int) ^ 96 := by decide
                  omega
                obtain ⟨n1, n2⟩ := nearB_ok w2 (show (0 : Int) < ((y : Nat) : Int) by omega) hy3
                have nl : (nearB pts ((y : Nat) : Int)).length = bs.length := by
                  unfold nearB
                  rw [List.length_map, w1]
                refine ⟨n1, nl, ?_, ?_⟩
                · by_cases c : lawSign us (nearB pts ((y : Nat) : Int)) = 0
                  · exact .inl c
                  · exact .inr (hsgn _ (sign_place pg (by omega) (by omega) n1 n2 c))
                · rcases sgnAll_cases (lawIdx (degs us (nearB pts ((y : Nat) : Int)).length)) (fun idx => lin (nz us) (prodL (bzL (nearB pts ((y : Nat) : Int)) (degs us (nearB pts ((y : Nat) : Int)).length)) idx)) with e | e | e
                  · have : lawSign us (nearB pts ((y : Nat) : Int)) = 1 := e
                    omega
                  · have : lawSign us (nearB pts ((y : Nat) : Int)) = -1 := e
                    omega
                  · have : lawSign us (nearB pts ((y : Nat) : Int)) = 0 := e
                    omega
              have nearBox : ∀ (H Hx : Hp) (Dn tb : Addr) (y : Nat), Acc H Dn (fun j v H' => ∃ r pt, v = .ref r ∧ pts[j]? = some pt ∧ StretchAt K H' (.ref r) (nearS pt (y : Int))) pts.length Hx → Hx tb = none → ∃ acc, Hx Dn = some (.lst acc) ∧ BoxAt K (upd Hx tb (.tup acc)) tb (nearB pts (y : Int)) := fun H Hx Dn tb y aa htb => by
                obtain ⟨s, acc, ea, hal, hr⟩ := aa
                refine ⟨acc, ea, acc, sqT_at, paired_of (by unfold nearB; rw [List.length_map, hal]) fun j v z hv hz => ?_⟩
                obtain ⟨r, pt, e1, e2, e3⟩ := hr j v hv
                unfold nearB at hz
                rw [List.getElem?_map, e2] at hz
                cases hz
                rw [e1]
                exact e3.same (same_new htb)
              obtain ⟨xs0, el0, hp0⟩ := id hPt16
              have hxl0 := paired_len hp0
              refine ⟨fun σ' H' => ∃ (y : Nat) (g : Int) (z13 z14 : Option V), σ' = [some (.ref a), some (.ref d), some (.int (0 + (i : Nat))), some (.int (m : Nat)), some (.ref f), y5, some (.ref p), some (.ref bx), some (.int S), some (.ref D), some (.int t), some (.int (y : Nat)), some (.int g), z13, z14, none, none, none, none, none] ∧
                1 ≤ y ∧ y ≤ 2 ^ 96 ∧ (g = 0 ∨ 0 < g * t) ∧ g.natAbs ≤ 1 ∧ HandAt K H' d lc ∧ Kp d H16 H', ?_, fun σ' H17 m17 => ?_⟩
              · refine ⟨_, rfl, (by decide), (by decide), ?_⟩
                refine for_range (lo := 0) (n := 24) (fun e σ H' => ∃ (y : Nat) (z13 z14 : Option V), σ = [some (.ref a), some (.ref d), some (.int (0 + (i : Nat))), some (.int (m : Nat)), some (.ref f), y5, some (.ref p), some (.ref bx), some (.int S), some (.ref D), some (.int t), some (.int (y : Nat)), some (.int 0), z13, z14, none, none, none, none, none] ∧
                  1 ≤ y ∧ y ≤ 16 ^ e ∧ HandAt K H' d lc ∧ Kp d H16 H') ⟨1, _, _, rfl, by decide, by decide, h16, Kp.refl⟩ (fun e σ H17 he m17 => ?_) (fun σ H17 m17 => ?_)
                · obtain ⟨y, z13, z14, rfl, hy1, hy2, h17, k17⟩ := m17
                  have hy96 : y ≤ 2 ^ 96 := by
                    have h1 : (16 : Nat) ^ e ≤ 16 ^ 24 := Nat.pow_le_pow_right (by decide) (by omega)
                    have h2 : (16 : Nat) ^ 24 = 2 ^ 96 := by decide
                    omega
                  have elp17 := k17.lst h16.is elp16
                  obtain ⟨el17, hp17⟩ : H17 l0 = some (.lst xs0) ∧ Paired (PlaceAt K H17) xs0 pts := ⟨k17.lst h16.is el0, paired_mono (fun _ _ x => k17.place h16.is x) hp0⟩
                  have dd17 := k17.dd h16.is dd16
                  have hP17 := k17.poly h16.is hP16
                  obtain ⟨nok, nlen, nsg, nsb⟩ := near_sign y hy1 hy96
                  -- near
                  have e13 : e < 24 := he
                  refine ⟨_, rfl, _, _, _, _, rfl, rfl, SqL.of elp17, at0, _, rfl, ⟨_, SqL.of el17⟩, fun Dn hDn => ?_⟩
                  refine lc_list (K := K) (a := l0) (xs := xs0) (Acc H17 Dn fun j v H' => ∃ r pt, v = .ref r ∧ pts[j]? = some pt ∧ StretchAt K H' (.ref r) (nearS pt (y : Int))) (acc_zero hDn) (fun e Hx _ aa => SqL.of (aa.1 _ _ el17)) (fun e x Hx hx aa => ?_) (fun Hx aa => ?_)
                  · obtain ⟨pt, hpt, hpl⟩ := paired_at hp17 hx
                    obtain ⟨q0, sml⟩ := w2 pt (List.mem_of_getElem? hpt)
                    have he : e < pts.length := (List.getElem?_eq_some_iff.mp hpt).1
                    have hy3 : ((y : Nat) : Int) ≤ 2 ^ 96 := by
                      have : ((2 ^ 96 : Nat) : Int) = (2 : Int) ^ 96 := by decide
                      omega
                    refine ⟨rfl, _, rfl, _, rfl, x, pt, ((y : Nat) : Int), rfl, same_place aa.1 hpl, q0, sml, by omega, hy3, fun H' r s hr => ?_⟩
                    exact acc_step hDn (fun j v Ha Hb st ⟨r, pt, e1, e2, e3⟩ => ⟨r, pt, e1, e2, st.stretch e3⟩) aa (by omega) s ⟨r, pt, rfl, hpt, hr⟩
                  · rw [hxl0] at aa
                    have sx := aa.1
                    obtain ⟨acc, ea, _⟩ := aa.2
                    refine ⟨Dn, acc, rfl, .inl ⟨SqL.of ea, fun nb hnb => ?_⟩⟩
                    obtain ⟨acc', ea', hNB⟩ := nearBox H17 Hx Dn nb y aa hnb
                    obtain rfl : acc' = acc := by
                      rw [ea] at ea'
                      cases ea'
                      rfl
                    have s18 : Same H17 (upd Hx nb (.tup acc')) := sx.trans (same_new hnb)
                    generalize upd Hx nb (.tup acc') = H18 at hNB s18 ⊢
                    have k18 : Kp d H16 H18 := k17.trans (Kp.of s18)
                    have h18 := h17.same s18
                    have dd18 := dd17.same s18
                    have hP18 := hP17.same s18
                    -- found
                    refine ⟨fun σ' H' => ∃ g : Int, σ' = [some (.ref a), some (.ref d), some (.int (0 + (i : Nat))), some (.int (m : Nat)), some (.ref f), y5, some (.ref p), some (.ref bx), some (.int S), some (.ref D), some (.int t), some (.int (y : Nat)), some (.int g), some (.int (0 + (e : Nat))), some (.ref nb), none, none, none, none, none] ∧
                      (g = 0 ∨ 0 < g * t) ∧ g.natAbs ≤ 1 ∧ Same H18 H', ?_, fun σ' H19 m19 => ?_⟩
                    · refine ⟨_, rfl, rfl, _, rfl, ?_⟩
                      rw [dec_ne]
                      by_cases c : t = 0
                      · rw [decide_eq_false fun z => z c]
                        exact ⟨0, rfl, .inl rfl, by decide, Same.refl _⟩
                      · rw [decide_eq_true c]
                        exact ⟨_, rfl, _, rfl, f, nb, us, nearB pts (y : Int), rfl, dd18, hNB, nok, by omega, pg.ok (by omega), fun H19 s19 => ⟨_, rfl, nsg, nsb, s19⟩⟩
                    · obtain ⟨g, rfl, hg, hgb, s19⟩ := m19
                      refine ⟨_, rfl, rfl, _, rfl, ?_⟩
                      rw [dec_ne]
                      by_cases c : g = 0
                      · rw [decide_eq_false fun z => z c]
                        subst c
                        refine ⟨fun σ' H' => σ' = [some (.ref a), some (.ref d), some (.int (0 + (i : Nat))), some (.int (m : Nat)), some (.ref f), y5, some (.ref p), some (.ref bx), some (.int S), some (.ref D), some (.int t), some (.int (y : Nat)), some (.int 0), some (.int (0 + (e : Nat))), some (.ref nb), none, none, none, none, none] ∧ Same H18 H', ?_, fun σ' H20 m20 => ?_⟩
                        · refine ⟨_, rfl, _, _, rfl, rfl, _, rfl, ?_⟩
                          by_cases c2 : (0 : Int) + ((e : Nat) : Int) < 4
                          · rw [decide_eq_true c2]
                            refine ⟨_, rfl, _, rfl, _, rfl, p, f, nb, us, ts, nearB pts (y : Int), m, mo, rfl, hP18.same s19, hperm, dd18.same s19, hNB.same s19, nok, by omega, pg, by omega, fun H20 s20 => ⟨true, rfl, ?_⟩⟩
                            exact ⟨rfl, s19.trans s20⟩
                          · rw [decide_eq_false c2]
                            exact ⟨rfl, s19⟩
                        · obtain ⟨rfl, s20⟩ := m20
                          have h20 := h18.same s20
                          refine ⟨_, rfl, _, rfl, by show 3 ≤ sizeLine; decide, fun l21 hl21 => ?_⟩
                          have s21 : Same H20 (upd H20 l21 (.lst [.int 2, .int 2, .int 16])) := same_new hl21
                          refine ⟨d, lc, l21, [2, 2, 16], rfl, h20.same s21, sqL_at, by simp, by show 3 ≤ 100; decide, fun H22 w16 k22 h22 hw => ?_⟩
                          have hw' : w16 = 2 ∨ w16 = 16 := by
                            simp only [List.mem_cons, List.not_mem_nil, or_false] at hw
                            omega
                          have yb : ((y : Nat) : Int).natAbs < 2 ^ 1000 := Nat.lt_of_le_of_lt (show ((y : Nat) : Int).natAbs ≤ 2 ^ 96 by omega) (Nat.pow_lt_pow_right (by decide) (by decide))
                          refine ⟨_, _, rfl, rfl, cmul_s yb (sm (by omega) (by decide)), ?_⟩
                          have hyN : y * 16 ≤ 16 ^ (e + 1) := by
                            rw [Nat.pow_succ]
                            omega
                          have k16 : Kp d H16 H22 := k18.trans ((Kp.of (s20.trans s21)).trans k22)
                          refine ⟨y * w16.toNat, some (.int (0 + (e : Nat))), some (.ref nb), ?_, ?_, ?_, h22, k16⟩
                          · have ew : ((y : Nat) : Int) * w16 = ((y * w16.toNat : Nat) : Int) := by
                              rcases hw' with h | h <;> rw [h] <;> simp
                            show ([some (.ref a), some (.ref d), some (.int (0 + (i : Nat))), some (.int (m : Nat)), some (.ref f), y5, some (.ref p), some (.ref bx), some (.int S), some (.ref D), some (.int t), some (.int (((y : Nat) : Int) * w16)), some (.int 0), some (.int (0 + (e : Nat))), some (.ref nb), none, none, none, none, none] : St) = _
                            rw [ew]
                          · rcases hw' with h | h <;> rw [h]
                            · show 1 ≤ y * 2
                              omega
                            · show 1 ≤ y * 16
                              omega
                          · rcases hw' with h | h <;> rw [h]
                            · show y * 2 ≤ _
                              omega
                            · show y * 16 ≤ _
                              omega
                      · rw [decide_eq_true c]
                        exact ⟨y, g, _, _, rfl, hy1, hy96, hg, hgb, h18.same s19, k18.trans (Kp.of s19)⟩
                · obtain ⟨y, z13, z14, rfl, hy1, hy2, h17, k17⟩ := m17
                  have h2 : (16 : Nat) ^ 24 = 2 ^ 96 := by decide
                  exact ⟨y, 0, _, _, rfl, hy1, by omega, .inl rfl, by decide, h17, k17⟩
              · obtain ⟨y, g, z13, z14, rfl, hy1, hy2, hg, hgb, h17, k17⟩ := m17
                have elp17 := k17.lst h16.is elp16
                obtain ⟨el17, hp17⟩ : H17 l0 = some (.lst xs0) ∧ Paired (PlaceAt K H17) xs0 pts := ⟨k17.lst h16.is el0, paired_mono (fun _ _ x => k17.place h16.is x) hp0⟩
                have dd17 := k17.dd h16.is dd16
                have hP17 := k17.poly h16.is hP16
                obtain ⟨nok, nlen, nsg, nsb⟩ := near_sign y hy1 hy2
                refine ⟨_, rfl, rfl, _, rfl, ?_⟩
                rw [dec_ne]
                by_cases ct : t = 0
                · rw [decide_eq_false fun z => z ct]
                  exact ⟨_, _, _, _, _, _, _, _, _, _, _, _, _, rfl, h17⟩
                · rw [decide_eq_true ct]
                  -- the sum of the lengths
                  obtain ⟨es, eo, ee, ek, et⟩ := id dd17
                  have at_us : ∀ (j : Nat) p, es[j]? = some p → ∃ u, us[j]? = some u ∧ p.1 = u.1 := fun j p hp => by
                    have h1 : (kvOf es)[j]? = (toKV us)[j]? := by rw [ek]
                    unfold kvOf toKV at h1
                    rw [List.getElem?_map, List.getElem?_map, hp] at h1
                    cases hu : us[j]? with
                    | none =>
                      rw [hu] at h1
                      cases h1
                    | some u =>
                      rw [hu] at h1
                      exact ⟨u, rfl, congrArg (·.1) (Option.some.inj h1)⟩
                  refine ⟨_, rfl, _, es, eo, rfl, ee, fun D5 hD5 => ?_⟩
                  refine lc_dd (P := P) (w := w) (d := f) (xs := es) (o := eo) (fun j H' => ∃ ns : List Int, ns.length = j ∧ H' = upd H17 D5 (.lst (ns.map V.int))) ⟨[], rfl, rfl⟩ (fun j H' _ ⟨ns, _, e⟩ => by rw [e]; exact same_new hD5 _ _ ee) (fun j p H' hp ⟨ns, hnl, e⟩ => ?_) (fun H' ⟨ns, hnl, e⟩ => ?_)
                  · subst e
                    obtain ⟨u, hu, e3⟩ := at_us j p hp
                    have hum := List.mem_of_getElem? hu
                    have hj5 : j < us.length := (List.getElem?_eq_some_iff.mp hu).1
                    have hul := pg.l5
                    have s5 : Same H17 (upd H17 D5 (.lst (ns.map V.int))) := same_new hD5
                    have tq := same_tup s5 (et p (List.mem_of_getElem? hp))
                    rw [e3] at tq
                    have hv : valV (toKV us) u.1 = some (.int u.2) := by rw [valV_toKV, getT_mem pg.nd hum] <;> rfl
                    have hcb := pg.cb u hum
                    have hab : (if u.2 < 0 then -u.2 else u.2).natAbs ≤ 10 ^ 25 + 5000 := by split <;> omega
                    have ha0 : 0 ≤ (if u.2 < 0 then -u.2 else u.2) := by split <;> omega
                    have hlg : (if u.2 < 0 then -u.2 else u.2).natAbs.log2 < 1920 := Nat.lt_of_lt_of_le (PySem.Flt.log2_lt_of (k := 100) (by decide) (Nat.lt_of_le_of_lt hab (by decide))) (by decide)
                    have hln := PyProof.Rows.toString_length_le ha0 (k := 30) (by decide) (by omega)
                    refine ⟨rfl, _, rfl, _, rfl, _, _, _, _, _, rfl, rfl, dd17.same s5, tq, hv, _, rfl, _, rfl, hlg, _, rfl, Nat.le_trans hln (by decide), ?_⟩
                    refine ⟨_, upd_same, by rw [List.length_map, hnl]; exact Nat.lt_of_lt_of_le (show j < 64 by omega) (by decide), ns ++ [(((PySem.Str.ofString (toString (if u.2 < 0 then -u.2 else u.2))).length : Nat) : Int)], by rw [List.length_append, hnl] <;> rfl, ?_⟩
                    rw [upd_upd, List.map_append] <;> rfl
                  · subst e
                    have s5 : Same H17 (upd H17 D5 (.lst (ns.map V.int))) := same_new hD5
                    refine ⟨D5, ns, rfl, sqL_at, ?_⟩
                    refine ⟨_, _, rfl, rfl, _, rfl, ?_⟩
                    generalize upd H17 D5 (.lst (ns.map V.int)) = H18 at s5 ⊢
                    have h18 := h17.same s5
                    by_cases c20 : ns.sum < 20
                    · rw [decide_eq_true c20]
                      have elp18 := s5 _ _ elp17
                      have el18 := s5 _ _ el17
                      have hp18 := paired_mono (fun _ _ x => same_place s5 x) hp17
                      have dd18 := dd17.same s5
                      have hP18 := hP17.same s5
                      refine ⟨_, rfl, _, _, _, _, rfl, rfl, SqL.of elp18, at0, _, rfl, ⟨_, SqL.of el18⟩, fun Dn hDn => ?_⟩
                      refine lc_list (K := K) (a := l0) (xs := xs0) (Acc H18 Dn fun j v H' => ∃ r pt, v = .ref r ∧ pts[j]? = some pt ∧ StretchAt K H' (.ref r) (nearS pt (y : Int))) (acc_zero hDn) (fun e Hx _ aa => SqL.of (aa.1 _ _ el18)) (fun e x Hx hx aa => ?_) (fun Hx aa => ?_)
                      · obtain ⟨pt, hpt, hpl⟩ := paired_at hp18 hx
                        obtain ⟨q0, sml⟩ := w2 pt (List.mem_of_getElem? hpt)
                        have he : e < pts.length := (List.getElem?_eq_some_iff.mp hpt).1
                        have hy3 : ((y : Nat) : Int) ≤ 2 ^ 96 := by
                          have : ((2 ^ 96 : Nat) : Int) = (2 : Int) ^ 96 := by decide
                          omega
                        refine ⟨rfl, _, rfl, _, rfl, x, pt, ((y : Nat) : Int), rfl, same_place aa.1 hpl, q0, sml, by omega, hy3, fun H' r s hr => ?_⟩
                        exact acc_step hDn (fun j v Ha Hb st ⟨r, pt, e1, e2, e3⟩ => ⟨r, pt, e1, e2, st.stretch e3⟩) aa (by omega) s ⟨r, pt, rfl, hpt, hr⟩
                      · rw [hxl0] at aa
                        have sx := aa.1
                        obtain ⟨acc, ea, _⟩ := aa.2
                        refine ⟨Dn, acc, rfl, .inl ⟨SqL.of ea, fun nb hnb => ?_⟩⟩
                        obtain ⟨acc', ea', hNB⟩ := nearBox H18 Hx Dn nb y aa hnb
                        obtain rfl : acc' = acc := by
                          rw [ea] at ea'
                          cases ea'
                          rfl
                        have s19 : Same H18 (upd Hx nb (.tup acc')) := sx.trans (same_new hnb)
                        generalize upd Hx nb (.tup acc') = H19 at hNB s19 ⊢
                        refine ⟨_, rfl, _, rfl, _, _, rfl, rfl, (by rw [CMulW]; exact (cmS htb hgb |> fun z => by unfold CMulW at z; omega)), _, _, rfl, rfl, _, rfl, ?_⟩
                        have cng : decide (g * t < 0) = false := decide_eq_false (by
                          rcases hg with e | e
                          · rw [e]
                            simp
                          · omega)
                        rw [cng]
                        refine ⟨_, rfl, _, rfl, _, rfl, p, f, nb, us, ts, nearB pts (y : Int), m, mo, rfl, hP18.same s19, hperm, dd18.same s19, hNB, nok, by omega, pg, by omega, fun H20 s20 => ⟨true, rfl, ?_⟩⟩
                        exact ⟨_, _, _, _, _, _, _, _, _, _, _, _, _, rfl, (h18.same s19).same s20⟩
                    · rw [decide_eq_false c20]
                      exact ⟨_, _, _, _, _, _, _, _, _, _, _, _, _, rfl, h18⟩
    · obtain ⟨x2, x3, x4, x5, x6, x7, x8, x9, x10, x11, x12, x13, x14, rfl, h1⟩ := mm
      exact q H'
end Bx

/-! Bx End: what the top has written, the head. -/
namespace Bx
open PySem PySem.Spec PyProof.Rows L2
theorem def_mk {K : PySem.W.Frag} {h : Heap} {mg : Str → Option Value} {x : Str} {st : Stmt} {f : Addr} {oc : Value} {od an : Option Addr} {kV doc pm cdv ct : Value} {osl : Array (Option Value)} (X : K.In h) (G : h.Ns mainGlobals mg)
    (a : PySem.W.nsIn K mainGlobals x = some (some (.ref f))) (l : K.lookup f = some ⟨oc, od, .func (PySem.W.fnOf x x (C8.fnArgs st) (C8.fnBody st) (C8.fnScope st) .none kV doc pm an cdv ct), osl⟩) (c : PySem.W.codeIn K cdv x = true) (k : PySem.W.keepIn K (.ref f) = true) :
    C8.Def K mg x st f (PySem.W.fnOf x x (C8.fnArgs st) (C8.fnBody st) (C8.fnScope st) .none kV doc pm an cdv ct) := ⟨⟨oc, od, .none, kV, doc, pm, an, cdv, ct, osl, rfl, l, c⟩, PySem.W.mg_of X G a, k⟩
theorem powers_mk {K : PySem.W.Frag} {aN : Addr} {o : Obj} (l : K.lookup aN = some o) (h : o.cls = .type "tuple" ∧ ∃ its n, o.data = .seq its n ∧ its.size ≤ sizeLine ∧ Vals [.int 0, .int 0, .int 0, .int 0] its.toList) : ∀ H, SqT K H aN [.int 0, .int 0, .int 0, .int 0] := fun H => by
  obtain ⟨h1, its, n, h2, h3, h4⟩ := h
  exact .inr ⟨o, its, n, l, h1, h2, h3, h4⟩
theorem bind__law_low {kV doc pm cdv ct : Value} {an : Option Addr} {x q : Str} {us : List Value} (hl : us.length = ["_law_top", "_law_bottom"].length) : bindArgs (PySem.W.fnOf x q (C8.fnArgs s__law_low) (C8.fnBody s__law_low) (C8.fnScope s__law_low) .none kV doc pm an cdv ct) ⟨us, []⟩ = pure ((["_law_top", "_law_bottom"] : List Str).zip us) := match us, hl with | [_, _], _ => rfl
theorem bind__law_about {kV doc pm cdv ct : Value} {an : Option Addr} {x q : Str} {us : List Value} (hl : us.length = ["_law_place_here", "_law_wide", "_law_by"].length) : bindArgs (PySem.W.fnOf x q (C8.fnArgs s__law_about) (C8.fnBody s__law_about) (C8.fnScope s__law_about) .none kV doc pm an cdv ct) ⟨us, []⟩ = pure ((["_law_place_here", "_law_wide", "_law_by"] : List Str).zip us) := match us, hl with | [_, _, _], _ => rfl
theorem bind__law_draw {kV doc pm cdv ct : Value} {an : Option Addr} {x q : Str} {us : List Value} (hl : us.length = ["_law_hand_here", "_law_many"].length) : bindArgs (PySem.W.fnOf x q (C8.fnArgs s__law_draw) (C8.fnBody s__law_draw) (C8.fnScope s__law_draw) .none kV doc pm an cdv ct) ⟨us, []⟩ = pure ((["_law_hand_here", "_law_many"] : List Str).zip us) := match us, hl with | [_, _], _ => rfl
theorem bind__law_any {kV doc pm cdv ct : Value} {an : Option Addr} {x q : Str} {us : List Value} (hl : us.length = ["_law_hand_here", "_law_things"].length) : bindArgs (PySem.W.fnOf x q (C8.fnArgs s__law_any) (C8.fnBody s__law_any) (C8.fnScope s__law_any) .none kV doc pm an cdv ct) ⟨us, []⟩ = pure ((["_law_hand_here", "_law_things"] : List Str).zip us) := match us, hl with | [_, _], _ => rfl
theorem bind__law_stretch {kV doc pm cdv ct : Value} {an : Option Addr} {x q : Str} {us : List Value} (hl : us.length = ["_law_hand_here"].length) : bindArgs (PySem.W.fnOf x q (C8.fnArgs s__law_stretch) (C8.fnBody s__law_stretch) (C8.fnScope s__law_stretch) .none kV doc pm an cdv ct) ⟨us, []⟩ = pure ((["_law_hand_here"] : List Str).zip us) := match us, hl with | [_], _ => rfl
theorem bind__law_box {kV doc pm cdv ct : Value} {an : Option Addr} {x q : Str} {us : List Value} (hl : us.length = ["_law_hand_here", "_law_many"].length) : bindArgs (PySem.W.fnOf x q (C8.fnArgs s__law_box) (C8.fnBody s__law_box) (C8.fnScope s__law_box) .none kV doc pm an cdv ct) ⟨us, []⟩ = pure ((["_law_hand_here", "_law_many"] : List Str).zip us) := match us, hl with | [_, _], _ => rfl
theorem bind__law_hand {kV doc pm cdv ct : Value} {an : Option Addr} {x q : Str} {us : List Value} (hl : us.length = ["_law_script"].length) : bindArgs (PySem.W.fnOf x q (C8.fnArgs s__law_hand) (C8.fnBody s__law_hand) (C8.fnScope s__law_hand) .none kV doc pm an cdv ct) ⟨us, []⟩ = pure ((["_law_script"] : List Str).zip us) := match us, hl with | [_], _ => rfl
theorem bind__law_degrees {kV doc pm cdv ct : Value} {an : Option Addr} {x q : Str} {us : List Value} (hl : us.length = ["_law_parts_here", "_law_many"].length) : bindArgs (PySem.W.fnOf x q (C8.fnArgs s__law_degrees) (C8.fnBody s__law_degrees) (C8.fnScope s__law_degrees) .none kV doc pm an cdv ct) ⟨us, []⟩ = pure ((["_law_parts_here", "_law_many"] : List Str).zip us) := match us, hl with | [_, _], _ => rfl
theorem bind__law_indexes {kV doc pm cdv ct : Value} {an : Option Addr} {x q : Str} {us : List Value} (hl : us.length = ["_law_degrees_here"].length) : bindArgs (PySem.W.fnOf x q (C8.fnArgs s__law_indexes) (C8.fnBody s__law_indexes) (C8.fnScope s__law_indexes) .none kV doc pm an cdv ct) ⟨us, []⟩ = pure ((["_law_degrees_here"] : List Str).zip us) := match us, hl with | [_], _ => rfl
theorem bind__law_binomial {kV doc pm cdv ct : Value} {an : Option Addr} {x q : Str} {us : List Value} (hl : us.length = ["_law_many", "_law_some"].length) : bindArgs (PySem.W.fnOf x q (C8.fnArgs s__law_binomial) (C8.fnBody s__law_binomial) (C8.fnScope s__law_binomial) .none kV doc pm an cdv ct) ⟨us, []⟩ = pure ((["_law_many", "_law_some"] : List Str).zip us) := match us, hl with | [_, _], _ => rfl
theorem bind__law_power {kV doc pm cdv ct : Value} {an : Option Addr} {x q : Str} {us : List Value} (hl : us.length = ["_law_number", "_law_many"].length) : bindArgs (PySem.W.fnOf x q (C8.fnArgs s__law_power) (C8.fnBody s__law_power) (C8.fnScope s__law_power) .none kV doc pm an cdv ct) ⟨us, []⟩ = pure ((["_law_number", "_law_many"] : List Str).zip us) := match us, hl with | [_, _], _ => rfl
theorem bind__law_polar {kV doc pm cdv ct : Value} {an : Option Addr} {x q : Str} {us : List Value} (hl : us.length = ["_law_stretch_here", "_law_many", "_law_i", "_law_j"].length) : bindArgs (PySem.W.fnOf x q (C8.fnArgs s__law_polar) (C8.fnBody s__law_polar) (C8.fnScope s__law_polar) .none kV doc pm an cdv ct) ⟨us, []⟩ = pure ((["_law_stretch_here", "_law_many", "_law_i", "_law_j"] : List Str).zip us) := match us, hl with | [_, _, _, _], _ => rfl
theorem bind__law_counts {kV doc pm cdv ct : Value} {an : Option Addr} {x q : Str} {us : List Value} (hl : us.length = ["_law_parts_here", "_law_box_here"].length) : bindArgs (PySem.W.fnOf x q (C8.fnArgs s__law_counts) (C8.fnBody s__law_counts) (C8.fnScope s__law_counts) .none kV doc pm an cdv ct) ⟨us, []⟩ = pure ((["_law_parts_here", "_law_box_here"] : List Str).zip us) := match us, hl with | [_, _], _ => rfl
theorem bind__law_sign {kV doc pm cdv ct : Value} {an : Option Addr} {x q : Str} {us : List Value} (hl : us.length = ["_law_parts_here", "_law_box_here"].length) : bindArgs (PySem.W.fnOf x q (C8.fnArgs s__law_sign) (C8.fnBody s__law_sign) (C8.fnScope s__law_sign) .none kV doc pm an cdv ct) ⟨us, []⟩ = pure ((["_law_parts_here", "_law_box_here"] : List Str).zip us) := match us, hl with | [_, _], _ => rfl
theorem bind_is_below {kV doc pm cdv ct : Value} {an : Option Addr} {x q : Str} {us : List Value} (hl : us.length = ["one", "other"].length) : bindArgs (PySem.W.fnOf x q (C8.fnArgs s_is_below) (C8.fnBody s_is_below) (C8.fnScope s_is_below) .none kV doc pm an cdv ct) ⟨us, []⟩ = pure ((["one", "other"] : List Str).zip us) := match us, hl with | [_, _], _ => rfl
theorem bind_divisor_of {kV doc pm cdv ct : Value} {an : Option Addr} {x q : Str} {us : List Value} (hl : us.length = ["one", "other"].length) : bindArgs (PySem.W.fnOf x q (C8.fnArgs s_divisor_of) (C8.fnBody s_divisor_of) (C8.fnScope s_divisor_of) .none kV doc pm an cdv ct) ⟨us, []⟩ = pure ((["one", "other"] : List Str).zip us) := match us, hl with | [_, _], _ => rfl
theorem bind_is_integer {kV doc pm cdv ct : Value} {an : Option Addr} {x q : Str} {us : List Value} (hl : us.length = ["thing"].length) : bindArgs (PySem.W.fnOf x q (C8.fnArgs s_is_integer) (C8.fnBody s_is_integer) (C8.fnScope s_is_integer) .none kV doc pm an cdv ct) ⟨us, []⟩ = pure ((["thing"] : List Str).zip us) := match us, hl with | [_], _ => rfl
theorem bind_is_fraction {kV doc pm cdv ct : Value} {an : Option Addr} {x q : Str} {us : List Value} (hl : us.length = ["thing"].length) : bindArgs (PySem.W.fnOf x q (C8.fnArgs s_is_fraction) (C8.fnBody s_is_fraction) (C8.fnScope s_is_fraction) .none kV doc pm an cdv ct) ⟨us, []⟩ = pure ((["thing"] : List Str).zip us) := match us, hl with | [_], _ => rfl
theorem bind_is_stretch {kV doc pm cdv ct : Value} {an : Option Addr} {x q : Str} {us : List Value} (hl : us.length = ["thing"].length) : bindArgs (PySem.W.fnOf x q (C8.fnArgs s_is_stretch) (C8.fnBody s_is_stretch) (C8.fnScope s_is_stretch) .none kV doc pm an cdv ct) ⟨us, []⟩ = pure ((["thing"] : List Str).zip us) := match us, hl with | [_], _ => rfl
theorem bind_is_box {kV doc pm cdv ct : Value} {an : Option Addr} {x q : Str} {us : List Value} (hl : us.length = ["thing"].length) : bindArgs (PySem.W.fnOf x q (C8.fnArgs s_is_box) (C8.fnBody s_is_box) (C8.fnScope s_is_box) .none kV doc pm an cdv ct) ⟨us, []⟩ = pure ((["thing"] : List Str).zip us) := match us, hl with | [_], _ => rfl
theorem bind_is_in {kV doc pm cdv ct : Value} {an : Option Addr} {x q : Str} {us : List Value} (hl : us.length = ["poly", "many"].length) : bindArgs (PySem.W.fnOf x q (C8.fnArgs s_is_in) (C8.fnBody s_is_in) (C8.fnScope s_is_in) .none kV doc pm an cdv ct) ⟨us, []⟩ = pure ((["poly", "many"] : List Str).zip us) := match us, hl with | [_, _], _ => rfl
theorem bind_check_box {kV doc pm cdv ct : Value} {an : Option Addr} {x q : Str} {us : List Value} (hl : us.length = ["poly", "box"].length) : bindArgs (PySem.W.fnOf x q (C8.fnArgs s_check_box) (C8.fnBody s_check_box) (C8.fnScope s_check_box) .none kV doc pm an cdv ct) ⟨us, []⟩ = pure ((["poly", "box"] : List Str).zip us) := match us, hl with | [_, _], _ => rfl
theorem bind_degree_by {kV doc pm cdv ct : Value} {an : Option Addr} {x q : Str} {us : List Value} (hl : us.length = ["poly", "k"].length) : bindArgs (PySem.W.fnOf x q (C8.fnArgs s_degree_by) (C8.fnBody s_degree_by) (C8.fnScope s_degree_by) .none kV doc pm an cdv ct) ⟨us, []⟩ = pure ((["poly", "k"] : List Str).zip us) := match us, hl with | [_, _], _ => rfl
theorem bind_sign_of_integer {kV doc pm cdv ct : Value} {an : Option Addr} {x q : Str} {us : List Value} (hl : us.length = ["number"].length) : bindArgs (PySem.W.fnOf x q (C8.fnArgs s_sign_of_integer) (C8.fnBody s_sign_of_integer) (C8.fnScope s_sign_of_integer) .none kV doc pm an cdv ct) ⟨us, []⟩ = pure ((["number"] : List Str).zip us) := match us, hl with | [_], _ => rfl
theorem bind_RawPoly_init {kV doc pm cdv ct : Value} {an : Option Addr} {x q : Str} {us : List Value} (hl : us.length = ["self", "terms"].length) : bindArgs (PySem.W.fnOf x q (C8.fnArgs s_RawPoly_init) (C8.fnBody s_RawPoly_init) (C8.fnScope s_RawPoly_init) .none kV doc pm an cdv ct) ⟨us, []⟩ = pure ((["self", "terms"] : List Str).zip us) := match us, hl with | [_, _], _ => rfl
theorem bind_poly_from {kV doc pm cdv ct : Value} {an : Option Addr} {x q : Str} {us : List Value} (hl : us.length = ["parts"].length) : bindArgs (PySem.W.fnOf x q (C8.fnArgs s_poly_from) (C8.fnBody s_poly_from) (C8.fnScope s_poly_from) .none kV doc pm an cdv ct) ⟨us, []⟩ = pure ((["parts"] : List Str).zip us) := match us, hl with | [_], _ => rfl
theorem bind_constant {kV doc pm cdv ct : Value} {an : Option Addr} {x q : Str} {us : List Value} (hl : us.length = ["number"].length) : bindArgs (PySem.W.fnOf x q (C8.fnArgs s_constant) (C8.fnBody s_constant) (C8.fnScope s_constant) .none kV doc pm an cdv ct) ⟨us, []⟩ = pure ((["number"] : List Str).zip us) := match us, hl with | [_], _ => rfl
theorem bind_without {kV doc pm cdv ct : Value} {an : Option Addr} {x q : Str} {us : List Value} (hl : us.length = ["powers", "k"].length) : bindArgs (PySem.W.fnOf x q (C8.fnArgs s_without) (C8.fnBody s_without) (C8.fnScope s_without) .none kV doc pm an cdv ct) ⟨us, []⟩ = pure ((["powers", "k"] : List Str).zip us) := match us, hl with | [_, _], _ => rfl
theorem bind_counts_by {kV doc pm cdv ct : Value} {an : Option Addr} {x q : Str} {us : List Value} (hl : us.length = ["poly", "k"].length) : bindArgs (PySem.W.fnOf x q (C8.fnArgs s_counts_by) (C8.fnBody s_counts_by) (C8.fnScope s_counts_by) .none kV doc pm an cdv ct) ⟨us, []⟩ = pure ((["poly", "k"] : List Str).zip us) := match us, hl with | [_, _], _ => rfl
theorem bind_sum_with {kV doc pm cdv ct : Value} {an : Option Addr} {x q : Str} {us : List Value} (hl : us.length = ["one", "other", "by"].length) : bindArgs (PySem.W.fnOf x q (C8.fnArgs s_sum_with) (C8.fnBody s_sum_with) (C8.fnScope s_sum_with) .none kV doc pm an cdv ct) ⟨us, []⟩ = pure ((["one", "other", "by"] : List Str).zip us) := match us, hl with | [_, _, _], _ => rfl
theorem bind_plus {kV doc pm cdv ct : Value} {an : Option Addr} {x q : Str} {us : List Value} (hl : us.length = ["one", "other"].length) : bindArgs (PySem.W.fnOf x q (C8.fnArgs s_plus) (C8.fnBody s_plus) (C8.fnScope s_plus) .none kV doc pm an cdv ct) ⟨us, []⟩ = pure ((["one", "other"] : List Str).zip us) := match us, hl with | [_, _], _ => rfl
theorem bind_times {kV doc pm cdv ct : Value} {an : Option Addr} {x q : Str} {us : List Value} (hl : us.length = ["one", "other"].length) : bindArgs (PySem.W.fnOf x q (C8.fnArgs s_times) (C8.fnBody s_times) (C8.fnScope s_times) .none kV doc pm an cdv ct) ⟨us, []⟩ = pure ((["one", "other"] : List Str).zip us) := match us, hl with | [_, _], _ => rfl
theorem bind_powers_of {kV doc pm cdv ct : Value} {an : Option Addr} {x q : Str} {us : List Value} (hl : us.length = ["k", "many"].length) : bindArgs (PySem.W.fnOf x q (C8.fnArgs s_powers_of) (C8.fnBody s_powers_of) (C8.fnScope s_powers_of) .none kV doc pm an cdv ct) ⟨us, []⟩ = pure ((["k", "many"] : List Str).zip us) := match us, hl with | [_, _], _ => rfl
theorem bind_unknown_power {kV doc pm cdv ct : Value} {an : Option Addr} {x q : Str} {us : List Value} (hl : us.length = ["k", "many"].length) : bindArgs (PySem.W.fnOf x q (C8.fnArgs s_unknown_power) (C8.fnBody s_unknown_power) (C8.fnScope s_unknown_power) .none kV doc pm an cdv ct) ⟨us, []⟩ = pure ((["k", "many"] : List Str).zip us) := match us, hl with | [_, _], _ => rfl
theorem bind_moved {kV doc pm cdv ct : Value} {an : Option Addr} {x q : Str} {us : List Value} (hl : us.length = ["poly", "k", "stretch"].length) : bindArgs (PySem.W.fnOf x q (C8.fnArgs s_moved) (C8.fnBody s_moved) (C8.fnScope s_moved) .none kV doc pm an cdv ct) ⟨us, []⟩ = pure ((["poly", "k", "stretch"] : List Str).zip us) := match us, hl with | [_, _, _], _ => rfl
theorem bind_product_to {kV doc pm cdv ct : Value} {an : Option Addr} {x q : Str} {us : List Value} (hl : us.length = ["many"].length) : bindArgs (PySem.W.fnOf x q (C8.fnArgs s_product_to) (C8.fnBody s_product_to) (C8.fnScope s_product_to) .none kV doc pm an cdv ct) ⟨us, []⟩ = pure ((["many"] : List Str).zip us) := match us, hl with | [_], _ => rfl
theorem bind_told_by_counts {kV doc pm cdv ct : Value} {an : Option Addr} {x q : Str} {us : List Value} (hl : us.length = ["poly", "k"].length) : bindArgs (PySem.W.fnOf x q (C8.fnArgs s_told_by_counts) (C8.fnBody s_told_by_counts) (C8.fnScope s_told_by_counts) .none kV doc pm an cdv ct) ⟨us, []⟩ = pure ((["poly", "k"] : List Str).zip us) := match us, hl with | [_, _], _ => rfl
theorem bind_whole_counts {kV doc pm cdv ct : Value} {an : Option Addr} {x q : Str} {us : List Value} (hl : us.length = ["poly", "box"].length) : bindArgs (PySem.W.fnOf x q (C8.fnArgs s_whole_counts) (C8.fnBody s_whole_counts) (C8.fnScope s_whole_counts) .none kV doc pm an cdv ct) ⟨us, []⟩ = pure ((["poly", "box"] : List Str).zip us) := match us, hl with | [_, _], _ => rfl
theorem bind_sign_there {kV doc pm cdv ct : Value} {an : Option Addr} {x q : Str} {us : List Value} (hl : us.length = ["poly", "box"].length) : bindArgs (PySem.W.fnOf x q (C8.fnArgs s_sign_there) (C8.fnBody s_sign_there) (C8.fnScope s_sign_there) .none kV doc pm an cdv ct) ⟨us, []⟩ = pure ((["poly", "box"] : List Str).zip us) := match us, hl with | [_, _], _ => rfl
theorem bind_sign_over {kV doc pm cdv ct : Value} {an : Option Addr} {x q : Str} {us : List Value} (hl : us.length = ["poly", "box"].length) : bindArgs (PySem.W.fnOf x q (C8.fnArgs s_sign_over) (C8.fnBody s_sign_over) (C8.fnScope s_sign_over) .none kV doc pm an cdv ct) ⟨us, []⟩ = pure ((["poly", "box"] : List Str).zip us) := match us, hl with | [_, _], _ => rfl
theorem bind__law_is_told {kV doc pm cdv ct : Value} {an : Option Addr} {x q : Str} {us : List Value} (hl : us.length = ["_law_poly_here", "_law_parts_here", "_law_box_here"].length) : bindArgs (PySem.W.fnOf x q (C8.fnArgs s__law_is_told) (C8.fnBody s__law_is_told) (C8.fnScope s__law_is_told) .none kV doc pm an cdv ct) ⟨us, []⟩ = pure ((["_law_poly_here", "_law_parts_here", "_law_box_here"] : List Str).zip us) := match us, hl with | [_, _, _], _ => rfl
theorem bind__law_parts {kV doc pm cdv ct : Value} {an : Option Addr} {x q : Str} {us : List Value} (hl : us.length = ["_law_hand_here", "_law_many", "_law_most", "_law_terms"].length) : bindArgs (PySem.W.fnOf x q (C8.fnArgs s__law_parts) (C8.fnBody s__law_parts) (C8.fnScope s__law_parts) .none kV doc pm an cdv ct) ⟨us, []⟩ = pure ((["_law_hand_here", "_law_many", "_law_most", "_law_terms"] : List Str).zip us) := match us, hl with | [_, _, _, _], _ => rfl
theorem bind__law_place {kV doc pm cdv ct : Value} {an : Option Addr} {x q : Str} {us : List Value} (hl : us.length = ["_law_hand_here", "_law_stretch_here"].length) : bindArgs (PySem.W.fnOf x q (C8.fnArgs s__law_place) (C8.fnBody s__law_place) (C8.fnScope s__law_place) .none kV doc pm an cdv ct) ⟨us, []⟩ = pure ((["_law_hand_here", "_law_stretch_here"] : List Str).zip us) := match us, hl with | [_, _], _ => rfl
theorem bind_is_within {kV doc pm cdv ct : Value} {an : Option Addr} {x q : Str} {us : List Value} (hl : us.length = ["thing", "least", "most"].length) : bindArgs (PySem.W.fnOf x q (C8.fnArgs s_is_within) (C8.fnBody s_is_within) (C8.fnScope s_is_within) .none kV doc pm an cdv ct) ⟨us, []⟩ = pure ((["thing", "least", "most"] : List Str).zip us) := match us, hl with | [_, _, _], _ => rfl
theorem bind_is_term {kV doc pm cdv ct : Value} {an : Option Addr} {x q : Str} {us : List Value} (hl : us.length = ["thing"].length) : bindArgs (PySem.W.fnOf x q (C8.fnArgs s_is_term) (C8.fnBody s_is_term) (C8.fnScope s_is_term) .none kV doc pm an cdv ct) ⟨us, []⟩ = pure ((["thing"] : List Str).zip us) := match us, hl with | [_], _ => rfl
theorem bind_Poly_init {kV doc pm cdv ct : Value} {an : Option Addr} {x q : Str} {us : List Value} (hl : us.length = ["self", "terms"].length) : bindArgs (PySem.W.fnOf x q (C8.fnArgs s_Poly_init) (C8.fnBody s_Poly_init) (C8.fnScope s_Poly_init) .none kV doc pm an cdv ct) ⟨us, []⟩ = pure ((["self", "terms"] : List Str).zip us) := match us, hl with | [_, _], _ => rfl
theorem bind__law_poly {kV doc pm cdv ct : Value} {an : Option Addr} {x q : Str} {us : List Value} (hl : us.length = ["_law_parts_here"].length) : bindArgs (PySem.W.fnOf x q (C8.fnArgs s__law_poly) (C8.fnBody s__law_poly) (C8.fnScope s__law_poly) .none kV doc pm an cdv ct) ⟨us, []⟩ = pure ((["_law_parts_here"] : List Str).zip us) := match us, hl with | [_], _ => rfl
theorem bind__law_worth {kV doc pm cdv ct : Value} {an : Option Addr} {x q : Str} {us : List Value} (hl : us.length = ["_law_parts_here", "_law_point"].length) : bindArgs (PySem.W.fnOf x q (C8.fnArgs s__law_worth) (C8.fnBody s__law_worth) (C8.fnScope s__law_worth) .none kV doc pm an cdv ct) ⟨us, []⟩ = pure ((["_law_parts_here", "_law_point"] : List Str).zip us) := match us, hl with | [_, _], _ => rfl
theorem bind_law {kV doc pm cdv ct : Value} {an : Option Addr} {x q : Str} {us : List Value} (hl : us.length = ["_law_script"].length) : bindArgs (PySem.W.fnOf x q (C8.fnArgs s_law) (C8.fnBody s_law) (C8.fnScope s_law) .none kV doc pm an cdv ct) ⟨us, []⟩ = pure ((["_law_script"] : List Str).zip us) := match us, hl with | [_], _ => rfl
theorem all_mk {l : PySem.W.OpenLaw} {w : World} {K : PySem.W.Frag} {h : Heap} {mg : Str → Option Value} {fa CP CR aN f0 f1 f2 f3 f4 f5 f6 f7 f8 f9 f10 f11 f12 f13 f14 f15 f16 f17 f18 f19 f20 f21 f22 f23 f24 f25 f26 f27 f28 f29 f30 f31 f32 f33 f34 f35 f36 f37 f38 f39 f40 f41 f42 f43 f44 f45 f46 f47 f48 : Addr} {oN : Obj} {t_UNKNOWNS t_MOST_POWER t_MOST_TERMS t_MOST_STRETCHES : PySem.Tok}
    {od0 an0 od1 an1 od2 an2 od3 an3 od4 an4 od5 an5 od6 an6 od7 an7 od8 an8 od9 an9 od10 an10 od11 an11 od12 an12 od13 an13 od14 an14 od15 an15 od16 an16 od17 an17 od18 an18 od19 an19 od20 an20 od21 an21 od22 an22 od23 an23 od24 an24 od25 an25 od26 an26 od27 an27 od28 an28 od29 an29 od30 an30 od31 an31 od32 an32 od33 an33 od34 an34 od35 an35 od36 an36 od37 an37 od38 an38 od39 an39 od40 an40 od41 an41 od42 an42 od43 an43 od44 an44 od45 an45 od46 an46 od47 an47 od48 an48 : Option Addr} {sl0 sl1 sl2 sl3 sl4 sl5 sl6 sl7 sl8 sl9 sl10 sl11 sl12 sl13 sl14 sl15 sl16 sl17 sl18 sl19 sl20 sl21 sl22 sl23 sl24 sl25 sl26 sl27 sl28 sl29 sl30 sl31 sl32 sl33 sl34 sl35 sl36 sl37 sl38 sl39 sl40 sl41 sl42 sl43 sl44 sl45 sl46 sl47 sl48 : Array (Option Value)} {oc0 kV0 dc0 pm0 cd0 ct0 oc1 kV1 dc1 pm1 cd1 ct1 oc2 kV2 dc2 pm2 cd2 ct2 oc3 kV3 dc3 pm3 cd3 ct3 oc4 kV4 dc4 pm4 cd4 ct4 oc5 kV5 dc5 pm5 cd5 ct5 oc6 kV6 dc6 pm6 cd6 ct6 oc7 kV7 dc7 pm7 cd7 ct7 oc8 kV8 dc8 pm8 cd8 ct8 oc9 kV9 dc9 pm9 cd9 ct9 oc10 kV10 dc10 pm10 cd10 ct10 oc11 kV11 dc11 pm11 cd11 ct11 oc12 kV12 dc12 pm12 cd12 ct12 oc13 kV13 dc13 pm13 cd13 ct13 oc14 kV14 dc14 pm14 cd14 ct14 oc15 kV15 dc15 pm15 cd15 ct15 oc16 kV16 dc16 pm16 cd16 ct16 oc17 kV17 dc17 pm17 cd17 ct17 oc18 kV18 dc18 pm18 cd18 ct18 oc19 kV19 dc19 pm19 cd19 ct19 oc20 kV20 dc20 pm20 cd20 ct20 oc21 kV21 dc21 pm21 cd21 ct21 oc22 kV22 dc22 pm22 cd22 ct22 oc23 kV23 dc23 pm23 cd23 ct23 oc24 kV24 dc24 pm24 cd24 ct24 oc25 kV25 dc25 pm25 cd25 ct25 oc26 kV26 dc26 pm26 cd26 ct26 oc27 kV27 dc27 pm27 cd27 ct27 oc28 kV28 dc28 pm28 cd28 ct28 oc29 kV29 dc29 pm29 cd29 ct29 oc30 kV30 dc30 pm30 cd30 ct30 oc31 kV31 dc31 pm31 cd31 ct31 oc32 kV32 dc32 pm32 cd32 ct32 oc33 kV33 dc33 pm33 cd33 ct33 oc34 kV34 dc34 pm34 cd34 ct34 oc35 kV35 dc35 pm35 cd35 ct35 oc36 kV36 dc36 pm36 cd36 ct36 oc37 kV37 dc37 pm37 cd37 ct37 oc38 kV38 dc38 pm38 cd38 ct38 oc39 kV39 dc39 pm39 cd39 ct39 oc40 kV40 dc40 pm40 cd40 ct40 oc41 kV41 dc41 pm41 cd41 ct41 oc42 kV42 dc42 pm42 cd42 ct42 oc43 kV43 dc43 pm43 cd43 ct43 oc44 kV44 dc44 pm44 cd44 ct44 oc45 kV45 dc45 pm45 cd45 ct45 oc46 kV46 dc46 pm46 cd46 ct46 oc47 kV47 dc47 pm47 cd47 ct47 oc48 kV48 dc48 pm48 cd48 ct48 : Value}
    (X : K.In h) (G : h.Ns mainGlobals mg) (hfa : mg "law" = some (.ref fa))
    (hN : oN.cls = .type "tuple" ∧ ∃ its n, oN.data = .seq its n ∧ its.size ≤ sizeLine ∧ Vals [.int 0, .int 0, .int 0, .int 0] its.toList)
    (z_isinstance : PySem.W.nsIn K mainGlobals "isinstance" = some none)
    (z_int : PySem.W.nsIn K mainGlobals "int" = some none)
    (z_bool : PySem.W.nsIn K mainGlobals "bool" = some none)
    (z_abs : PySem.W.nsIn K mainGlobals "abs" = some none)
    (z_tuple : PySem.W.nsIn K mainGlobals "tuple" = some none)
    (z_len : PySem.W.nsIn K mainGlobals "len" = some none)
    (z_all : PySem.W.nsIn K mainGlobals "all" = some none)
    (z_enumerate : PySem.W.nsIn K mainGlobals "enumerate" = some none)
    (z_sorted : PySem.W.nsIn K mainGlobals "sorted" = some none)
    (z_range : PySem.W.nsIn K mainGlobals "range" = some none)
    (z_max : PySem.W.nsIn K mainGlobals "max" = some none)
    (z_min : PySem.W.nsIn K mainGlobals "min" = some none)
    (z_set : PySem.W.nsIn K mainGlobals "set" = some none)
    (z_list : PySem.W.nsIn K mainGlobals "list" = some none)
    (z_str : PySem.W.nsIn K mainGlobals "str" = some none)
    (z_sum : PySem.W.nsIn K mainGlobals "sum" = some none)
    (n_UNKNOWNS : PySem.W.nsIn K mainGlobals "UNKNOWNS" = some (some (.int 4 t_UNKNOWNS)))
    (n_MOST_POWER : PySem.W.nsIn K mainGlobals "MOST_POWER" = some (some (.int 60 t_MOST_POWER)))
    (n_MOST_TERMS : PySem.W.nsIn K mainGlobals "MOST_TERMS" = some (some (.int 300 t_MOST_TERMS)))
    (n_MOST_STRETCHES : PySem.W.nsIn K mainGlobals "MOST_STRETCHES" = some (some (.int 3 t_MOST_STRETCHES)))
    (n_NO : PySem.W.nsIn K mainGlobals "NO_POWERS" = some (some (.ref aN)))
    (l_NO : K.lookup aN = some oN)
    (n_P : PySem.W.nsIn K mainGlobals "Poly" = some (some (.ref CP)))
    (pg_P : PySem.W.plainGet K CP Str.empty = true)
    (hd_P : PySem.W.hasDictIn K CP = true)
    (po_P : PySem.W.plainOver K CP = true)
    (sa_P : PySem.W.findIn K (.ref CP) "__setattr__" = some (some (.builtin "object.__setattr__")))
    (mk_P : PySem.W.makesIn K CP = true)
    (kc_P : PySem.W.keepIn K (.ref CP) = true)
    (nt_P : PySem.W.findIn K (.ref CP) "terms" = some none)
    (n_R : PySem.W.nsIn K mainGlobals "RawPoly" = some (some (.ref CR)))
    (pg_R : PySem.W.plainGet K CR Str.empty = true)
    (hd_R : PySem.W.hasDictIn K CR = true)
    (po_R : PySem.W.plainOver K CR = true)
    (sa_R : PySem.W.findIn K (.ref CR) "__setattr__" = some (some (.builtin "object.__setattr__")))
    (mk_R : PySem.W.makesIn K CR = true)
    (kc_R : PySem.W.keepIn K (.ref CR) = true)
    (nt_R : PySem.W.findIn K (.ref CR) "terms" = some none)
    (a0 : PySem.W.nsIn K mainGlobals "_law_low" = some (some (.ref f0)))
    (l0 : K.lookup f0 = some ⟨oc0, od0, .func (PySem.W.fnOf "_law_low" "_law_low" (C8.fnArgs s__law_low) (C8.fnBody s__law_low) (C8.fnScope s__law_low) .none kV0 dc0 pm0 an0 cd0 ct0), sl0⟩)
    (c0 : PySem.W.codeIn K cd0 "_law_low" = true)
    (k0 : PySem.W.keepIn K (.ref f0) = true)
    (a1 : PySem.W.nsIn K mainGlobals "_law_about" = some (some (.ref f1)))
    (l1 : K.lookup f1 = some ⟨oc1, od1, .func (PySem.W.fnOf "_law_about" "_law_about" (C8.fnArgs s__law_about) (C8.fnBody s__law_about) (C8.fnScope s__law_about) .none kV1 dc1 pm1 an1 cd1 ct1), sl1⟩)
    (c1 : PySem.W.codeIn K cd1 "_law_about" = true)
    (k1 : PySem.W.keepIn K (.ref f1) = true)
    (a2 : PySem.W.nsIn K mainGlobals "_law_draw" = some (some (.ref f2)))
    (l2 : K.lookup f2 = some ⟨oc2, od2, .func (PySem.W.fnOf "_law_draw" "_law_draw" (C8.fnArgs s__law_draw) (C8.fnBody s__law_draw) (C8.fnScope s__law_draw) .none kV2 dc2 pm2 an2 cd2 ct2), sl2⟩)
    (c2 : PySem.W.codeIn K cd2 "_law_draw" = true)
    (k2 : PySem.W.keepIn K (.ref f2) = true)
    (a3 : PySem.W.nsIn K mainGlobals "_law_any" = some (some (.ref f3)))
    (l3 : K.lookup f3 = some ⟨oc3, od3, .func (PySem.W.fnOf "_law_any" "_law_any" (C8.fnArgs s__law_any) (C8.fnBody s__law_any) (C8.fnScope s__law_any) .none kV3 dc3 pm3 an3 cd3 ct3), sl3⟩)
    (c3 : PySem.W.codeIn K cd3 "_law_any" = true)
    (k3 : PySem.W.keepIn K (.ref f3) = true)
    (a4 : PySem.W.nsIn K mainGlobals "_law_stretch" = some (some (.ref f4)))
    (l4 : K.lookup f4 = some ⟨oc4, od4, .func (PySem.W.fnOf "_law_stretch" "_law_stretch" (C8.fnArgs s__law_stretch) (C8.fnBody s__law_stretch) (C8.fnScope s__law_stretch) .none kV4 dc4 pm4 an4 cd4 ct4), sl4⟩)
    (c4 : PySem.W.codeIn K cd4 "_law_stretch" = true)
    (k4 : PySem.W.keepIn K (.ref f4) = true)
    (a5 : PySem.W.nsIn K mainGlobals "_law_box" = some (some (.ref f5)))
    (l5 : K.lookup f5 = some ⟨oc5, od5, .func (PySem.W.fnOf "_law_box" "_law_box" (C8.fnArgs s__law_box) (C8.fnBody s__law_box) (C8.fnScope s__law_box) .none kV5 dc5 pm5 an5 cd5 ct5), sl5⟩)
    (c5 : PySem.W.codeIn K cd5 "_law_box" = true)
    (k5 : PySem.W.keepIn K (.ref f5) = true)
    (a6 : PySem.W.nsIn K mainGlobals "_law_hand" = some (some (.ref f6)))
    (l6 : K.lookup f6 = some ⟨oc6, od6, .func (PySem.W.fnOf "_law_hand" "_law_hand" (C8.fnArgs s__law_hand) (C8.fnBody s__law_hand) (C8.fnScope s__law_hand) .none kV6 dc6 pm6 an6 cd6 ct6), sl6⟩)
    (c6 : PySem.W.codeIn K cd6 "_law_hand" = true)
    (k6 : PySem.W.keepIn K (.ref f6) = true)
    (a7 : PySem.W.nsIn K mainGlobals "_law_degrees" = some (some (.ref f7)))
    (l7 : K.lookup f7 = some ⟨oc7, od7, .func (PySem.W.fnOf "_law_degrees" "_law_degrees" (C8.fnArgs s__law_degrees) (C8.fnBody s__law_degrees) (C8.fnScope s__law_degrees) .none kV7 dc7 pm7 an7 cd7 ct7), sl7⟩)
    (c7 : PySem.W.codeIn K cd7 "_law_degrees" = true)
    (k7 : PySem.W.keepIn K (.ref f7) = true)
    (a8 : PySem.W.nsIn K mainGlobals "_law_indexes" = some (some (.ref f8)))
    (l8 : K.lookup f8 = some ⟨oc8, od8, .func (PySem.W.fnOf "_law_indexes" "_law_indexes" (C8.fnArgs s__law_indexes) (C8.fnBody s__law_indexes) (C8.fnScope s__law_indexes) .none kV8 dc8 pm8 an8 cd8 ct8), sl8⟩)
    (c8 : PySem.W.codeIn K cd8 "_law_indexes" = true)
    (k8 : PySem.W.keepIn K (.ref f8) = true)
    (a9 : PySem.W.nsIn K mainGlobals "_law_binomial" = some (some (.ref f9)))
    (l9 : K.lookup f9 = some ⟨oc9, od9, .func (PySem.W.fnOf "_law_binomial" "_law_binomial" (C8.fnArgs s__law_binomial) (C8.fnBody s__law_binomial) (C8.fnScope s__law_binomial) .none kV9 dc9 pm9 an9 cd9 ct9), sl9⟩)
    (c9 : PySem.W.codeIn K cd9 "_law_binomial" = true)
    (k9 : PySem.W.keepIn K (.ref f9) = true)
    (a10 : PySem.W.nsIn K mainGlobals "_law_power" = some (some (.ref f10)))
    (l10 : K.lookup f10 = some ⟨oc10, od10, .func (PySem.W.fnOf "_law_power" "_law_power" (C8.fnArgs s__law_power) (C8.fnBody s__law_power) (C8.fnScope s__law_power) .none kV10 dc10 pm10 an10 cd10 ct10), sl10⟩)
    (c10 : PySem.W.codeIn K cd10 "_law_power" = true)
    (k10 : PySem.W.keepIn K (.ref f10) = true)
    (a11 : PySem.W.nsIn K mainGlobals "_law_polar" = some (some (.ref f11)))
    (l11 : K.lookup f11 = some ⟨oc11, od11, .func (PySem.W.fnOf "_law_polar" "_law_polar" (C8.fnArgs s__law_polar) (C8.fnBody s__law_polar) (C8.fnScope s__law_polar) .none kV11 dc11 pm11 an11 cd11 ct11), sl11⟩)
    (c11 : PySem.W.codeIn K cd11 "_law_polar" = true)
    (k11 : PySem.W.keepIn K (.ref f11) = true)
    (a12 : PySem.W.nsIn K mainGlobals "_law_counts" = some (some (.ref f12)))
    (l12 : K.lookup f12 = some ⟨oc12, od12, .func (PySem.W.fnOf "_law_counts" "_law_counts" (C8.fnArgs s__law_counts) (C8.fnBody s__law_counts) (C8.fnScope s__law_counts) .none kV12 dc12 pm12 an12 cd12 ct12), sl12⟩)
    (c12 : PySem.W.codeIn K cd12 "_law_counts" = true)
    (k12 : PySem.W.keepIn K (.ref f12) = true)
    (a13 : PySem.W.nsIn K mainGlobals "_law_sign" = some (some (.ref f13)))
    (l13 : K.lookup f13 = some ⟨oc13, od13, .func (PySem.W.fnOf "_law_sign" "_law_sign" (C8.fnArgs s__law_sign) (C8.fnBody s__law_sign) (C8.fnScope s__law_sign) .none kV13 dc13 pm13 an13 cd13 ct13), sl13⟩)
    (c13 : PySem.W.codeIn K cd13 "_law_sign" = true)
    (k13 : PySem.W.keepIn K (.ref f13) = true)
    (a14 : PySem.W.nsIn K mainGlobals "is_below" = some (some (.ref f14)))
    (l14 : K.lookup f14 = some ⟨oc14, od14, .func (PySem.W.fnOf "is_below" "is_below" (C8.fnArgs s_is_below) (C8.fnBody s_is_below) (C8.fnScope s_is_below) .none kV14 dc14 pm14 an14 cd14 ct14), sl14⟩)
    (c14 : PySem.W.codeIn K cd14 "is_below" = true)
    (k14 : PySem.W.keepIn K (.ref f14) = true)
    (a15 : PySem.W.nsIn K mainGlobals "divisor_of" = some (some (.ref f15)))
    (l15 : K.lookup f15 = some ⟨oc15, od15, .func (PySem.W.fnOf "divisor_of" "divisor_of" (C8.fnArgs s_divisor_of) (C8.fnBody s_divisor_of) (C8.fnScope s_divisor_of) .none kV15 dc15 pm15 an15 cd15 ct15), sl15⟩)
    (c15 : PySem.W.codeIn K cd15 "divisor_of" = true)
    (k15 : PySem.W.keepIn K (.ref f15) = true)
    (a16 : PySem.W.nsIn K mainGlobals "is_integer" = some (some (.ref f16)))
    (l16 : K.lookup f16 = some ⟨oc16, od16, .func (PySem.W.fnOf "is_integer" "is_integer" (C8.fnArgs s_is_integer) (C8.fnBody s_is_integer) (C8.fnScope s_is_integer) .none kV16 dc16 pm16 an16 cd16 ct16), sl16⟩)
    (c16 : PySem.W.codeIn K cd16 "is_integer" = true)
    (k16 : PySem.W.keepIn K (.ref f16) = true)
    (a17 : PySem.W.nsIn K mainGlobals "is_fraction" = some (some (.ref f17)))
    (l17 : K.lookup f17 = some ⟨oc17, od17, .func (PySem.W.fnOf "is_fraction" "is_fraction" (C8.fnArgs s_is_fraction) (C8.fnBody s_is_fraction) (C8.fnScope s_is_fraction) .none kV17 dc17 pm17 an17 cd17 ct17), sl17⟩)
    (c17 : PySem.W.codeIn K cd17 "is_fraction" = true)
    (k17 : PySem.W.keepIn K (.ref f17) = true)
    (a18 : PySem.W.nsIn K mainGlobals "is_stretch" = some (some (.ref f18)))
    (l18 : K.lookup f18 = some ⟨oc18, od18, .func (PySem.W.fnOf "is_stretch" "is_stretch" (C8.fnArgs s_is_stretch) (C8.fnBody s_is_stretch) (C8.fnScope s_is_stretch) .none kV18 dc18 pm18 an18 cd18 ct18), sl18⟩)
    (c18 : PySem.W.codeIn K cd18 "is_stretch" = true)
    (k18 : PySem.W.keepIn K (.ref f18) = true)
    (a19 : PySem.W.nsIn K mainGlobals "is_box" = some (some (.ref f19)))
    (l19 : K.lookup f19 = some ⟨oc19, od19, .func (PySem.W.fnOf "is_box" "is_box" (C8.fnArgs s_is_box) (C8.fnBody s_is_box) (C8.fnScope s_is_box) .none kV19 dc19 pm19 an19 cd19 ct19), sl19⟩)
    (c19 : PySem.W.codeIn K cd19 "is_box" = true)
    (k19 : PySem.W.keepIn K (.ref f19) = true)
    (a20 : PySem.W.nsIn K mainGlobals "is_in" = some (some (.ref f20)))
    (l20 : K.lookup f20 = some ⟨oc20, od20, .func (PySem.W.fnOf "is_in" "is_in" (C8.fnArgs s_is_in) (C8.fnBody s_is_in) (C8.fnScope s_is_in) .none kV20 dc20 pm20 an20 cd20 ct20), sl20⟩)
    (c20 : PySem.W.codeIn K cd20 "is_in" = true)
    (k20 : PySem.W.keepIn K (.ref f20) = true)
    (a21 : PySem.W.nsIn K mainGlobals "check_box" = some (some (.ref f21)))
    (l21 : K.lookup f21 = some ⟨oc21, od21, .func (PySem.W.fnOf "check_box" "check_box" (C8.fnArgs s_check_box) (C8.fnBody s_check_box) (C8.fnScope s_check_box) .none kV21 dc21 pm21 an21 cd21 ct21), sl21⟩)
    (c21 : PySem.W.codeIn K cd21 "check_box" = true)
    (k21 : PySem.W.keepIn K (.ref f21) = true)
    (a22 : PySem.W.nsIn K mainGlobals "degree_by" = some (some (.ref f22)))
    (l22 : K.lookup f22 = some ⟨oc22, od22, .func (PySem.W.fnOf "degree_by" "degree_by" (C8.fnArgs s_degree_by) (C8.fnBody s_degree_by) (C8.fnScope s_degree_by) .none kV22 dc22 pm22 an22 cd22 ct22), sl22⟩)
    (c22 : PySem.W.codeIn K cd22 "degree_by" = true)
    (k22 : PySem.W.keepIn K (.ref f22) = true)
    (a23 : PySem.W.nsIn K mainGlobals "sign_of_integer" = some (some (.ref f23)))
    (l23 : K.lookup f23 = some ⟨oc23, od23, .func (PySem.W.fnOf "sign_of_integer" "sign_of_integer" (C8.fnArgs s_sign_of_integer) (C8.fnBody s_sign_of_integer) (C8.fnScope s_sign_of_integer) .none kV23 dc23 pm23 an23 cd23 ct23), sl23⟩)
    (c23 : PySem.W.codeIn K cd23 "sign_of_integer" = true)
    (k23 : PySem.W.keepIn K (.ref f23) = true)
    (a24 : PySem.W.findIn K (.ref CR) "__init__" = some (some (.ref f24)))
    (i24 : PySem.W.isFn K (.ref f24) = true)
    (l24 : K.lookup f24 = some ⟨oc24, od24, .func (PySem.W.fnOf "__init__" "RawPoly.__init__" (C8.fnArgs s_RawPoly_init) (C8.fnBody s_RawPoly_init) (C8.fnScope s_RawPoly_init) .none kV24 dc24 pm24 an24 cd24 ct24), sl24⟩)
    (c24 : PySem.W.codeIn K cd24 "RawPoly.__init__" = true)
    (a25 : PySem.W.nsIn K mainGlobals "poly_from" = some (some (.ref f25)))
    (l25 : K.lookup f25 = some ⟨oc25, od25, .func (PySem.W.fnOf "poly_from" "poly_from" (C8.fnArgs s_poly_from) (C8.fnBody s_poly_from) (C8.fnScope s_poly_from) .none kV25 dc25 pm25 an25 cd25 ct25), sl25⟩)
    (c25 : PySem.W.codeIn K cd25 "poly_from" = true)
    (k25 : PySem.W.keepIn K (.ref f25) = true)
    (a26 : PySem.W.nsIn K mainGlobals "constant" = some (some (.ref f26)))
    (l26 : K.lookup f26 = some ⟨oc26, od26, .func (PySem.W.fnOf "constant" "constant" (C8.fnArgs s_constant) (C8.fnBody s_constant) (C8.fnScope s_constant) .none kV26 dc26 pm26 an26 cd26 ct26), sl26⟩)
    (c26 : PySem.W.codeIn K cd26 "constant" = true)
    (k26 : PySem.W.keepIn K (.ref f26) = true)
    (a27 : PySem.W.nsIn K mainGlobals "without" = some (some (.ref f27)))
    (l27 : K.lookup f27 = some ⟨oc27, od27, .func (PySem.W.fnOf "without" "without" (C8.fnArgs s_without) (C8.fnBody s_without) (C8.fnScope s_without) .none kV27 dc27 pm27 an27 cd27 ct27), sl27⟩)
    (c27 : PySem.W.codeIn K cd27 "without" = true)
    (k27 : PySem.W.keepIn K (.ref f27) = true)
    (a28 : PySem.W.nsIn K mainGlobals "counts_by" = some (some (.ref f28)))
    (l28 : K.lookup f28 = some ⟨oc28, od28, .func (PySem.W.fnOf "counts_by" "counts_by" (C8.fnArgs s_counts_by) (C8.fnBody s_counts_by) (C8.fnScope s_counts_by) .none kV28 dc28 pm28 an28 cd28 ct28), sl28⟩)
    (c28 : PySem.W.codeIn K cd28 "counts_by" = true)
    (k28 : PySem.W.keepIn K (.ref f28) = true)
    (a29 : PySem.W.nsIn K mainGlobals "sum_with" = some (some (.ref f29)))
    (l29 : K.lookup f29 = some ⟨oc29, od29, .func (PySem.W.fnOf "sum_with" "sum_with" (C8.fnArgs s_sum_with) (C8.fnBody s_sum_with) (C8.fnScope s_sum_with) .none kV29 dc29 pm29 an29 cd29 ct29), sl29⟩)
    (c29 : PySem.W.codeIn K cd29 "sum_with" = true)
    (k29 : PySem.W.keepIn K (.ref f29) = true)
    (a30 : PySem.W.nsIn K mainGlobals "plus" = some (some (.ref f30)))
    (l30 : K.lookup f30 = some ⟨oc30, od30, .func (PySem.W.fnOf "plus" "plus" (C8.fnArgs s_plus) (C8.fnBody s_plus) (C8.fnScope s_plus) .none kV30 dc30 pm30 an30 cd30 ct30), sl30⟩)
    (c30 : PySem.W.codeIn K cd30 "plus" = true)
    (k30 : PySem.W.keepIn K (.ref f30) = true)
    (a31 : PySem.W.nsIn K mainGlobals "times" = some (some (.ref f31)))
    (l31 : K.lookup f31 = some ⟨oc31, od31, .func (PySem.W.fnOf "times" "times" (C8.fnArgs s_times) (C8.fnBody s_times) (C8.fnScope s_times) .none kV31 dc31 pm31 an31 cd31 ct31), sl31⟩)
    (c31 : PySem.W.codeIn K cd31 "times" = true)
    (k31 : PySem.W.keepIn K (.ref f31) = true)
    (a32 : PySem.W.nsIn K mainGlobals "powers_of" = some (some (.ref f32)))
    (l32 : K.lookup f32 = some ⟨oc32, od32, .func (PySem.W.fnOf "powers_of" "powers_of" (C8.fnArgs s_powers_of) (C8.fnBody s_powers_of) (C8.fnScope s_powers_of) .none kV32 dc32 pm32 an32 cd32 ct32), sl32⟩)
    (c32 : PySem.W.codeIn K cd32 "powers_of" = true)
    (k32 : PySem.W.keepIn K (.ref f32) = true)
    (a33 : PySem.W.nsIn K mainGlobals "unknown_power" = some (some (.ref f33)))
    (l33 : K.lookup f33 = some ⟨oc33, od33, .func (PySem.W.fnOf "unknown_power" "unknown_power" (C8.fnArgs s_unknown_power) (C8.fnBody s_unknown_power) (C8.fnScope s_unknown_power) .none kV33 dc33 pm33 an33 cd33 ct33), sl33⟩)
    (c33 : PySem.W.codeIn K cd33 "unknown_power" = true)
    (k33 : PySem.W.keepIn K (.ref f33) = true)
    (a34 : PySem.W.nsIn K mainGlobals "moved" = some (some (.ref f34)))
    (l34 : K.lookup f34 = some ⟨oc34, od34, .func (PySem.W.fnOf "moved" "moved" (C8.fnArgs s_moved) (C8.fnBody s_moved) (C8.fnScope s_moved) .none kV34 dc34 pm34 an34 cd34 ct34), sl34⟩)
    (c34 : PySem.W.codeIn K cd34 "moved" = true)
    (k34 : PySem.W.keepIn K (.ref f34) = true)
    (a35 : PySem.W.nsIn K mainGlobals "product_to" = some (some (.ref f35)))
    (l35 : K.lookup f35 = some ⟨oc35, od35, .func (PySem.W.fnOf "product_to" "product_to" (C8.fnArgs s_product_to) (C8.fnBody s_product_to) (C8.fnScope s_product_to) .none kV35 dc35 pm35 an35 cd35 ct35), sl35⟩)
    (c35 : PySem.W.codeIn K cd35 "product_to" = true)
    (k35 : PySem.W.keepIn K (.ref f35) = true)
    (a36 : PySem.W.nsIn K mainGlobals "told_by_counts" = some (some (.ref f36)))
    (l36 : K.lookup f36 = some ⟨oc36, od36, .func (PySem.W.fnOf "told_by_counts" "told_by_counts" (C8.fnArgs s_told_by_counts) (C8.fnBody s_told_by_counts) (C8.fnScope s_told_by_counts) .none kV36 dc36 pm36 an36 cd36 ct36), sl36⟩)
    (c36 : PySem.W.codeIn K cd36 "told_by_counts" = true)
    (k36 : PySem.W.keepIn K (.ref f36) = true)
    (a37 : PySem.W.nsIn K mainGlobals "whole_counts" = some (some (.ref f37)))
    (l37 : K.lookup f37 = some ⟨oc37, od37, .func (PySem.W.fnOf "whole_counts" "whole_counts" (C8.fnArgs s_whole_counts) (C8.fnBody s_whole_counts) (C8.fnScope s_whole_counts) .none kV37 dc37 pm37 an37 cd37 ct37), sl37⟩)
    (c37 : PySem.W.codeIn K cd37 "whole_counts" = true)
    (k37 : PySem.W.keepIn K (.ref f37) = true)
    (a38 : PySem.W.nsIn K mainGlobals "sign_there" = some (some (.ref f38)))
    (l38 : K.lookup f38 = some ⟨oc38, od38, .func (PySem.W.fnOf "sign_there" "sign_there" (C8.fnArgs s_sign_there) (C8.fnBody s_sign_there) (C8.fnScope s_sign_there) .none kV38 dc38 pm38 an38 cd38 ct38), sl38⟩)
    (c38 : PySem.W.codeIn K cd38 "sign_there" = true)
    (k38 : PySem.W.keepIn K (.ref f38) = true)
    (a39 : PySem.W.nsIn K mainGlobals "sign_over" = some (some (.ref f39)))
    (l39 : K.lookup f39 = some ⟨oc39, od39, .func (PySem.W.fnOf "sign_over" "sign_over" (C8.fnArgs s_sign_over) (C8.fnBody s_sign_over) (C8.fnScope s_sign_over) .none kV39 dc39 pm39 an39 cd39 ct39), sl39⟩)
    (c39 : PySem.W.codeIn K cd39 "sign_over" = true)
    (k39 : PySem.W.keepIn K (.ref f39) = true)
    (a40 : PySem.W.nsIn K mainGlobals "_law_is_told" = some (some (.ref f40)))
    (l40 : K.lookup f40 = some ⟨oc40, od40, .func (PySem.W.fnOf "_law_is_told" "_law_is_told" (C8.fnArgs s__law_is_told) (C8.fnBody s__law_is_told) (C8.fnScope s__law_is_told) .none kV40 dc40 pm40 an40 cd40 ct40), sl40⟩)
    (c40 : PySem.W.codeIn K cd40 "_law_is_told" = true)
    (k40 : PySem.W.keepIn K (.ref f40) = true)
    (a41 : PySem.W.nsIn K mainGlobals "_law_parts" = some (some (.ref f41)))
    (l41 : K.lookup f41 = some ⟨oc41, od41, .func (PySem.W.fnOf "_law_parts" "_law_parts" (C8.fnArgs s__law_parts) (C8.fnBody s__law_parts) (C8.fnScope s__law_parts) .none kV41 dc41 pm41 an41 cd41 ct41), sl41⟩)
    (c41 : PySem.W.codeIn K cd41 "_law_parts" = true)
    (k41 : PySem.W.keepIn K (.ref f41) = true)
    (a42 : PySem.W.nsIn K mainGlobals "_law_place" = some (some (.ref f42)))
    (l42 : K.lookup f42 = some ⟨oc42, od42, .func (PySem.W.fnOf "_law_place" "_law_place" (C8.fnArgs s__law_place) (C8.fnBody s__law_place) (C8.fnScope s__law_place) .none kV42 dc42 pm42 an42 cd42 ct42), sl42⟩)
    (c42 : PySem.W.codeIn K cd42 "_law_place" = true)
    (k42 : PySem.W.keepIn K (.ref f42) = true)
    (a43 : PySem.W.nsIn K mainGlobals "is_within" = some (some (.ref f43)))
    (l43 : K.lookup f43 = some ⟨oc43, od43, .func (PySem.W.fnOf "is_within" "is_within" (C8.fnArgs s_is_within) (C8.fnBody s_is_within) (C8.fnScope s_is_within) .none kV43 dc43 pm43 an43 cd43 ct43), sl43⟩)
    (c43 : PySem.W.codeIn K cd43 "is_within" = true)
    (k43 : PySem.W.keepIn K (.ref f43) = true)
    (a44 : PySem.W.nsIn K mainGlobals "is_term" = some (some (.ref f44)))
    (l44 : K.lookup f44 = some ⟨oc44, od44, .func (PySem.W.fnOf "is_term" "is_term" (C8.fnArgs s_is_term) (C8.fnBody s_is_term) (C8.fnScope s_is_term) .none kV44 dc44 pm44 an44 cd44 ct44), sl44⟩)
    (c44 : PySem.W.codeIn K cd44 "is_term" = true)
    (k44 : PySem.W.keepIn K (.ref f44) = true)
    (a45 : PySem.W.findIn K (.ref CP) "__init__" = some (some (.ref f45)))
    (i45 : PySem.W.isFn K (.ref f45) = true)
    (l45 : K.lookup f45 = some ⟨oc45, od45, .func (PySem.W.fnOf "__init__" "Poly.__init__" (C8.fnArgs s_Poly_init) (C8.fnBody s_Poly_init) (C8.fnScope s_Poly_init) .none kV45 dc45 pm45 an45 cd45 ct45), sl45⟩)
    (c45 : PySem.W.codeIn K cd45 "Poly.__init__" = true)
    (a46 : PySem.W.nsIn K mainGlobals "_law_poly" = some (some (.ref f46)))
    (l46 : K.lookup f46 = some ⟨oc46, od46, .func (PySem.W.fnOf "_law_poly" "_law_poly" (C8.fnArgs s__law_poly) (C8.fnBody s__law_poly) (C8.fnScope s__law_poly) .none kV46 dc46 pm46 an46 cd46 ct46), sl46⟩)
    (c46 : PySem.W.codeIn K cd46 "_law_poly" = true)
    (k46 : PySem.W.keepIn K (.ref f46) = true)
    (a47 : PySem.W.nsIn K mainGlobals "_law_worth" = some (some (.ref f47)))
    (l47 : K.lookup f47 = some ⟨oc47, od47, .func (PySem.W.fnOf "_law_worth" "_law_worth" (C8.fnArgs s__law_worth) (C8.fnBody s__law_worth) (C8.fnScope s__law_worth) .none kV47 dc47 pm47 an47 cd47 ct47), sl47⟩)
    (c47 : PySem.W.codeIn K cd47 "_law_worth" = true)
    (k47 : PySem.W.keepIn K (.ref f47) = true)
    (a48 : PySem.W.nsIn K mainGlobals "law" = some (some (.ref f48)))
    (l48 : K.lookup f48 = some ⟨oc48, od48, .func (PySem.W.fnOf "law" "law" (C8.fnArgs s_law) (C8.fnBody s_law) (C8.fnScope s_law) .none kV48 dc48 pm48 an48 cd48 ct48), sl48⟩)
    (c48 : PySem.W.codeIn K cd48 "law" = true)
    (k48 : PySem.W.keepIn K (.ref f48) = true) :
    ∃ fd : FuncData, (∀ (s : Shared) (v : Value), BindsTo s fd ⟨[v], []⟩ [("_law_script", v)]) ∧ ∀ base : Heap, K.In base → base.Ns mainGlobals mg → FnOk l.prog w K mg base C8.CX0 11 fa fd ["_law_script"] (spLaw K) := by
  have e := hfa.symm.trans (PySem.W.mg_of X G a48)
  cases e
  have T : Txt K mg CP CR aN := ⟨PySem.W.mg_none_of X G z_isinstance, PySem.W.mg_none_of X G z_int, PySem.W.mg_none_of X G z_bool, PySem.W.mg_none_of X G z_abs, PySem.W.mg_none_of X G z_tuple, PySem.W.mg_none_of X G z_len, PySem.W.mg_none_of X G z_all, PySem.W.mg_none_of X G z_enumerate, PySem.W.mg_none_of X G z_sorted, PySem.W.mg_none_of X G z_range, PySem.W.mg_none_of X G z_max, PySem.W.mg_none_of X G z_min, PySem.W.mg_none_of X G z_set, PySem.W.mg_none_of X G z_list, PySem.W.mg_none_of X G z_str, PySem.W.mg_none_of X G z_sum, ⟨_, PySem.W.mg_of X G n_UNKNOWNS, _, rfl⟩, ⟨_, PySem.W.mg_of X G n_MOST_POWER, _, rfl⟩, ⟨_, PySem.W.mg_of X G n_MOST_TERMS, _, rfl⟩, ⟨_, PySem.W.mg_of X G n_MOST_STRETCHES, _, rfl⟩, ⟨_, PySem.W.mg_of X G n_NO, rfl⟩, powers_mk l_NO hN, ⟨pg_P, hd_P, po_P, sa_P⟩, ⟨pg_R, hd_R, po_R, sa_R⟩, nt_P, nt_R⟩
  have F0 := def_mk (st := s__law_low) X G a0 l0 c0 k0
  have b0 := F0.fn.binds (ps := ["_law_top", "_law_bottom"]) rfl fun _ _ _ _ _ _ _ hl => bind__law_low hl
  have F1 := def_mk (st := s__law_about) X G a1 l1 c1 k1
  have b1 := F1.fn.binds (ps := ["_law_place_here", "_law_wide", "_law_by"]) rfl fun _ _ _ _ _ _ _ hl => bind__law_about hl
  have F2 := def_mk (st := s__law_draw) X G a2 l2 c2 k2
  have b2 := F2.fn.binds (ps := ["_law_hand_here", "_law_many"]) rfl fun _ _ _ _ _ _ _ hl => bind__law_draw hl
  have F3 := def_mk (st := s__law_any) X G a3 l3 c3 k3
  have b3 := F3.fn.binds (ps := ["_law_hand_here", "_law_things"]) rfl fun _ _ _ _ _ _ _ hl => bind__law_any hl
  have F4 := def_mk (st := s__law_stretch) X G a4 l4 c4 k4
  have b4 := F4.fn.binds (ps := ["_law_hand_here"]) rfl fun _ _ _ _ _ _ _ hl => bind__law_stretch hl
  have F5 := def_mk (st := s__law_box) X G a5 l5 c5 k5
  have b5 := F5.fn.binds (ps := ["_law_hand_here", "_law_many"]) rfl fun _ _ _ _ _ _ _ hl => bind__law_box hl
  have F6 := def_mk (st := s__law_hand) X G a6 l6 c6 k6
  have b6 := F6.fn.binds (ps := ["_law_script"]) rfl fun _ _ _ _ _ _ _ hl => bind__law_hand hl
  have F7 := def_mk (st := s__law_degrees) X G a7 l7 c7 k7
  have b7 := F7.fn.binds (ps := ["_law_parts_here", "_law_many"]) rfl fun _ _ _ _ _ _ _ hl => bind__law_degrees hl
  have F8 := def_mk (st := s__law_indexes) X G a8 l8 c8 k8
  have b8 := F8.fn.binds (ps := ["_law_degrees_here"]) rfl fun _ _ _ _ _ _ _ hl => bind__law_indexes hl
  have F9 := def_mk (st := s__law_binomial) X G a9 l9 c9 k9
  have b9 := F9.fn.binds (ps := ["_law_many", "_law_some"]) rfl fun _ _ _ _ _ _ _ hl => bind__law_binomial hl
  have F10 := def_mk (st := s__law_power) X G a10 l10 c10 k10
  have b10 := F10.fn.binds (ps := ["_law_number", "_law_many"]) rfl fun _ _ _ _ _ _ _ hl => bind__law_power hl
  have F11 := def_mk (st := s__law_polar) X G a11 l11 c11 k11
  have b11 := F11.fn.binds (ps := ["_law_stretch_here", "_law_many", "_law_i", "_law_j"]) rfl fun _ _ _ _ _ _ _ hl => bind__law_polar hl
  have F12 := def_mk (st := s__law_counts) X G a12 l12 c12 k12
  have b12 := F12.fn.binds (ps := ["_law_parts_here", "_law_box_here"]) rfl fun _ _ _ _ _ _ _ hl => bind__law_counts hl
  have F13 := def_mk (st := s__law_sign) X G a13 l13 c13 k13
  have b13 := F13.fn.binds (ps := ["_law_parts_here", "_law_box_here"]) rfl fun _ _ _ _ _ _ _ hl => bind__law_sign hl
  have F14 := def_mk (st := s_is_below) X G a14 l14 c14 k14
  have b14 := F14.fn.binds (ps := ["one", "other"]) rfl fun _ _ _ _ _ _ _ hl => bind_is_below hl
  have F15 := def_mk (st := s_divisor_of) X G a15 l15 c15 k15
  have b15 := F15.fn.binds (ps := ["one", "other"]) rfl fun _ _ _ _ _ _ _ hl => bind_divisor_of hl
  have F16 := def_mk (st := s_is_integer) X G a16 l16 c16 k16
  have b16 := F16.fn.binds (ps := ["thing"]) rfl fun _ _ _ _ _ _ _ hl => bind_is_integer hl
  have F17 := def_mk (st := s_is_fraction) X G a17 l17 c17 k17
  have b17 := F17.fn.binds (ps := ["thing"]) rfl fun _ _ _ _ _ _ _ hl => bind_is_fraction hl
  have F18 := def_mk (st := s_is_stretch) X G a18 l18 c18 k18
  have b18 := F18.fn.binds (ps := ["thing"]) rfl fun _ _ _ _ _ _ _ hl => bind_is_stretch hl
  have F19 := def_mk (st := s_is_box) X G a19 l19 c19 k19
  have b19 := F19.fn.binds (ps := ["thing"]) rfl fun _ _ _ _ _ _ _ hl => bind_is_box hl
  have F20 := def_mk (st := s_is_in) X G a20 l20 c20 k20
  have b20 := F20.fn.binds (ps := ["poly", "many"]) rfl fun _ _ _ _ _ _ _ hl => bind_is_in hl
  have F21 := def_mk (st := s_check_box) X G a21 l21 c21 k21
  have b21 := F21.fn.binds (ps := ["poly", "box"]) rfl fun _ _ _ _ _ _ _ hl => bind_check_box hl
  have F22 := def_mk (st := s_degree_by) X G a22 l22 c22 k22
  have b22 := F22.fn.binds (ps := ["poly", "k"]) rfl fun _ _ _ _ _ _ _ hl => bind_degree_by hl
  have F23 := def_mk (st := s_sign_of_integer) X G a23 l23 c23 k23
  have b23 := F23.fn.binds (ps := ["number"]) rfl fun _ _ _ _ _ _ _ hl => bind_sign_of_integer hl
  have F24 : C8.Fun K "__init__" "RawPoly.__init__" s_RawPoly_init f24 _ := ⟨_, _, _, _, _, _, _, _, _, _, rfl, l24, c24⟩
  have b24 := F24.binds (ps := ["self", "terms"]) rfl fun _ _ _ _ _ _ _ hl => bind_RawPoly_init hl
  have F25 := def_mk (st := s_poly_from) X G a25 l25 c25 k25
  have b25 := F25.fn.binds (ps := ["parts"]) rfl fun _ _ _ _ _ _ _ hl => bind_poly_from hl
  have F26 := def_mk (st := s_constant) X G a26 l26 c26 k26
  have b26 := F26.fn.binds (ps := ["number"]) rfl fun _ _ _ _ _ _ _ hl => bind_constant hl
  have F27 := def_mk (st := s_without) X G a27 l27 c27 k27
  have b27 := F27.fn.binds (ps := ["powers", "k"]) rfl fun _ _ _ _ _ _ _ hl => bind_without hl
  have F28 := def_mk (st := s_counts_by) X G a28 l28 c28 k28
  have b28 := F28.fn.binds (ps := ["poly", "k"]) rfl fun _ _ _ _ _ _ _ hl => bind_counts_by hl
  have F29 := def_mk (st := s_sum_with) X G a29 l29 c29 k29
  have b29 := F29.fn.binds (ps := ["one", "other", "by"]) rfl fun _ _ _ _ _ _ _ hl => bind_sum_with hl
  have F30 := def_mk (st := s_plus) X G a30 l30 c30 k30
  have b30 := F30.fn.binds (ps := ["one", "other"]) rfl fun _ _ _ _ _ _ _ hl => bind_plus hl
  have F31 := def_mk (st := s_times) X G a31 l31 c31 k31
  have b31 := F31.fn.binds (ps := ["one", "other"]) rfl fun _ _ _ _ _ _ _ hl => bind_times hl
  have F32 := def_mk (st := s_powers_of) X G a32 l32 c32 k32
  have b32 := F32.fn.binds (ps := ["k", "many"]) rfl fun _ _ _ _ _ _ _ hl => bind_powers_of hl
  have F33 := def_mk (st := s_unknown_power) X G a33 l33 c33 k33
  have b33 := F33.fn.binds (ps := ["k", "many"]) rfl fun _ _ _ _ _ _ _ hl => bind_unknown_power hl
  have F34 := def_mk (st := s_moved) X G a34 l34 c34 k34
  have b34 := F34.fn.binds (ps := ["poly", "k", "stretch"]) rfl fun _ _ _ _ _ _ _ hl => bind_moved hl
  have F35 := def_mk (st := s_product_to) X G a35 l35 c35 k35
  have b35 := F35.fn.binds (ps := ["many"]) rfl fun _ _ _ _ _ _ _ hl => bind_product_to hl
  have F36 := def_mk (st := s_told_by_counts) X G a36 l36 c36 k36
  have b36 := F36.fn.binds (ps := ["poly", "k"]) rfl fun _ _ _ _ _ _ _ hl => bind_told_by_counts hl
  have F37 := def_mk (st := s_whole_counts) X G a37 l37 c37 k37
  have b37 := F37.fn.binds (ps := ["poly", "box"]) rfl fun _ _ _ _ _ _ _ hl => bind_whole_counts hl
  have F38 := def_mk (st := s_sign_there) X G a38 l38 c38 k38
  have b38 := F38.fn.binds (ps := ["poly", "box"]) rfl fun _ _ _ _ _ _ _ hl => bind_sign_there hl
  have F39 := def_mk (st := s_sign_over) X G a39 l39 c39 k39
  have b39 := F39.fn.binds (ps := ["poly", "box"]) rfl fun _ _ _ _ _ _ _ hl => bind_sign_over hl
  have F40 := def_mk (st := s__law_is_told) X G a40 l40 c40 k40
  have b40 := F40.fn.binds (ps := ["_law_poly_here", "_law_parts_here", "_law_box_here"]) rfl fun _ _ _ _ _ _ _ hl => bind__law_is_told hl
  have F41 := def_mk (st := s__law_parts) X G a41 l41 c41 k41
  have b41 := F41.fn.binds (ps := ["_law_hand_here", "_law_many", "_law_most", "_law_terms"]) rfl fun _ _ _ _ _ _ _ hl => bind__law_parts hl
  have F42 := def_mk (st := s__law_place) X G a42 l42 c42 k42
  have b42 := F42.fn.binds (ps := ["_law_hand_here", "_law_stretch_here"]) rfl fun _ _ _ _ _ _ _ hl => bind__law_place hl
  have F43 := def_mk (st := s_is_within) X G a43 l43 c43 k43
  have b43 := F43.fn.binds (ps := ["thing", "least", "most"]) rfl fun _ _ _ _ _ _ _ hl => bind_is_within hl
  have F44 := def_mk (st := s_is_term) X G a44 l44 c44 k44
  have b44 := F44.fn.binds (ps := ["thing"]) rfl fun _ _ _ _ _ _ _ hl => bind_is_term hl
  have F45 : C8.Fun K "__init__" "Poly.__init__" s_Poly_init f45 _ := ⟨_, _, _, _, _, _, _, _, _, _, rfl, l45, c45⟩
  have b45 := F45.binds (ps := ["self", "terms"]) rfl fun _ _ _ _ _ _ _ hl => bind_Poly_init hl
  have F46 := def_mk (st := s__law_poly) X G a46 l46 c46 k46
  have b46 := F46.fn.binds (ps := ["_law_parts_here"]) rfl fun _ _ _ _ _ _ _ hl => bind__law_poly hl
  have F47 := def_mk (st := s__law_worth) X G a47 l47 c47 k47
  have b47 := F47.fn.binds (ps := ["_law_parts_here", "_law_point"]) rfl fun _ _ _ _ _ _ _ hl => bind__law_worth hl
  have F48 := def_mk (st := s_law) X G a48 l48 c48 k48
  refine ⟨PySem.W.fnOf "law" "law" (C8.fnArgs s_law) (C8.fnBody s_law) (C8.fnScope s_law) .none kV48 dc48 pm48 an48 cd48 ct48, fun s v => .of_eq (bind_law (us := [v]) rfl), fun base _ _ => ?_⟩
  have G0 := ok__law_low (P := l.prog) (w := w) (base := base) F0 b0 T
  have G1 := ok__law_about (P := l.prog) (w := w) (base := base) F1 b1 T G0
  have G2 := ok__law_draw (P := l.prog) (w := w) (base := base) F2 b2 T
  have G3 := ok__law_any (P := l.prog) (w := w) (base := base) F3 b3 T G2
  have G4 := ok__law_stretch (P := l.prog) (w := w) (base := base) F4 b4 T G3 G2 G0
  have G5 := ok__law_box (P := l.prog) (w := w) (base := base) F5 b5 T G4
  have G6 := ok__law_hand (P := l.prog) (w := w) (base := base) F6 b6 T
  have G7 := ok__law_degrees (P := l.prog) (w := w) (base := base) F7 b7 T
  have G8 := ok__law_indexes (P := l.prog) (w := w) (base := base) F8 b8 T
  have G9 := ok__law_binomial (P := l.prog) (w := w) (base := base) F9 b9 T
  have G10 := ok__law_power (P := l.prog) (w := w) (base := base) F10 b10 T
  have G11 := ok__law_polar (P := l.prog) (w := w) (base := base) F11 b11 T G9 G10
  have G12 := ok__law_counts (P := l.prog) (w := w) (base := base) F12 b12 T G7 G8 G0 G11
  have G13 := ok__law_sign (P := l.prog) (w := w) (base := base) F13 b13 T G12
  have G14 := ok_is_below (P := l.prog) (w := w) (base := base) F14 b14 T
  have G15 := ok_divisor_of (P := l.prog) (w := w) (base := base) F15 b15 T
  have G16 := ok_is_integer (P := l.prog) (w := w) (base := base) F16 b16 T
  have G17 := ok_is_fraction (P := l.prog) (w := w) (base := base) F17 b17 T G15 G16
  have G18 := ok_is_stretch (P := l.prog) (w := w) (base := base) F18 b18 T G14 G17
  have G19 := ok_is_box (P := l.prog) (w := w) (base := base) F19 b19 T G18
  have G20 := ok_is_in (P := l.prog) (w := w) (base := base) F20 b20 T
  have G21 := ok_check_box (P := l.prog) (w := w) (base := base) F21 b21 T G19 G20
  have G22 := ok_degree_by (P := l.prog) (w := w) (base := base) F22 b22 T
  have G23 := ok_sign_of_integer (P := l.prog) (w := w) (base := base) F23 b23 T
  have G24 := ok_RawPoly_init (P := l.prog) (w := w) (base := base) ⟨mk_R, a24, i24, kc_R⟩ (PySem.W.mg_of X G n_R) F24 b24 T
  have G25 := ok_poly_from (P := l.prog) (w := w) (base := base) F25 b25 T G24
  have G26 := ok_constant (P := l.prog) (w := w) (base := base) F26 b26 T G25
  have G27 := ok_without (P := l.prog) (w := w) (base := base) F27 b27 T
  have G28 := ok_counts_by (P := l.prog) (w := w) (base := base) F28 b28 T G22 G25 G27
  have G29 := ok_sum_with (P := l.prog) (w := w) (base := base) F29 b29 T G25
  have G30 := ok_plus (P := l.prog) (w := w) (base := base) F30 b30 T G29
  have G31 := ok_times (P := l.prog) (w := w) (base := base) F31 b31 T G25
  have G32 := ok_powers_of (P := l.prog) (w := w) (base := base) F32 b32 T
  have G33 := ok_unknown_power (P := l.prog) (w := w) (base := base) F33 b33 T G25 G32
  have G34 := ok_moved (P := l.prog) (w := w) (base := base) F34 b34 T G26 G28 G15 G30 G29 G31 G33
  have G35 := ok_product_to (P := l.prog) (w := w) (base := base) F35 b35 T
  have G36 := ok_told_by_counts (P := l.prog) (w := w) (base := base) F36 b36 T G26 G28 G22 G30 G35 G29 G31 G33
  have G37 := ok_whole_counts (P := l.prog) (w := w) (base := base) F37 b37 T G22 G34 G35 G36
  have G38 := ok_sign_there (P := l.prog) (w := w) (base := base) F38 b38 T G22 G23 G37
  have G39 := ok_sign_over (P := l.prog) (w := w) (base := base) F39 b39 T G21 G38
  have G40 := ok__law_is_told (P := l.prog) (w := w) (base := base) F40 b40 T G13 G39
  have G41 := ok__law_parts (P := l.prog) (w := w) (base := base) F41 b41 T G3 G2
  have G42 := ok__law_place (P := l.prog) (w := w) (base := base) F42 b42 T G3 G2 G0
  have G43 := ok_is_within (P := l.prog) (w := w) (base := base) F43 b43 T G16
  have G44 := ok_is_term (P := l.prog) (w := w) (base := base) F44 b44 T G16 G43
  have G45 := ok_Poly_init (P := l.prog) (w := w) (base := base) ⟨mk_P, a45, i45, kc_P⟩ (PySem.W.mg_of X G n_P) F45 b45 T G44
  have G46 := ok__law_poly (P := l.prog) (w := w) (base := base) F46 b46 T G45
  have G47 := ok__law_worth (P := l.prog) (w := w) (base := base) F47 b47 T G0 G10
  exact ok_law F48 T G1 G3 G5 G2 G6 G40 G41 G42 G46 G13 G47
theorem walk {l : PySem.W.OpenLaw} {q : Program} {loose : List Str} {XP : (Str → Option Value) → Heap → Prop} {YP : World → Heap → Prop} {d : DefRec} {K : Params → PySem.W.Frag} (hn : l.most = some 63) (hdf : d.params.defaults = [])
    (hY : ∀ (w : World) (h : Heap), YP w h → (K w.params).In h)
    (F : ∀ (w : World) (mg : Str → Option Value) (fa : Addr) (h : Heap), (K w.params).In h → h.Ns mainGlobals mg → mg d.name = some (.ref fa) →
      ∃ fd : FuncData, (∀ (s : Shared) (u : Value), BindsTo s fd ⟨[u], []⟩ [("_law_script", u)]) ∧ ∀ base : Heap, (K w.params).In base → base.Ns mainGlobals mg → FnOk l.prog w (K w.params) mg base C8.CX0 11 fa fd ["_law_script"] (spLaw (K w.params))) :
    PySem.W.WalkO q loose XP YP l.row.toRowW d [] (fun f vs => PySem.call f vs) :=
  L2.walk_of (n := 63) (k := 11) (x := "_law_script") (CX := fun _ => C8.CX0) (sp := fun w => spLaw (K w.params)) hn (by decide) hdf ⟨rfl, by decide, by decide⟩ hY F (fun _ _ a ns hl _ hS => ⟨a, ns, rfl, hS, hl, fun _ => rfl⟩) fun _ _ _ _ _ z => z
end Bx

open PySem PySem.W PyProof.Rows in
set_option maxRecDepth 100000 in
set_option maxHeartbeats 0 in
theorem PySem.Challenge.cw_boxedroots_k24_whole_signs_over_boxes_holds : PySem.Challenge.rw_boxedroots_k24_whole_signs_over_boxes.Holds := by
  w_on; o_law; k_head; (case hw => w_witness2)
  k_fill
  refine Bx.walk (l := PySem.Challenge.rw_boxedroots_k24_whole_signs_over_boxes) rfl rfl (fun w h Y => PySem.W.kIn_of Y) ?F
  case F =>
    intro w mg fa h KX G hmg
    refine' Bx.all_mk KX G hmg ?hN ?z_isinstance ?z_int ?z_bool ?z_abs ?z_tuple ?z_len ?z_all ?z_enumerate ?z_sorted ?z_range ?z_max ?z_min ?z_set ?z_list ?z_str ?z_sum ?n_UNKNOWNS ?n_MOST_POWER ?n_MOST_TERMS ?n_MOST_STRETCHES ?n_NO ?l_NO ?n_P ?pg_P ?hd_P ?po_P ?sa_P ?mk_P ?kc_P ?nt_P ?n_R ?pg_R ?hd_R ?po_R ?sa_R ?mk_R ?kc_R ?nt_R ?a0 ?l0 ?c0 ?k0 ?a1 ?l1 ?c1 ?k1 ?a2 ?l2 ?c2 ?k2 ?a3 ?l3 ?c3 ?k3 ?a4 ?l4 ?c4 ?k4 ?a5 ?l5 ?c5 ?k5 ?a6 ?l6 ?c6 ?k6 ?a7 ?l7 ?c7 ?k7 ?a8 ?l8 ?c8 ?k8 ?a9 ?l9 ?c9 ?k9 ?a10 ?l10 ?c10 ?k10 ?a11 ?l11 ?c11 ?k11 ?a12 ?l12 ?c12 ?k12 ?a13 ?l13 ?c13 ?k13 ?a14 ?l14 ?c14 ?k14 ?a15 ?l15 ?c15 ?k15 ?a16 ?l16 ?c16 ?k16 ?a17 ?l17 ?c17 ?k17 ?a18 ?l18 ?c18 ?k18 ?a19 ?l19 ?c19 ?k19 ?a20 ?l20 ?c20 ?k20 ?a21 ?l21 ?c21 ?k21 ?a22 ?l22 ?c22 ?k22 ?a23 ?l23 ?c23 ?k23 ?a24 ?i24 ?l24 ?c24 ?a25 ?l25 ?c25 ?k25 ?a26 ?l26 ?c26 ?k26 ?a27 ?l27 ?c27 ?k27 ?a28 ?l28 ?c28 ?k28 ?a29 ?l29 ?c29 ?k29 ?a30 ?l30 ?c30 ?k30 ?a31 ?l31 ?c31 ?k31 ?a32 ?l32 ?c32 ?k32 ?a33 ?l33 ?c33 ?k33 ?a34 ?l34 ?c34 ?k34 ?a35 ?l35 ?c35 ?k35 ?a36 ?l36 ?c36 ?k36 ?a37 ?l37 ?c37 ?k37 ?a38 ?l38 ?c38 ?k38 ?a39 ?l39 ?c39 ?k39 ?a40 ?l40 ?c40 ?k40 ?a41 ?l41 ?c41 ?k41 ?a42 ?l42 ?c42 ?k42 ?a43 ?l43 ?c43 ?k43 ?a44 ?l44 ?c44 ?k44 ?a45 ?i45 ?l45 ?c45 ?a46 ?l46 ?c46 ?k46 ?a47 ?l47 ?c47 ?k47 ?a48 ?l48 ?c48 ?k48
    (case z_isinstance => k_is)
    (case z_int => k_is)
    (case z_bool => k_is)
    (case z_abs => k_is)
    (case z_tuple => k_is)
    (case z_len => k_is)
    (case z_all => k_is)
    (case z_enumerate => k_is)
    (case z_sorted => k_is)
    (case z_range => k_is)
    (case z_max => k_is)
    (case z_min => k_is)
    (case z_set => k_is)
    (case z_list => k_is)
    (case z_str => k_is)
    (case z_sum => k_is)
    (case n_UNKNOWNS => k_is)
    (case n_MOST_POWER => k_is)
    (case n_MOST_TERMS => k_is)
    (case n_MOST_STRETCHES => k_is)
    (case n_NO => k_is)
    (case l_NO => k_is)
    (case n_P => k_is)
    (case pg_P => k_is)
    (case hd_P => k_is)
    (case po_P => k_is)
    (case sa_P => k_is)
    (case mk_P => k_is)
    (case kc_P => k_is)
    (case nt_P => k_is)
    (case n_R => k_is)
    (case pg_R => k_is)
    (case hd_R => k_is)
    (case po_R => k_is)
    (case sa_R => k_is)
    (case mk_R => k_is)
    (case kc_R => k_is)
    (case nt_R => k_is)
    (case a0 => k_is)
    (case l0 => k_is)
    (case c0 => k_is)
    (case k0 => k_is)
    (case a1 => k_is)
    (case l1 => k_is)
    (case c1 => k_is)
    (case k1 => k_is)
    (case a2 => k_is)
    (case l2 => k_is)
    (case c2 => k_is)
    (case k2 => k_is)
    (case a3 => k_is)
    (case l3 => k_is)
    (case c3 => k_is)
    (case k3 => k_is)
    (case a4 => k_is)
    (case l4 => k_is)
    (case c4 => k_is)
    (case k4 => k_is)
    (case a5 => k_is)
    (case l5 => k_is)
    (case c5 => k_is)
    (case k5 => k_is)
    (case a6 => k_is)
    (case l6 => k_is)
    (case c6 => k_is)
    (case k6 => k_is)
    (case a7 => k_is)
    (case l7 => k_is)
    (case c7 => k_is)
    (case k7 => k_is)
    (case a8 => k_is)
    (case l8 => k_is)
    (case c8 => k_is)
    (case k8 => k_is)
    (case a9 => k_is)
    (case l9 => k_is)
    (case c9 => k_is)
    (case k9 => k_is)
    (case a10 => k_is)
    (case l10 => k_is)
    (case c10 => k_is)
    (case k10 => k_is)
    (case a11 => k_is)
    (case l11 => k_is)
    (case c11 => k_is)
    (case k11 => k_is)
    (case a12 => k_is)
    (case l12 => k_is)
    (case c12 => k_is)
    (case k12 => k_is)
    (case a13 => k_is)
    (case l13 => k_is)
    (case c13 => k_is)
    (case k13 => k_is)
    (case a14 => k_is)
    (case l14 => k_is)
    (case c14 => k_is)
    (case k14 => k_is)
    (case a15 => k_is)
    (case l15 => k_is)
    (case c15 => k_is)
    (case k15 => k_is)
    (case a16 => k_is)
    (case l16 => k_is)
    (case c16 => k_is)
    (case k16 => k_is)
    (case a17 => k_is)
    (case l17 => k_is)
    (case c17 => k_is)
    (case k17 => k_is)
    (case a18 => k_is)
    (case l18 => k_is)
    (case c18 => k_is)
    (case k18 => k_is)
    (case a19 => k_is)
    (case l19 => k_is)
    (case c19 => k_is)
    (case k19 => k_is)
    (case a20 => k_is)
    (case l20 => k_is)
    (case c20 => k_is)
    (case k20 => k_is)
    (case a21 => k_is)
    (case l21 => k_is)
    (case c21 => k_is)
    (case k21 => k_is)
    (case a22 => k_is)
    (case l22 => k_is)
    (case c22 => k_is)
    (case k22 => k_is)
    (case a23 => k_is)
    (case l23 => k_is)
    (case c23 => k_is)
    (case k23 => k_is)
    (case a24 => k_is)
    (case i24 => k_is)
    (case l24 => k_is)
    (case c24 => k_is)
    (case a25 => k_is)
    (case l25 => k_is)
    (case c25 => k_is)
    (case k25 => k_is)
    (case a26 => k_is)
    (case l26 => k_is)
    (case c26 => k_is)
    (case k26 => k_is)
    (case a27 => k_is)
    (case l27 => k_is)
    (case c27 => k_is)
    (case k27 => k_is)
    (case a28 => k_is)
    (case l28 => k_is)
    (case c28 => k_is)
    (case k28 => k_is)
    (case a29 => k_is)
    (case l29 => k_is)
    (case c29 => k_is)
    (case k29 => k_is)
    (case a30 => k_is)
    (case l30 => k_is)
    (case c30 => k_is)
    (case k30 => k_is)
    (case a31 => k_is)
    (case l31 => k_is)
    (case c31 => k_is)
    (case k31 => k_is)
    (case a32 => k_is)
    (case l32 => k_is)
    (case c32 => k_is)
    (case k32 => k_is)
    (case a33 => k_is)
    (case l33 => k_is)
    (case c33 => k_is)
    (case k33 => k_is)
    (case a34 => k_is)
    (case l34 => k_is)
    (case c34 => k_is)
    (case k34 => k_is)
    (case a35 => k_is)
    (case l35 => k_is)
    (case c35 => k_is)
    (case k35 => k_is)
    (case a36 => k_is)
    (case l36 => k_is)
    (case c36 => k_is)
    (case k36 => k_is)
    (case a37 => k_is)
    (case l37 => k_is)
    (case c37 => k_is)
    (case k37 => k_is)
    (case a38 => k_is)
    (case l38 => k_is)
    (case c38 => k_is)
    (case k38 => k_is)
    (case a39 => k_is)
    (case l39 => k_is)
    (case c39 => k_is)
    (case k39 => k_is)
    (case a40 => k_is)
    (case l40 => k_is)
    (case c40 => k_is)
    (case k40 => k_is)
    (case a41 => k_is)
    (case l41 => k_is)
    (case c41 => k_is)
    (case k41 => k_is)
    (case a42 => k_is)
    (case l42 => k_is)
    (case c42 => k_is)
    (case k42 => k_is)
    (case a43 => k_is)
    (case l43 => k_is)
    (case c43 => k_is)
    (case k43 => k_is)
    (case a44 => k_is)
    (case l44 => k_is)
    (case c44 => k_is)
    (case k44 => k_is)
    (case a45 => k_is)
    (case i45 => k_is)
    (case l45 => k_is)
    (case c45 => k_is)
    (case a46 => k_is)
    (case l46 => k_is)
    (case c46 => k_is)
    (case k46 => k_is)
    (case a47 => k_is)
    (case l47 => k_is)
    (case c47 => k_is)
    (case k47 => k_is)
    (case a48 => k_is)
    (case l48 => k_is)
    (case c48 => k_is)
    (case k48 => k_is)
    (case hN => exact ⟨rfl, _, _, rfl, by decide, .cons ⟨_, rfl⟩ (.cons ⟨_, rfl⟩ (.cons ⟨_, rfl⟩ (.cons ⟨_, rfl⟩ .nil)))⟩)
