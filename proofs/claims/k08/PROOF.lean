import PyProof.Rows.All
import Wide.All
import OpenK.AllK
import Wide.FinOn
import HandS.ForMost
import HandS.ForExc
import KE.KDictKeyed
import HandS.TupLen
import KE.KDictDisplayH
import HandS.ExcOwn
import HandS.Deep
import HandS.TupAny
import HandS.TupMul
import HandS.IsInst
import HandS.Conv
import HandS.Strs
import HandS.RaiseMore
import KE.SortData
import KE.DatumOrd
import HandS.Zip
import KE.GoesZip
import KE.GoesMore
import HandS.TryMany
import HandS.HeadHook1
import HandS.More
import HandS.Style
import HandS.Codes
import HandS.Defaults
import HandS.Head0
import HandS.Head1
import HandS.Head2
import HandS.HeadEnd
import HandS.HeadHook2
import HandS.HeadHook4
import PySem.Challenge.RW_coveranew_k08_rules_alike_and_parted
import KE.KStateDown
set_option Elab.async false
set_option linter.all false
set_option maxRecDepth 99999
set_option maxHeartbeats 0
/-! Md0: dicts whose keys are tuples of any depth, in the hand layer's heap: what they hold, and what is asked of them. -/
namespace Mp
open PySem PySem.Spec
open PyProof.Rows L2
/-- keys, where they lie, values -/
abbrev Nkv := List (NestedKey × Addr × V)
def RelN (p : NestedKey × Addr × V) (q : NestedKey × Addr × Value) : Prop := p.1 = q.1 ∧ p.2.1 = q.2.1 ∧ RelV p.2.2 q.2.2
/-- what the object o of a dict says -/
structure NObj (P : Program) (w : World) (a : Addr) (kvs : Nkv) (o : Obj) : Prop where
  size : kvs.length ≤ sizeLine
  ns : (a == sysModules) = false
  ex : o.ExactDict
  ents : ∃ (ys : List (NestedKey × Addr × Value)) (es : Array DictEntry) (ep : Nat), Paired RelN kvs ys ∧ o.data = .dict es ep ∧ es.toList = ys.map (entryOfKey (nestedKind P w)) ∧ (ys.map (·.1)).Nodup
/-- such a dict, as an object of the hand layer -/
def dN (P : Program) (w : World) (a : Addr) (o : Obj) (kvs : Nkv) : HO := .ext fun h => NObj P w a kvs o ∧ h.get? a = some o
mutual
/-- the value v is the key k -/
inductive KeyV (K : PySem.W.Frag) (H : Hp) : NestedKey → V → Prop
  | non : KeyV K H .none .non
  | num (i : Int) : KeyV K H (.num i) (.int i)
  | text (x : Str) : KeyV K H (.text x) (.str x)
  | tup {a : Addr} {vs : List V} {ks : List NestedKey} : SqT K H a vs → KeyVs K H ks vs → KeyV K H (.tup ks) (.ref a)
inductive KeyVs (K : PySem.W.Frag) (H : Hp) : List NestedKey → List V → Prop
  | nil : KeyVs K H [] []
  | cons {k : NestedKey} {v : V} {ks : List NestedKey} {vs : List V} : KeyV K H k v → KeyVs K H ks vs → KeyVs K H (k :: ks) (v :: vs)
end
section
variable {X : Cx} {pins : List (Addr × Obj)} {σ : L2.St} {H : Hp} {s : Shared}
mutual
theorem KeyV.is (I : Inv X pins σ H s) : ∀ (k : NestedKey) (v : V) (u : Value), KeyV X.K H k v → RelV v u → NestedIs s.heap k u
  | .none, _, u, h, r => by
    cases h
    have r : u = Value.none := r
    subst r; exact .none
  | .num i, _, u, h, r => by
    cases h
    obtain ⟨t, rfl⟩ := r
    exact .int i t
  | .text x, _, u, h, r => by
    cases h
    obtain ⟨t, rfl⟩ := r
    exact .text x t
  | .tup ks, _, u, h, r => by
    cases h with
    | tup hs hk =>
      obtain rfl : u = Value.ref _ := r
      obtain ⟨its, rv, ⟨o, ho, hc, n, hd⟩, _⟩ := I.tuple hs
      exact .tup ho hc hd (by simpa using KeyVs.is I ks _ its hk rv)
theorem KeyVs.is (I : Inv X pins σ H s) : ∀ (ks : List NestedKey) (vs : List V) (us : List Value), KeyVs X.K H ks vs → Vals vs us → NestedAll s.heap ks us
  | [], _, us, h, r => by
    cases h; cases r; exact .nil
  | k :: ks, _, us, h, r => by
    cases h with
    | cons h1 h2 =>
      cases r with
      | cons r1 r2 => exact .cons (KeyV.is I k _ _ h1 r1) (KeyVs.is I ks _ _ h2 r2)
end
/-- a key of a dict: a tuple, not too deep -/
def KeyA (K : PySem.W.Frag) (H : Hp) (k : NestedKey) (b : Addr) : Prop := KeyV K H k (.ref b) ∧ k.depth ≤ 8
theorem KeyA.is (I : Inv X pins σ H s) {k : NestedKey} {b : Addr} (h : KeyA X.K H k b) : (nestedKind X.prog X.w).is s.heap k b := ⟨KeyV.is I k _ _ h.1 rfl, h.2⟩
/-- a dict that is held, with its keys -/
def NAt (X : Cx) (H : Hp) (a : Addr) (o : Obj) (kvs : Nkv) : Prop := Rd H a (dN X.prog X.w a o kvs) ∧ ∀ q ∈ kvs, KeyA X.K H q.1 q.2.1
def atN (kvs : Nkv) (k : NestedKey) : Option V := (kvs.find? fun q => decide (q.1 = k)).map (·.2.2)
def putN (kvs : Nkv) (k : NestedKey) (b : Addr) (v : V) : Nkv := if (atN kvs k).isSome then kvs.map (fun q => if q.1 = k then (q.1, q.2.1, v) else q) else kvs ++ [(k, b, v)]
theorem relN_at {k : NestedKey} : ∀ {kvs : Nkv} {ys : List (NestedKey × Addr × Value)}, Paired RelN kvs ys → RelO (atN kvs k) ((atKey ys k).map (·.2))
  | _, _, .nil => trivial
  | p :: kvs, q :: ys, .cons r t => by
    have ih := relN_at (k := k) t
    by_cases e : p.1 = k
    · have e2 : q.1 = k := by rw [← r.1]; exact e
      simp only [atN, atKey, List.find?_cons, e, e2, decide_true, Option.map_some]
      exact r.2.2
    · have e2 : ¬ q.1 = k := by rw [← r.1]; exact e
      simpa [atN, atKey, List.find?_cons, e, e2] using ih
theorem relN_keys : ∀ {kvs : Nkv} {ys : List (NestedKey × Addr × Value)}, Paired RelN kvs ys → kvs.map (·.1) = ys.map (·.1) ∧ kvs.map (·.2.1) = ys.map (·.2.1)
  | _, _, .nil => ⟨rfl, rfl⟩
  | _, _, .cons r t => by
    obtain ⟨a, b⟩ := relN_keys t
    simp only [List.map_cons, a, b, r.1, r.2.1, and_self]
theorem relN_put {k : NestedKey} {b : Addr} {v : V} {u : Value} (rv : RelV v u) {kvs : Nkv} {ys : List (NestedKey × Addr × Value)} (r : Paired RelN kvs ys) : Paired RelN (putN kvs k b v) (storedH ys k b u) := by
  have q := relN_at (k := k) r
  have hs : (atN kvs k).isSome = (atKey ys k).isSome := by
    have := q.isSome_eq
    rw [Option.isSome_map] at this; exact this
  unfold putN storedH
  rw [hs]
  split
  · clear q hs
    rename_i h; clear h
    induction r with
    | nil => exact .nil
    | @cons p q ps qs h t ih =>
      refine .cons ?_ ih
      unfold putAt
      show RelN (if p.1 = k then (p.1, p.2.1, v) else p) _
      by_cases e : p.1 = k
      · rw [if_pos e, if_pos (by rw [← h.1]; exact e)]; exact ⟨h.1, h.2.1, rv⟩
      · rw [if_neg e, if_neg (by rw [← h.1]; exact e)]; exact h
  · clear q hs
    rename_i h; clear h
    induction r with
    | nil => exact .cons ⟨rfl, rfl, rv⟩ .nil
    | cons h t ih => exact .cons h ih
theorem putN_len (kvs : Nkv) (k : NestedKey) (b : Addr) (v : V) : (putN kvs k b v).length ≤ kvs.length + 1 := by
  unfold putN; split <;> simp
theorem NAt.obj (I : Inv X pins σ H s) {a : Addr} {o : Obj} {kvs : Nkv} (h : NAt X H a o kvs) : NObj X.prog X.w a kvs o ∧ s.heap.get? a = some o := (h.1.ok I.hok).1
/-- what a dict that is held is at the library's level -/
theorem NAt.dict (I : Inv X pins σ H s) {a : Addr} {o : Obj} {kvs : Nkv} (h : NAt X H a o kvs) : kvs.length ≤ sizeLine ∧ (a == sysModules) = false ∧ ∃ ys, Paired RelN kvs ys ∧ s.heap.DictOfH (nestedKind X.prog X.w) a ys := by
  obtain ⟨⟨z, hd, h2, ys, es, ep, r, h3, h4, h5⟩, h1⟩ := h.obj I
  refine ⟨z, hd, ys, r, o, es, ep, h1, h2, h3, h4, ?_, h5⟩
  have all : ∀ {l : Nkv} {m : List (NestedKey × Addr × Value)}, Paired RelN l m → (∀ q ∈ l, KeyA X.K H q.1 q.2.1) → ∀ y ∈ m, (nestedKind X.prog X.w).is s.heap y.1 y.2.1 := by
    intro l m q
    induction q with
    | nil => intro _ y hy; exact nomatch hy
    | @cons p q ps qs hq t ih =>
      intro hk y hy
      rcases List.mem_cons.mp hy with e | hy
      · subst e
        have := (hk p (by simp)).is I
        rw [hq.1, hq.2.1] at this
        exact this
      · exact ih (fun z hz => hk z (by simp [hz])) y hy
  exact all r h.2
theorem NAt.typeIs (I : Inv X pins σ H s) {a : Addr} {o : Obj} {kvs : Nkv} (h : NAt X H a o kvs) : s.TypeIs (.ref a) "dict" := by
  obtain ⟨_, _, ys, _, dd⟩ := h.dict I
  exact dd.typeIs
theorem NAt.noDict (I : Inv X pins σ H s) {a : Addr} {o : Obj} {kvs : Nkv} (h : NAt X H a o kvs) : ∀ b, Value.ref a = .ref b → ∃ ob, s.heap.get? b = some ob ∧ ob.dict = none := fun b q => by
  cases q
  obtain ⟨no, h1⟩ := h.obj I
  exact ⟨o, h1, no.ex.2.1⟩
theorem room_n {A : Around} (hu : A.units + 9 < cLine) : (nestedKind X.prog X.w).room A.in1 := by
  show A.in1.units + 8 < cLine
  have : A.in1.units = A.units + 1 := rfl
  omega
variable {a b : Addr} {ob : Obj} {kvs : Nkv} {k : NestedKey} {v d : V} {u r : Value} {A : Around} {E : Value → Shared → Prop}
theorem n_getItem {Q : Value → Shared → Prop} (hu : A.units + 9 < cLine) (I : Inv X pins σ H s) (g : NAt X H a ob kvs) (hk : KeyA X.K H k b) (l : atN kvs k = some v) (h : ∀ w' s', Inv X pins σ H s' → RelV v w' → Q w' s') :
    wpAny (model X.prog X.w) A (getItem (.ref a) (.ref b)) Q E s := by
  obtain ⟨z, hd, ys, rel, dd⟩ := g.dict I
  obtain ⟨w', hw, rw'⟩ := RelO.some_of (v := v) (o := (atKey ys k).map (·.2)) (by rw [← l]; exact relN_at rel)
  obtain ⟨p, hp, hp2⟩ := Option.map_eq_some_iff.mp hw
  refine wpAny_getItem_heap (room_n (X := X) hu) (hk.is I) dd hp ?_
  rw [hp2]
  exact h w' _ (I.tok _) rw'
theorem n_in {Q : Value → Shared → Prop} (hu : A.units + 9 < cLine) (I : Inv X pins σ H s) (g : NAt X H a ob kvs) (hk : KeyA X.K H k b) (h : ∀ s', Inv X pins σ H s' → Q (.bool (atN kvs k).isSome) s') :
    wpAny (model X.prog X.w) A (compareOp .In (.ref b) (.ref a)) Q E s := by
  obtain ⟨z, hd, ys, rel, dd⟩ := g.dict I
  refine wpAny_in_heap (room_n (X := X) hu) (hk.is I) hd dd ?_
  have q := (relN_at (k := k) rel).isSome_eq
  rw [Option.isSome_map] at q
  rw [← q]
  exact h _ (I.tok _)
theorem n_notIn {Q : Value → Shared → Prop} (hu : A.units + 9 < cLine) (I : Inv X pins σ H s) (g : NAt X H a ob kvs) (hk : KeyA X.K H k b) (h : ∀ s', Inv X pins σ H s' → Q (.bool (!(atN kvs k).isSome)) s') :
    wpAny (model X.prog X.w) A (compareOp .NotIn (.ref b) (.ref a)) Q E s := by
  obtain ⟨z, hd, ys, rel, dd⟩ := g.dict I
  refine wpAny_notIn_heap (room_n (X := X) hu) (hk.is I) hd dd ?_
  have q := (relN_at (k := k) rel).isSome_eq
  rw [Option.isSome_map] at q
  rw [← q]
  exact h _ (I.tok _)
theorem n_get2 {Q : Value → Shared → Prop} (hu : A.units + 9 < cLine) (I : Inv X pins σ H s) (g : NAt X H a ob kvs) (hk : KeyA X.K H k b) (rd : RelV d r) (h : ∀ w' s', Inv X pins σ H s' → RelV ((atN kvs k).getD d) w' → Q w' s') :
    wpAny (model X.prog X.w) A (call (.builtin "dict.get") [.ref a, .ref b, r]) Q E s := by
  obtain ⟨z, hd, ys, rel, dd⟩ := g.dict I
  refine call_meetsIn PySem.F.slot_dict_get dd.typeIs PySem.F.entry_dict_get (PySem.F.args_dict_get_3 _ _ _) (meetsH_dict_get_default (nestedKind X.prog X.w) a b hd r) ⟨room_n (X := X) hu, k, ys, hk.is I, dd, h _ _ (I.tok _) ?_⟩
  exact (relN_at rel).getD rd
theorem n_len {Q : Value → Shared → Prop} (I : Inv X pins σ H s) (g : NAt X H a ob kvs) (h : ∀ t s', Inv X pins σ H s' → Q (.int ((kvs.length : Nat) : Int) t) s') : wpAny (model X.prog X.w) A (call (.builtin "len") [.ref a]) Q E s := by
  obtain ⟨z, hd, ys, rel, dd⟩ := g.dict I
  have hl : kvs.length = ys.length := Paired.length rel
  refine call_len_dictH hd dd (by rw [← hl]; rw [sizeLine_eq] at z; omega) ?_
  rw [← hl]
  exact h _ _ (I.tok _)
/-- the object of a dict that is as it should be -/
theorem dN_ok {P : Program} {w : World} {H' : Hp} {h' : Heap} {ys : List (NestedKey × Addr × Value)} (z : kvs.length ≤ sizeLine) (hd : (a == sysModules) = false) (rel : Paired RelN kvs ys) (dd : h'.DictOfH (nestedKind P w) a ys) :
    ∃ o, ObjOk P w H' h' a (dN P w a o kvs) ∧ h'.get? a = some o := by
  obtain ⟨o, es, ep, h1, h2, h3, h4, _, h5⟩ := dd
  exact ⟨o, ⟨⟨⟨z, hd, h2, ys, es, ep, rel, h3, h4, h5⟩, h1⟩, ⟨o, h1⟩, fun g1 g2 p k => ⟨p.1, k o p.2⟩⟩, h1⟩
theorem n_setItem {Q : Unit → Shared → Prop} (hu : A.units + 9 < cLine) (I : Inv X pins σ H s) (g : H a = some (dN X.prog X.w a ob kvs)) (gk : ∀ q ∈ kvs, KeyA X.K H q.1 q.2.1) (hl : kvs.length < sizeLine) (hk : KeyA X.K H k b) (rv : RelV v r)
    (h : ∀ o' s', Inv X pins σ (upd H a (dN X.prog X.w a o' (putN kvs k b v))) s' → Q () s') : wpAny (model X.prog X.w) A (setItem (.ref a) (.ref b) r) Q E s := by
  obtain ⟨z, hd, ys, rel, dd⟩ := NAt.dict I ⟨.inl g, gk⟩
  have hz : ys.length ≤ sizeLine := by rw [← Paired.length rel]; exact z
  have hl : (putN kvs k b v).length ≤ sizeLine := by have := putN_len kvs k b v; omega
  refine wpAny_setItem_heap (hsz := hz) (room_n (X := X) hu) (hk.is I) dd fun h' dd' hs => ?_
  obtain ⟨o', ok, he⟩ := dN_ok (H' := H) hl hd (relN_put rv rel) dd'
  exact h o' _ (d_write I (by rw [g]; exact True.intro) hs ⟨o', he⟩ ok)
theorem n_empty {P : Program} {w : World} {H : Hp} (h : Heap) (hb : sysModules < h.objs.size) : ObjOk P w H (h.push { cls := .type "dict", data := .dict #[] }) h.objs.size (dN P w h.objs.size { cls := .type "dict", data := .dict #[] } []) :=
  ⟨⟨⟨Nat.zero_le _, beq_eq_false_iff_ne.mpr (Ne.symm (Nat.ne_of_lt hb)), ⟨rfl, rfl, rfl⟩, [], #[], 0, .nil, rfl, rfl, List.nodup_nil⟩, Heap.get?_push_size _ rfl⟩, ⟨_, Heap.get?_push_size _ rfl⟩, fun _ _ p k => ⟨p.1, k _ p.2⟩⟩
end
/-! ### displays -/
section
variable {X : Cx} {pos : Pos}
/-- {}, for keys of any depth -/
theorem pe_dnewN : PE X (.Dict [] [] pos) (fun _ H Q => ∀ q o, H q = none → Q (.ref q) (upd H q (dN X.prog X.w q o []))) := ⟨fun pins s σ H Q I h =>
  wpAny_Dict_empty ⟨.ref s.heap.objs.size, _, I.laid (a := s.heap.objs.size) (o := dN X.prog X.w s.heap.objs.size { cls := .type "dict", data := .dict #[] } []) (t' := s.toks) (fun _ _ q => Heap.get?_push_of_some _ q) (Nat.le_refl _) (n_empty s.heap I.big), rfl, h _ _ (I.hok.fresh (Nat.le_refl _))⟩⟩
end
/-! ### the keys, walked -/
/-- the keys of a dict that stands, in their order -/
def ItN (P : Program) (w : World) (d : Addr) (o : Obj) (kvs : Nkv) : It :=
  ⟨fun i H => Rd H d (dN P w d o kvs) ∧ i < kvs.length, fun i H x H' => H' = H ∧ ∃ q, kvs[i]? = some q ∧ x = .ref q.2.1, fun i H => Rd H d (dN P w d o kvs) ∧ kvs.length ≤ i⟩
theorem n_raw {P : Program} {w : World} {a : Addr} {kvs : Nkv} {o : Obj} (h : NObj P w a kvs o) : ∃ (es : Array DictEntry) (ep : Nat), o.data = .dict es ep ∧ es.size = kvs.length ∧ ∀ (i : Nat) (q : NestedKey × Addr × V), kvs[i]? = some q → ∃ en : DictEntry, es[i]? = some en ∧ en.key = .ref q.2.1 := by
  obtain ⟨_, _, _, ys, es, ep, r, h3, h4, _⟩ := h
  refine ⟨es, ep, h3, ?_, fun i q e => ?_⟩
  · have l1 : es.size = ys.length := size_of_entries h4
    have l2 : kvs.length = ys.length := Paired.length r
    omega
  · obtain ⟨y, hy, _, e2, _⟩ := paired_get r e
    have z := entry_at h4 i
    rw [hy] at z
    exact ⟨_, z, by rw [e2]; rfl⟩
theorem rdN_obj {X : Cx} {pins : List (Addr × Obj)} {σ : L2.St} {H : Hp} {s : Shared} {d : Addr} {o : Obj} {kvs : Nkv} (I : Inv X pins σ H s) (h : Rd H d (dN X.prog X.w d o kvs)) : NObj X.prog X.w d kvs o ∧ s.heap.get? d = some o := (h.ok I.hok).1
theorem turn_keysN {P : Program} {w : World} {K : PySem.W.Frag} {tg : Expr} {d : Addr} {o : Obj} {es : Array DictEntry} {ep : Nat} {kvs : Nkv} (it : Addr) (hod : o.data = .dict es ep) :
    Turn P w K tg (ItN P w d o kvs) [it] it (fun i h => h.IsKeyIter it d i kvs.length ep) where
  mem := by simp
  obj := fun i h st b hb => by
    obtain rfl : b = it := by simpa using hb
    obtain ⟨oi, e, _, dd⟩ := st
    exact ⟨oi, e, fun v z => by rw [dd] at z; cases z⟩
  keep := fun i h h' st k => st.at fun oi e => k it (by simp) oi e
  item := by
    intro X hP hw hK hc i pins s σ H E I hf st hg
    subst hP hw hK
    obtain ⟨hd, hi⟩ := hg
    obtain ⟨f0, f1, f2, f3, f4, f5⟩ := hf it (by simp)
    obtain ⟨no, hgd⟩ := rdN_obj I hd
    obtain ⟨es', ep', hdt, hsz, ent⟩ := n_raw no
    obtain ⟨rfl, rfl⟩ := dict_ep hod hdt
    obtain ⟨q, hq⟩ : ∃ q, kvs[i]? = some q := ⟨kvs[i], List.getElem?_eq_getElem hi⟩
    obtain ⟨en, hen, hkey⟩ := ent i q hq
    refine next_key_item st hgd hdt hsz hen fun h' st' sb => ?_
    have I1 : Inv X pins σ H { s with heap := h' } := I.turned (t' := s.toks) (fun b ob hb e => (sb.2 b hb).trans e) f0 f1 f3 f4 f5
    obtain ⟨oi, e, c, dd⟩ := id st'
    exact ⟨en.key, rfl, go_of (s := { s with heap := h' }) e c dd (by decide) ⟨.ref q.2.1, H, I1, hkey, ⟨rfl, q, hq, rfl⟩, st', fun b hb => (hf b hb).1⟩⟩
  done := by
    intro X hP hw hK hc i pins s σ H E I hf st hg
    subst hP hw hK
    obtain ⟨hd, hi⟩ := hg
    obtain ⟨f0, f1, f2, f3, f4, f5⟩ := hf it (by simp)
    obtain ⟨no, hgd⟩ := rdN_obj I hd
    obtain ⟨es', ep', hdt, hsz, ent⟩ := n_raw no
    obtain ⟨rfl, rfl⟩ := dict_ep hod hdt
    exact next_key_end (I.ok.hd hc) st hgd hdt hsz hi fun h' eb => ⟨rfl, I.turned (t' := s.toks) (fun b ob hb e => eb b ob hb e) f0 f1 f3 f4 f5⟩
  self := fun A i s Q E st h => by
    refine wpAny_pyIter_slot st.typeIs PySem.F.slot_dict_keyiterator_iter (wpAny_call_entry PySem.F.slot_dict_keyiterator_iter st.typeIs PySem.F.entry_dict_keyiterator_iter ?_ (PySem.F.args_dict_keyiterator_iter_1 _))
    show wpAny _ _ (ret (.ref it)) _ _ s
    exact wpAny_pure ⟨_, rfl, "dict_keyiterator", _, st.typeIs, PySem.F.slot_dict_keyiterator_next.lookup, h⟩
/-- for k in d -/
theorem pi_keysN {X : Cx} {tg e : Expr} {td : TE} (he : PE X e td) : PI X tg e (fun σ H R => td σ H fun x H1 => ∃ d o kvs, x = .ref d ∧ Rd H1 d (dN X.prog X.w d o kvs) ∧ R (ItN X.prog X.w d o kvs) H1) := by
  refine ⟨fun pins s σ H R I h => thn (he.run pins s σ H _ I h) fun u s1 ⟨x, H1, I1, rx, d, o, kvs, ex, hd, q⟩ => ?_⟩
  subst ex
  obtain rfl : u = Value.ref d := rx
  obtain ⟨no, hgd⟩ := rdN_obj I1 hd
  obtain ⟨es, ep, hdt, hsz, ent⟩ := n_raw no
  refine iter_keys no.ns hgd no.ex hdt (pi_one (tk := s1.toks) I1 _ (turn_keysN _ hdt) ⟨_, Heap.get?_push_size _ rfl, rfl, ?_⟩ q)
  rw [hsz] <;> rfl
end Mp
/-! Md1: dicts of either kind: a display of one pair, get, in, [], stores, len. -/
namespace Mp
open PySem PySem.Spec
open PyProof.Rows L2
section
variable {X : Cx} {pos : Pos}
theorem pe_disp1N {k v : Expr} {tk tv : TE} (hu : X.A.units + 9 < cLine) (hk : PE X k tk) (hv : PE X v tv) :
    PE X (.Dict [some k] [v] pos) (fun σ H Q => ∀ q o, H q = none → tk σ (upd H q (dN X.prog X.w q o [])) fun x H1 => tv σ H1 fun y H2 => H2 q = some (dN X.prog X.w q o []) ∧ ∃ key b, x = .ref b ∧ KeyA X.K H2 key b ∧
      ∀ o', Q (.ref q) (upd H2 q (dN X.prog X.w q o' [(key, b, y)]))) := by
  refine ⟨fun pins s σ H Q I h => ?_⟩
  have hn := I.hok.fresh (Nat.le_refl s.heap.objs.size)
  have I1 := I.laid (a := s.heap.objs.size) (o := dN X.prog X.w s.heap.objs.size { cls := .type "dict", data := .dict #[] } []) (h' := s.heap.push { cls := .type "dict", data := .dict #[] }) (t' := s.toks) (fun _ _ q => Heap.get?_push_of_some _ q) (Nat.le_refl _) (n_empty s.heap I.big)
  have hr : (nestedKind X.prog X.w).room X.A := by show X.A.units + 8 < cLine; omega
  rw [arm_eval_Dict, zip_pairTrees [some k] [v] X.env pos rfl rfl, dictDisplay_pairs (pairTrees [some k] [v] X.env pos) (by simp [pairTrees]) (by simp [pairTrees])]
  refine wpAny_bind (wpAny_standAt (wpAny_bind (wpAny_subDictH (knd := nestedKind X.prog X.w) (Q := fun d s' => wpAny (model X.prog X.w) X.A (pure (Value.ref d)) _ X.xe s') hr (by simp [pairTrees]) ?_)))
  refine pairTrees_cons_walk (thn (hk.run pins _ σ _ _ I1 (h _ _ hn)) fun u s1 ⟨x, H1, I1, rx, q1⟩ => thn (hv.run pins s1 σ H1 _ I1 q1) fun w2 s2 ⟨y, H2, I2, ry, q2⟩ => pairTrees_nil_walk ?_)
  obtain ⟨e, key, b, ex, ka, q3⟩ := q2
  subst ex
  obtain rfl : u = Value.ref b := rx
  obtain ⟨z, hd, ys, r0, dd⟩ := NAt.dict I2 (a := s.heap.objs.size) (kvs := []) ⟨.inl e, fun q h => nomatch h⟩
  cases r0
  refine ⟨[(key, b, w2)], ⟨rfl, rfl, ka.is I2, trivial⟩, dd, fun h' tk dd' hs => ?_⟩
  obtain ⟨o', ok, he⟩ := dN_ok (H' := H2) (kvs := [(key, b, y)]) (by rw [sizeLine_eq]; simp) hd (.cons ⟨rfl, rfl, ry⟩ .nil) dd'
  exact wpAny_pure ⟨.ref s.heap.objs.size, _, d_write I2 (by rw [e]; exact True.intro) hs ⟨o', he⟩ (show ObjOk X.prog X.w (upd H2 s.heap.objs.size (dN X.prog X.w s.heap.objs.size o' [(key, b, y)])) h' s.heap.objs.size (dN X.prog X.w s.heap.objs.size o' [(key, b, y)]) from ok), rfl, q3 o'⟩
end
/-- the object is a dict -/
def IsDN (X : Cx) (H : Hp) (a : Addr) : Prop := IsD H a ∨ ∃ o kvs, NAt X H a o kvs
/-- what the dict at a holds at the key y -/
def DG (X : Cx) (H : Hp) (a : Addr) (y : V) (r : Option V) : Prop := DGet H a y r ∨ ∃ o kvs k b, NAt X H a o kvs ∧ y = .ref b ∧ KeyA X.K H k b ∧ r = atN kvs k
section
variable {X : Cx} {pins : List (Addr × Obj)} {σ : L2.St} {H : Hp} {s : Shared} {a : Addr} {y z v : V} {u r : Value} {o : Option V} {A : Around} {E : Value → Shared → Prop}
theorem isDN_at (I : Inv X pins σ H s) (d : IsDN X H a) : s.TypeIs (.ref a) "dict" ∧ (∀ b, Value.ref a = .ref b → ∃ ob, s.heap.get? b = some ob ∧ ob.dict = none) ∧ (a == sysModules) = false := by
  rcases d with d | ⟨o, kvs, g⟩
  · exact isD_at I d
  · exact ⟨g.typeIs I, g.noDict I, (g.obj I).1.ns⟩
theorem DG.isDN (g : DG X H a y o) : IsDN X H a := by
  rcases g with g | ⟨ob, kvs, k, b, g, _⟩
  · rcases g with ⟨kvs, k, e, _⟩ | ⟨kvs, k, b, e, _⟩
    · exact .inl (.inl ⟨kvs, e⟩)
    · exact .inl (.inr ⟨kvs, e⟩)
  · exact .inr ⟨ob, kvs, g⟩
theorem dg_get1 {Q : Value → Shared → Prop} (hu : A.units + 9 < cLine) (I : Inv X pins σ H s) (g : DG X H a y o) (ry : RelV y u) (h : ∀ w' s', Inv X pins σ H s' → RelV (o.getD .non) w' → Q w' s') :
    wpAny (model X.prog X.w) A (call (.builtin "dict.get") [.ref a, u]) Q E s := by
  rcases g with g | ⟨ob, kvs, k, b, g, ey, hk, l⟩
  · exact d_get1 (by omega) I g ry h
  · subst ey
    obtain rfl : u = Value.ref b := ry
    obtain ⟨z, hd, ys, rel, dd⟩ := g.dict I
    refine call_meetsIn PySem.F.slot_dict_get dd.typeIs PySem.F.entry_dict_get (PySem.F.args_dict_get_2 _ _) (meetsH_dict_get (nestedKind X.prog X.w) a b hd) ⟨room_n (X := X) hu, k, ys, hk.is I, dd, h _ _ (I.tok _) ?_⟩
    rw [l]
    exact (relN_at rel).getD rfl
theorem dg_get2 {Q : Value → Shared → Prop} (hu : A.units + 9 < cLine) (I : Inv X pins σ H s) (g : DG X H a y o) (ry : RelV y u) (rd : RelV z r) (h : ∀ w' s', Inv X pins σ H s' → RelV (o.getD z) w' → Q w' s') :
    wpAny (model X.prog X.w) A (call (.builtin "dict.get") [.ref a, u, r]) Q E s := by
  rcases g with g | ⟨ob, kvs, k, b, g, ey, hk, l⟩
  · exact d_get2 (by omega) I g ry rd h
  · subst ey
    obtain rfl : u = Value.ref b := ry
    exact n_get2 hu I g hk rd fun w' s' I' r' => h w' s' I' (by rw [l]; exact r')
theorem dg_in {Q : Value → Shared → Prop} (hu : A.units + 9 < cLine) (I : Inv X pins σ H s) (g : DG X H a y o) (ry : RelV y u) (h : ∀ s', Inv X pins σ H s' → Q (.bool o.isSome) s') :
    wpAny (model X.prog X.w) A (compareOp .In u (.ref a)) Q E s := by
  rcases g with g | ⟨ob, kvs, k, b, g, ey, hk, l⟩
  · exact d_in (by omega) I g ry h
  · subst ey
    obtain rfl : u = Value.ref b := ry
    exact n_in hu I g hk fun s' I' => by rw [← l]; exact h s' I'
theorem dg_notIn {Q : Value → Shared → Prop} (hu : A.units + 9 < cLine) (I : Inv X pins σ H s) (g : DG X H a y o) (ry : RelV y u) (h : ∀ s', Inv X pins σ H s' → Q (.bool (!o.isSome)) s') :
    wpAny (model X.prog X.w) A (compareOp .NotIn u (.ref a)) Q E s := by
  rcases g with g | ⟨ob, kvs, k, b, g, ey, hk, l⟩
  · exact d_notIn (by omega) I g ry h
  · subst ey
    obtain rfl : u = Value.ref b := ry
    exact n_notIn hu I g hk fun s' I' => by rw [← l]; exact h s' I'
theorem dg_getItem {Q : Value → Shared → Prop} (hu : A.units + 9 < cLine) (I : Inv X pins σ H s) (g : DG X H a y (some v)) (ry : RelV y u) (h : ∀ w' s', Inv X pins σ H s' → RelV v w' → Q w' s') :
    wpAny (model X.prog X.w) A (getItem (.ref a) u) Q E s := by
  rcases g with g | ⟨ob, kvs, k, b, g, ey, hk, l⟩
  · exact d_getItem (by omega) I g ry h
  · subst ey
    obtain rfl : u = Value.ref b := ry
    exact n_getItem hu I g hk l.symm h
end
/-- d.get(k), d.get(k, x) -/
def tG1 (X : Cx) (td ty : TE) : TE := fun σ H Q => td σ H fun x H1 => ∃ a, x = .ref a ∧ IsDN X H1 a ∧ ty σ H1 fun y H2 => ∃ o, DG X H2 a y o ∧ Q (o.getD .non) H2
def tG2 (X : Cx) (td ty tx : TE) : TE := fun σ H Q => td σ H fun x H1 => ∃ a, x = .ref a ∧ IsDN X H1 a ∧ ty σ H1 fun y H2 => tx σ H2 fun z H3 => ∃ o, DG X H3 a y o ∧ Q (o.getD z) H3
section
variable {X : Cx} {o e f : Expr} {apos cpos : Pos} {td ty tx : TE}
theorem pe_g1 (hu : X.A.units + 9 < cLine) (ho : PE X o td) (he : PE X e ty) (m : M1 X o "get" apos e cpos) : PE X (.Call (.Attribute o "get" apos) [e] [] cpos) (tG1 X td ty) := by
  refine ⟨fun pins s σ H Q I h => wpAny_Call_method m.base m.few m.line PySem.F.plainAttrs_dict PySem.F.slot_dict_get PySem.F.type_dict_get (thn (ho.run pins s σ H _ I h) fun u s1 ⟨x, H1, I1, rx, a, ex, d, q1⟩ => ?_)⟩
  subst ex
  obtain rfl : u = Value.ref a := rx
  obtain ⟨t1, t2, _⟩ := isDN_at I1 d
  refine ⟨t1, t2, ?_⟩
  rw [m.trees]
  refine Calls.callWith_builtin rfl (Calls.evalArgs_plain (Calls.spliced_cons (thn (he.run pins s1 σ H1 _ I1 q1) fun iv s2 ⟨y, H2, I2, ry, ov, g, q2⟩ => Calls.spliced_nil ?_)))
  exact dg_get1 hu I2 g ry fun w' s3 I3 rw' => ⟨_, H2, I3, rw', q2⟩
theorem pe_g2 (hu : X.A.units + 9 < cLine) (ho : PE X o td) (he : PE X e ty) (hf : PE X f tx) (m : M2 X o "get" apos e f cpos) : PE X (.Call (.Attribute o "get" apos) [e, f] [] cpos) (tG2 X td ty tx) := by
  refine ⟨fun pins s σ H Q I h => wpAny_Call_method m.base m.few m.line PySem.F.plainAttrs_dict PySem.F.slot_dict_get PySem.F.type_dict_get (thn (ho.run pins s σ H _ I h) fun u s1 ⟨x, H1, I1, rx, a, ex, d, q1⟩ => ?_)⟩
  subst ex
  obtain rfl : u = Value.ref a := rx
  obtain ⟨t1, t2, _⟩ := isDN_at I1 d
  refine ⟨t1, t2, ?_⟩
  rw [m.trees]
  refine Calls.callWith_builtin rfl (Calls.evalArgs_plain (Calls.spliced_cons (thn (he.run pins s1 σ H1 _ I1 q1) fun iv s2 ⟨y, H2, I2, ry, q2⟩ =>
    Calls.spliced_cons (thn (hf.run pins s2 σ H2 _ I2 q2) fun fv s3 ⟨z, H3, I3, rz, ov, g, q3⟩ => Calls.spliced_nil ?_))))
  exact dg_get2 hu I3 g ry rz fun w' s4 I4 rw' => ⟨_, H3, I4, rw', q3⟩
end
section
variable {X : Cx}
/-- len of a dict of either kind -/
def rLenD (X : Cx) : List V → Hp → VK → Prop := fun xs H Q => ∃ (a : Addr) (n : Nat), xs = [.ref a] ∧ ((∃ kvs, Rd H a (.dK kvs) ∧ n = kvs.length) ∨ ∃ o kvs, NAt X H a o kvs ∧ n = kvs.length) ∧ Q (.int ((n : Nat) : Int)) H
theorem call_lenD : CallR X (.builtin "len") (rLenD X) := by
  intro pins s σ H xs us Q I r h
  obtain ⟨a, n, rfl, g, q⟩ := h
  obtain ⟨u, rfl, rx⟩ := vals1 r
  obtain rfl : u = .ref a := rx
  rcases g with ⟨kvs, e, rfl⟩ | ⟨o, kvs, g, rfl⟩
  · exact d_len I e fun t s' I' => ⟨.int ((kvs.length : Nat) : Int), H, I', ⟨t, rfl⟩, q⟩
  · exact n_len I g fun t s' I' => ⟨.int ((kvs.length : Nat) : Int), H, I', ⟨t, rfl⟩, q⟩
/-- in, not in, [] -/
def rInG (X : Cx) : R2 := fun y x H Q => ∃ a o, x = .ref a ∧ DG X H a y o ∧ Q (.bl o.isSome) H
def rNinG (X : Cx) : R2 := fun y x H Q => ∃ a o, x = .ref a ∧ DG X H a y o ∧ Q (.bl (!o.isSome)) H
def rIxG (X : Cx) : R2 := fun x y H Q => ∃ a v, x = .ref a ∧ DG X H a y (some v) ∧ Q v H
theorem op_inG (hu : X.A.units + 9 < cLine) : OpR X (compareOp .In) (rInG X) := by
  intro pins s σ H x y v u Q I rx ry h
  obtain ⟨a, ov, rfl, g, q⟩ := h
  obtain rfl : u = Value.ref a := ry
  exact dg_in hu I g rx fun s3 I3 => ⟨.bl ov.isSome, H, I3, rfl, q⟩
theorem op_ninG (hu : X.A.units + 9 < cLine) : OpR X (compareOp .NotIn) (rNinG X) := by
  intro pins s σ H x y v u Q I rx ry h
  obtain ⟨a, ov, rfl, g, q⟩ := h
  obtain rfl : u = Value.ref a := ry
  exact dg_notIn hu I g rx fun s3 I3 => ⟨.bl (!ov.isSome), H, I3, rfl, q⟩
theorem ix_dictG (hu : X.A.units + 9 < cLine) : IxR X (rIxG X) := by
  intro value slice pins s σ H x y v u Q I rx ry h hs
  obtain ⟨a, w, rfl, g, q⟩ := h
  obtain rfl : v = Value.ref a := rx
  have hT := (isDN_at I g.isDN).1
  unfold subscriptTail
  refine wpAny_bind ?_
  rw [getitemInPython_of_ne hT.not_modules]
  refine wpAny_bind (wpAny_specialOf hT PySem.F.slot_dict_getitem.lookup ?_)
  have fin : wpAny (model X.prog X.w) X.A (subscripted slice false (.ref a) u) (fun r s₃ => wpAny (model X.prog X.w) X.A (letTemporaryGo value (.ref a) r >>= fun _ => pure r) (EP X pins σ Q) X.xe s₃) X.xe s := by
    rw [hs]
    exact wpAny_operating (dg_getItem hu I g ry fun w' s3 I3 rw' => wpAny_bind (wpAny_letTemporaryGo (wpAny_pure ⟨w, H, I3, rw', q⟩)))
  first
    | exact wpAny_pure (wpAny_bind fin)
    | exact wpAny_bind (wpAny_pure (wpAny_bind fin))
    | exact wpAny_bind fin
/-- d[k] = v -/
def sSt (X : Cx) (td ty tv : TE) : TS := fun D σ H => tv σ H fun v H1 => td σ H1 fun x H2 => ty σ H2 fun y H3 => ∃ a, x = .ref a ∧ ((∃ H4, DPut H3 a y v H4 ∧ D.nx σ H4) ∨
  ∃ o kvs k b, H3 a = some (dN X.prog X.w a o kvs) ∧ (∀ q ∈ kvs, KeyA X.K H3 q.1 q.2.1) ∧ kvs.length < sizeLine ∧ y = .ref b ∧ KeyA X.K H3 k b ∧ ∀ o', D.nx σ (upd H3 a (dN X.prog X.w a o' (putN kvs k b v))))
theorem ps_st {o i value : Expr} {pos pos' : Pos} {td ty tv : TE} (hu : X.A.units + 9 < cLine) (ho : PE X o td) (hi : PE X i ty) (hv : PE X value tv) (hs : swapsWith value (some (.Subscript o i pos')) pos.line X.env = pure false) :
    PS X (.Assign [.Subscript o i pos'] value pos) (sSt X td ty tv) := by
  refine ⟨fun pins s σ H D I h => wpAny_Assign_Subscript (thn (hv.run pins s σ H _ I h) fun r s1 ⟨v, H1, I1, rv, q1⟩ => thn (ho.run pins s1 σ H1 _ I1 q1) fun u s2 ⟨x, H2, I2, rx, q2⟩ => thn (hi.run pins s2 σ H2 _ I2 q2) fun iv s3 ⟨y, H3, I3, ry, a, ex, q3⟩ => ?_) hs⟩
  subst ex
  obtain rfl : u = Value.ref a := rx
  rcases q3 with ⟨H4, g, q3⟩ | ⟨ob, kvs, k, b, g, gk, hl, ey, hk, q3⟩
  · exact d_setItem (by omega) I3 g ry rv fun s4 I4 => ⟨σ, H4, I4, q3⟩
  · subst ey
    obtain rfl : iv = Value.ref b := ry
    exact n_setItem hu I3 g gk hl hk rv fun o' s4 I4 => ⟨σ, _, I4, q3 o'⟩
end
end Mp
/-! Mp1: data without addresses, a small language of the constructs that the program and the laws use, and what it means. -/
namespace Mp
abbrev Tx := List Nat

/-- data; m k: the k-th object of the activation that can still change -/
inductive D where
  | non | bl (b : Bool) | int (i : Int) | str (s : Tx) | tup (xs : List D) | lst (xs : List D) | dct (ks vs : List D) | dtu (ks vs : List D) | obj (c : Nat) (fs : List D) | m (k : Nat)
  deriving Inhabited

/-- an object of the activation: it may change, or not any more -/
inductive M where
  | mu (d : D) | fz (d : D)
  deriving Inhabited
abbrev Mm := List M
abbrev Sl := List (Option D)
def M.val : M → D
  | .mu d => d
  | .fz d => d
def M.isMu : M → Bool
  | .mu _ => true
  | .fz _ => false

/-- an error: its class, its fields -/
structure Ex where
  cls : Nat
  fs : List D
inductive RE where
  | ok (d : D) (mm : Mm)
  | ex (x : Ex) (mm : Mm)
inductive RS where
  | nx (sl : Sl) (mm : Mm) | rt (d : D) (mm : Mm) | bk (sl : Sl) (mm : Mm) | ct (sl : Sl) (mm : Mm) | ex (x : Ex) (sl : Sl) (mm : Mm)
/-- what a def gives back: the borrowed objects behind it, a new object that it hands on -/
inductive FR where
  | rt (d : D) (bs : Mm) (new : Mm)
  | ex (x : Ex) (bs : Mm)

/-! ### data -/
def okT (s : Tx) : Bool := s.all fun c => decide (c < 1114112)
def toS (s : Tx) : PySem.Str := ⟨s.toArray⟩
mutual
def pureD : D → Bool
  | .non => true
  | .bl _ => true
  | .int _ => true
  | .str _ => true
  | .tup xs => pureDs xs
  | .lst xs => pureDs xs
  | .dct ks vs => pureDs ks && pureDs vs
  | .dtu ks vs => pureDs ks && pureDs vs
  | .obj _ fs => pureDs fs
  | .m _ => false
def pureDs : List D → Bool
  | [] => true
  | x :: xs => pureD x && pureDs xs
end
mutual
/-- how deep; what == does not serve: 100 -/
def hgt : D → Nat
  | .non => 0
  | .bl _ => 0
  | .int _ => 0
  | .str _ => 0
  | .tup xs => hgts xs + 1
  | .lst xs => hgts xs + 1
  | .dct _ _ => 100
  | .dtu _ _ => 100
  | .obj _ _ => 100
  | .m _ => 100
def hgts : List D → Nat
  | [] => 0
  | x :: xs => max (hgt x) (hgts xs)
end
mutual
def toPy : D → PySem.PyData
  | .non => .none
  | .bl b => .bool b
  | .int i => .int i
  | .str s => .str ⟨s.toArray⟩
  | .tup xs => .tuple (toPys xs)
  | .lst xs => .list (toPys xs)
  | .dct _ _ => .none
  | .dtu _ _ => .none
  | .obj _ _ => .none
  | .m _ => .none
def toPys : List D → List PySem.PyData
  | [] => []
  | x :: xs => toPy x :: toPys xs
end
mutual
/-- x == y -/
def eqD : D → D → Bool
  | .non, y => (match y with | .non => true | _ => false)
  | .bl a, y => (match y with | .bl b => a == b | .int j => (if a then 1 else 0) == j | _ => false)
  | .int i, y => (match y with | .int j => decide (i = j) | .bl b => i == (if b then 1 else 0) | _ => false)
  | .str s, y => (match y with | .str t => decide (s = t) | _ => false)
  | .tup xs, y => (match y with | .tup ys => eqDs xs ys | _ => false)
  | .lst xs, y => (match y with | .lst ys => eqDs xs ys | _ => false)
  | .dct _ _, _ => false
  | .dtu _ _, _ => false
  | .obj _ _, _ => false
  | .m _, _ => false
def eqDs : List D → List D → Bool
  | [], ys => (match ys with | [] => true | _ :: _ => false)
  | x :: xs, ys => (match ys with | y :: ys => eqD x y && eqDs xs ys | [] => false)
end
/-- what a value stands for -/
def rd (mm : Mm) : D → D
  | .m k => (match mm[k]? with | some x => x.val | none => .non)
  | d => d
def okEq (d : D) : Bool := decide (hgt d ≤ 64)
def memD (x : D) (xs : List D) : Bool := xs.any fun z => eqD z x
def szl : Nat := 16777216
mutual
/-- can be a key: no truth values in it, no lists -/
def keyD : D → Nat → Bool
  | .non, _ => true
  | .int _, _ => true
  | .str _, _ => true
  | .tup xs, n => (match n with | 0 => false | n + 1 => keyDs xs n)
  | .bl _, _ => false
  | .lst _, _ => false
  | .dct _ _, _ => false
  | .dtu _ _, _ => false
  | .obj _ _, _ => false
  | .m _, _ => false
def keyDs : List D → Nat → Bool
  | [], _ => true
  | x :: xs, n => keyD x n && keyDs xs n
end

/-- a dict's key: a number, a text -/
def isKT : D → Bool
  | .int _ => true
  | .str _ => true
  | _ => false
/-- a text of signs -/
def okKT : D → Bool
  | .str s => okT s
  | _ => true
def isDct : D → Bool
  | .dct _ _ => true
  | .dtu _ _ => true
  | _ => false
/-- a dict's key: a tuple -/
def isKD : D → Bool
  | .tup xs => keyDs xs 6
  | _ => false
/-- no key twice -/
def ndK : List D → Bool
  | [] => true
  | k :: ks => !(memD k ks) && ndK ks
/-! ### the language -/
inductive Ty where | bool | int | str | tuple | list | dict | cls (c : Nat)
inductive U1 where
  | neg | len | int | any | all | sorted | list | listM | tuple | str | minl | maxl | pop | frz | isN | notN | lenD | listD | sortD | isi (t : Ty) | tix (g : Nat) (xs : List Tx)
inductive B2 where
  | add | sub | mul | fdiv | mod | pow | eq | ne | lt | le | gt | ge | mem | nmem | idx | app | popat | split | join | index | min2 | max2 | lrng | rep
inductive Tg where | nm (i : Nat) | tp (is : List Nat)
mutual
inductive E where
  | var (i : Nat) | cst (d : D) | glb (g : Nat) | tup (es : Es) | lst (es : Es) | nls (es : Es) | un (o : U1) (a : E) | bin (o : B2) (a b : E) | mth (o : B2) (a b : E)
  | not (a : E) | and (a b : E) | or (a b : E) | ite (c a b : E) | chn (o p : B2) (a b c : E) | call (f : Nat) (es : Es) | call0 (f : Nat) | slc (a lo hi : E) | no
  | lc (mu : Bool) (tg : Tg) (elt : E) (it : It) (cnd : E)
  | dsp (ks : List D) (es : Es)
  | dn (tk : Bool) | d1 (k v : E) | get1 (d k : E) | get2 (d k x : E)
inductive Es where | nil | cons (e : E) (es : Es)
inductive It where | seq (a : E) | rng (a : E) | rng2 (a b : E) | zip (a b : E) | enm (a : E)
end
mutual
inductive S where
  | asg (i : Nat) (e : E) | unp (is : List Nat) (e : E) | par (i j : Nat) (a b : E) | sto (i : Nat) (ix e : E) | exp (e : E) | ret (e : E) | retn
  | ifs (c : E) (a b : B) | for (tg : Tg) (it : It) (b : B) | whl (c : E) (b : B) | brk | cnt | pass | rse (c : Nat) (es : Es) | try (b : B) (hs : Hs)
  | dead | std (i : Nat) (ix e : E) | par3 (i j l : Nat) (a b c : E)
inductive B where | nil | cons (s : S) (b : B)
/-- except clauses: the class, what is handed back -/
inductive Hs where | nil | cons (c : Nat) (d : D) (hs : Hs)
end
structure FDef where
  np : Nat
  ns : Nat
  body : B

/-! ### what it means -/
def bindE (r : Option RE) (f : D → Mm → Option RE) : Option RE := match r with
  | none => none
  | some (.ok d mm) => f d mm
  | some (.ex x mm) => some (.ex x mm)
def okE (d : D) (mm : Mm) : Option RE := some (.ok d mm)
def allBl : List D → Option (List Bool)
  | [] => some []
  | .bl b :: r => (allBl r).map (b :: ·)
  | _ :: _ => none
def allInt : List D → Option (List Int)
  | [] => some []
  | .int b :: r => (allInt r).map (b :: ·)
  | _ :: _ => none
def allStr : List D → Option (List Tx)
  | [] => some []
  | .str b :: r => (allStr r).map (b :: ·)
  | _ :: _ => none
/-- the place of an index -/
abbrev ixP (n : Nat) (i : Int) : Option Nat := L2.ixN n i
abbrev atD (xs : List D) (i : Int) : Option D := L2.atI xs i
def cutD {α : Type} (xs : List α) (lo hi : Option Int) : List α := (xs.drop (HT.sIx xs.length 0 lo)).take (HT.sIx xs.length xs.length hi - HT.sIx xs.length 0 lo)
def isTy : Ty → D → Option Bool
  | .bool, d => some (match d with | .bl _ => true | _ => false)
  | .int, d => some (match d with | .bl _ => true | .int _ => true | _ => false)
  | .str, d => some (match d with | .str _ => true | _ => false)
  | .tuple, d => some (match d with | .tup _ => true | _ => false)
  | .list, d => some (match d with | .lst _ => true | _ => false)
  | .dict, d => some (match d with | .dct _ _ => true | _ => false)
  | .cls _, _ => none
def small64 (i : Int) : Bool := decide (-18446744073709551616 < i) && decide (i < 18446744073709551616)
mutual
/-- can be ordered: place by place of one kind -/
def alikeD : D → D → Bool
  | .bl _, y => (match y with | .bl _ => true | _ => false)
  | .int _, y => (match y with | .int _ => true | _ => false)
  | .str _, y => (match y with | .str _ => true | _ => false)
  | .tup xs, y => (match y with | .tup ys => alikeDs xs ys | _ => false)
  | .lst xs, y => (match y with | .lst ys => alikeDs xs ys | _ => false)
  | .non, _ => false
  | .dct _ _, _ => false
  | .dtu _ _, _ => false
  | .obj _ _, _ => false
  | .m _, _ => false
def alikeDs : List D → List D → Bool
  | [], _ => true
  | x :: xs, ys => (match ys with | y :: ys => alikeD x y && alikeDs xs ys | [] => true)
end
def ltT (x y : Tx) : Bool := decide (x < y)
mutual
/-- x < y of alike data -/
def ltD : D → D → Bool
  | .bl a, y => (match y with | .bl b => !a && b | _ => false)
  | .int a, y => (match y with | .int b => decide (a < b) | _ => false)
  | .str a, y => (match y with | .str b => ltT a b | _ => false)
  | .tup xs, y => (match y with | .tup ys => ltDs xs ys | _ => false)
  | .lst xs, y => (match y with | .lst ys => ltDs xs ys | _ => false)
  | .non, _ => false
  | .dct _ _, _ => false
  | .dtu _ _, _ => false
  | .obj _ _, _ => false
  | .m _, _ => false
def ltDs : List D → List D → Bool
  | [], ys => (match ys with | [] => false | _ :: _ => true)
  | x :: xs, ys => (match ys with | [] => false | y :: ys => if eqD x y then ltDs xs ys else ltD x y)
end
def leD (x y : D) : Bool := !ltD y x
def isTup1 : D → Bool
  | .tup (_ :: _) => true
  | _ => false
def notTup : D → Bool
  | .tup _ => false
  | _ => true
/-- all pairs can be ordered: tuples that are not empty, or no tuples -/
def okSort (xs : List D) : Bool := xs.all (fun x => xs.all fun y => alikeD x y) && xs.all (fun x => decide (hgt x ≤ 64)) && (xs.all isTup1 || xs.all notTup)
def joinT (sep : Tx) (ts : List Tx) : Tx := (PySem.Txt.join (toS sep) (ts.map toS)).cps.toList
def splitT (s sep : Tx) : List Tx := (PySem.Txt.split (toS s) (toS sep)).map fun z => z.cps.toList
def intT (i : Int) : Tx := (toString i).toList.map Char.toNat
def idxOfT (x : Tx) : List Tx → Option Nat
  | [] => none
  | y :: ys => if x = y then some 0 else (idxOfT x ys).map (· + 1)
def idxOfD (x : D) : List D → Option Nat
  | [] => none
  | y :: ys => if eqD y x then some 0 else (idxOfD x ys).map (· + 1)

/-- freeze -/
def frzS (d : D) (mm : Mm) : Option RE := match d with
  | .m k => (match mm[k]? with
    | some (.mu c) => okE c (mm.set k (.fz c))
    | some (.fz c) => okE c mm
    | none => none)
  | d => okE d mm
def unS (o : U1) (d : D) (mm : Mm) : Option RE := match o with
  | .neg => (match d with | .int i => okE (.int (-i)) mm | _ => none)
  | .len => (match rd mm d with
    | .str s => if s.length ≤ szl then okE (.int s.length) mm else none
    | .tup xs => okE (.int xs.length) mm
    | .lst xs => okE (.int xs.length) mm
    | _ => none)
  | .int => (match d with | .int i => okE (.int i) mm | .bl b => okE (.int (if b then 1 else 0)) mm | _ => none)
  | .any => (match rd mm d with | .lst xs => (match allBl xs with | some bs => okE (.bl (bs.any id)) mm | none => none) | _ => none)
  | .all => (match rd mm d with | .lst xs => (match allBl xs with | some bs => okE (.bl (bs.all id)) mm | none => none) | _ => none)
  | .sorted => (match rd mm d with | .lst xs => if okSort xs then okE (.lst (xs.mergeSort leD)) mm else none | _ => none)
  | .list => (match rd mm d with | .lst xs => okE (.lst xs) mm | .tup xs => okE (.lst xs) mm | _ => none)
  | .listM => (match rd mm d with | .lst xs => okE (.m mm.length) (mm ++ [.mu (.lst xs)]) | .tup xs => okE (.m mm.length) (mm ++ [.mu (.lst xs)]) | _ => none)
  | .tuple => (match rd mm d with | .lst xs => okE (.tup xs) mm | .tup xs => okE (.tup xs) mm | _ => none)
  | .str => (match d with | .int i => if decide (i.natAbs < 10 ^ 60) && okT (intT i) then okE (.str (intT i)) mm else none | .str s => okE (.str s) mm | _ => none)
  | .minl => (match rd mm d with | .lst xs => (match allInt xs with | some (n :: ns) => okE (.int (ns.foldl min n)) mm | _ => none) | _ => none)
  | .maxl => (match rd mm d with | .lst xs => (match allInt xs with | some (n :: ns) => okE (.int (ns.foldl max n)) mm | _ => none) | _ => none)
  | .pop => (match d with
    | .m k => (match mm[k]? with
      | some (.mu (.lst xs)) => (match xs.getLast? with | some x => okE x (mm.set k (.mu (.lst xs.dropLast))) | none => none)
      | _ => none)
    | _ => none)
  | .frz => frzS d mm
  | .lenD => (match rd mm d with | .dct ks _ => okE (.int ks.length) mm | .dtu ks _ => okE (.int ks.length) mm | _ => none)
  | .listD => (match rd mm d with | .dct ks _ => okE (.lst ks) mm | _ => none)
  | .sortD => (match rd mm d with | .dct ks _ => (match allStr ks with | some ts => if decide (ts.length < 64) then okE (.lst ((ts.mergeSort fun x y => !ltT y x).map .str)) mm else none | none => none) | _ => none)
  | .isN => okE (.bl (match d with | .non => true | _ => false)) mm
  | .notN => okE (.bl (match d with | .non => false | _ => true)) mm
  | .isi t => (match isDct (rd mm d) with
    | true => none
    | false => (match isTy t (rd mm d) with | some b => okE (.bl b) mm | none => none))
  | .tix _ xs => (match d with | .str x => (match idxOfT x xs with | some j => okE (.int j) mm | none => none) | _ => none)
def eqS (a b : D) (neg : Bool) (mm : Mm) : Option RE := if okEq (rd mm a) && okEq (rd mm b) then okE (.bl (if neg then !eqD (rd mm a) (rd mm b) else eqD (rd mm a) (rd mm b))) mm else none
def memS (a b : D) (neg : Bool) (mm : Mm) : Option RE := match rd mm b with
  | .lst xs => if okEq a && okEq (.lst xs) then okE (.bl (if neg then !memD a xs else memD a xs)) mm else none
  | .tup xs => if okEq a && okEq (.tup xs) then okE (.bl (if neg then !memD a xs else memD a xs)) mm else none
  | .dct ks _ => if isKT a && ks.all isKT then okE (.bl (if neg then !memD a ks else memD a ks)) mm else none
  | .dtu ks _ => if isKD a && ks.all isKD then okE (.bl (if neg then !memD a ks else memD a ks)) mm else none
  | _ => none
def cmpI (a b : D) (p : Int → Int → Bool) (mm : Mm) : Option RE := match a, b with
  | .int i, .int j => okE (.bl (p i j)) mm
  | _, _ => none
def addS (a b : D) (mm : Mm) : Option RE := match rd mm a with
  | .int i => (match rd mm b with | .int j => okE (.int (i + j)) mm | _ => none)
  | .str x => (match rd mm b with | .str y => if x.length + y.length ≤ szl then okE (.str (x ++ y)) mm else none | _ => none)
  | .tup x => (match rd mm b with | .tup y => if x.length + y.length ≤ szl then okE (.tup (x ++ y)) mm else none | _ => none)
  | .lst x => (match rd mm b with | .lst y => if x.length + y.length ≤ szl then okE (.lst (x ++ y)) mm else none | _ => none)
  | _ => none
def idxS (a b : D) (mm : Mm) : Option RE := match rd mm a with
  | .lst xs => (match b with | .int i => (match atD xs i with | some x => okE x mm | none => none) | _ => none)
  | .tup xs => (match b with | .int i => (match atD xs i with | some x => okE x mm | none => none) | _ => none)
  | .dct ks vs => if isKT b && ks.all isKT then (match idxOfD b ks with | some j => (match vs[j]? with | some x => okE x mm | none => none) | none => none) else none
  | .dtu ks vs => if isKD b && ks.all isKD then (match idxOfD b ks with | some j => (match vs[j]? with | some x => okE x mm | none => none) | none => none) else none
  | _ => none
/-- what a dict gives for a key -/
def getS (a b x : D) (mm : Mm) : Option RE := match rd mm a with
  | .dct ks vs => if isKT b && ks.all isKT then (match idxOfD b ks with | some j => (match vs[j]? with | some y => okE y mm | none => none) | none => okE x mm) else none
  | .dtu ks vs => if isKD b && ks.all isKD then (match idxOfD b ks with | some j => (match vs[j]? with | some y => okE y mm | none => none) | none => okE x mm) else none
  | _ => none
/-- a dict behind a store -/
def putD (c y d : D) : Option D := match c with
  | .dct ks vs => if isKT y && ks.all isKT && decide (ks.length < szl) then (match idxOfD y ks with | some j => some (.dct ks (vs.set j d)) | none => some (.dct (ks ++ [y]) (vs ++ [d]))) else none
  | .dtu ks vs => if isKD y && ks.all isKD && decide (ks.length < szl) then (match idxOfD y ks with | some j => some (.dtu ks (vs.set j d)) | none => some (.dtu (ks ++ [y]) (vs ++ [d]))) else none
  | _ => none
def rngL (lo : Int) (n : Nat) : List D := (List.range n).map fun (i : Nat) => .int (lo + (i : Int))
def binS (o : B2) (a b : D) (mm : Mm) : Option RE := match o with
  | .add => addS a b mm
  | .sub => (match a, b with | .int i, .int j => okE (.int (i - j)) mm | _, _ => none)
  | .mul => (match rd mm a with
    | .int i => (match b with | .int j => if small64 i || small64 j then okE (.int (i * j)) mm else none | _ => none)
    | .tup xs => (match b with | .int j => if decide (2 ≤ j) && decide (j ≤ 1000) && decide (0 < xs.length) && decide (xs.length ≤ 1000) then okE (.tup (List.replicate j.toNat xs).flatten) mm else none | _ => none)
    | _ => none)
  | .fdiv => (match a, b with | .int i, .int j => if decide (0 < j) && decide (j < 1073741824) then okE (.int (i / j)) mm else none | _, _ => none)
  | .mod => (match a, b with | .int i, .int j => if decide (0 < j) then okE (.int (i % j)) mm else none | _, _ => none)
  | .pow => (match a, b with | .int i, .int j => if decide (0 ≤ j) && decide (j ≤ 1000000) && small64 i then okE (.int (i ^ j.toNat)) mm else none | _, _ => none)
  | .eq => eqS a b false mm
  | .ne => eqS a b true mm
  | .lt => cmpI a b (fun i j => decide (i < j)) mm
  | .le => cmpI a b (fun i j => decide (i ≤ j)) mm
  | .gt => cmpI a b (fun i j => decide (j < i)) mm
  | .ge => cmpI a b (fun i j => decide (j ≤ i)) mm
  | .mem => memS a b false mm
  | .nmem => memS a b true mm
  | .idx => idxS a b mm
  | .app => (match a with
    | .m k => (match mm[k]? with
      | some (.mu (.lst xs)) => if pureD b && decide (xs.length < szl) then okE .non (mm.set k (.mu (.lst (xs ++ [b])))) else none
      | _ => none)
    | _ => none)
  | .popat => (match a with
    | .m k => (match mm[k]? with
      | some (.mu (.lst xs)) => (match b with
        | .int i => if decide (-1000000 ≤ i) && decide (i ≤ 1000000) then (match ixP xs.length i with
          | some j => (match xs[j]? with | some x => okE x (mm.set k (.mu (.lst (xs.eraseIdx j)))) | none => none)
          | none => none) else none
        | _ => none)
      | _ => none)
    | _ => none)
  | .split => (match a, b with | .str x, .str y => if decide (y ≠ []) && decide (x.length + 2 ≤ szl) && (splitT x y).all okT then okE (.lst ((splitT x y).map .str)) mm else none | _, _ => none)
  | .join => (match a with
    | .str x => (match rd mm b with
      | .lst ys => (match allStr ys with | some ts => if decide ((ts.map (·.length)).sum + ts.length * x.length ≤ 16777216) && okT (joinT x ts) then okE (.str (joinT x ts)) mm else none | none => none)
      | _ => none)
    | _ => none)
  | .index => (match rd mm a with
    | .lst xs => if okEq b && okEq (.lst xs) then (match idxOfD b xs with | some j => okE (.int j) mm | none => none) else none
    | _ => none)
  | .min2 => (match a, b with | .int i, .int j => okE (.int (if j < i then j else i)) mm | _, _ => none)
  | .max2 => (match a, b with | .int i, .int j => okE (.int (if j > i then j else i)) mm | _, _ => none)
  | .rep => (match a with
    | .m k => (match mm[k]? with
      | some (.mu (.lst xs)) => (match b with | .int j => if decide (0 ≤ j) && decide (j ≤ 1000) && decide (xs.length ≤ 1000) then okE (.lst (List.replicate j.toNat xs).flatten) mm else none | _ => none)
      | _ => none)
    | _ => none)
  | .lrng => (match a, b with | .int i, .int j => if decide (0 ≤ i) && decide (i ≤ 16777216) && decide (0 ≤ j) && decide (j ≤ 16777216) then okE (.lst (rngL i (j - i).toNat)) mm else none | _, _ => none)
/-- what a method is asked of -/
def recvOk (o : B2) (d : D) (mm : Mm) : Bool := match o with
  | .app => (match rd mm d with | .lst _ => true | _ => false)
  | .popat => (match rd mm d with | .lst _ => true | _ => false)
  | .index => (match rd mm d with | .lst _ => true | _ => false)
  | .split => (match d with | .str _ => true | _ => false)
  | .join => (match d with | .str _ => true | _ => false)
  | _ => false
def slcS (a : D) (lo hi : Option Int) (mm : Mm) : Option RE := match rd mm a with
  | .lst xs => okE (.lst (cutD xs lo hi)) mm
  | .tup xs => okE (.tup (cutD xs lo hi)) mm
  | .str s => if s.length ≤ szl then okE (.str (cutD s lo hi)) mm else none
  | _ => none
def isNo : E → Bool
  | .no => true
  | _ => false
def partS (no : Bool) (d : D) : Option (Option Int) := if no then some none else (match d with | .int i => some (some i) | _ => none)
def bool? : D → Option Bool
  | .bl b => some b
  | _ => none
/-- bind a target -/
def bindT (tg : Tg) (d : D) (sl : Sl) : Option Sl := match tg with
  | .nm i => some (sl.set i (some d))
  | .tp is => (match d with
    | .tup xs => if xs.length == is.length then some ((is.zip xs).foldl (fun sl p => sl.set p.1 (some p.2)) sl) else none
    | _ => none)
def zipD : List D → List D → List D
  | x :: xs, ys => (match ys with | y :: ys => .tup [x, y] :: zipD xs ys | [] => [])
  | [], _ => []
def enmD : Nat → List D → List D
  | _, [] => []
  | n, x :: xs => .tup [.int n, x] :: enmD (n + 1) xs
/-- calls: the objects that are lent -/
def lentOf : List D → List Nat
  | [] => []
  | .m k :: r => k :: lentOf r
  | _ :: r => lentOf r
def argsOf : Nat → List D → List D
  | _, [] => []
  | n, .m _ :: r => .m n :: argsOf (n + 1) r
  | n, d :: r => d :: argsOf n r
def okArg : D → Bool
  | .m _ => true
  | d => pureD d
def takeMu (mm : Mm) : List Nat → Option Mm
  | [] => some []
  | k :: r => (match mm[k]? with | some (.mu c) => (takeMu mm r).map (.mu c :: ·) | _ => none)
def putMu (mm : Mm) : List Nat → Mm → Mm
  | k :: ks, bs => (match bs with | b :: bs => putMu (mm.set k b) ks bs | [] => mm)
  | [], _ => mm
/-- the handed value, at the caller -/
def backM (ks : List Nat) (n j : Nat) : D := match ks[j]? with
  | some k => .m k
  | none => .m (n + (j - ks.length))
def backD (ks : List Nat) (n : Nat) (d : D) : Option D := match pureD d with
  | true => some d
  | false => (match d with
    | .m j => some (backM ks n j)
    | .tup [x, .m j] => if pureD x then some (.tup [x, backM ks n j]) else none
    | _ => none)
def callS (cf : List D → Mm → Option FR) (ds : List D) (mm : Mm) : Option RE :=
  if ds.all okArg && decide (lentOf ds).Nodup then
    (match takeMu mm (lentOf ds) with
    | none => none
    | some bs => (match cf (argsOf 0 ds) bs with
      | none => none
      | some (.rt d bs' new) => if bs'.length = (lentOf ds).length then (match backD (lentOf ds) mm.length d with
        | some d' => some (.ok d' (putMu mm (lentOf ds) bs' ++ new))
        | none => none) else none
      | some (.ex x bs') => if bs'.length = (lentOf ds).length then some (.ex x (putMu mm (lentOf ds) bs')) else none))
  else none
/-- a def's end -/
def finF (b : Nat) (d : D) (mm : Mm) : Option FR :=
  if (mm.take b).all M.isMu then
    (match pureD d with
    | true => some (.rt d (mm.take b) [])
    | false => (match d with
      | .m k => if k < b then some (.rt (.m k) (mm.take b) []) else (match mm[k]? with | some (.mu c) => some (.rt (.m b) (mm.take b) [.mu c]) | _ => none)
      | .tup [x, .m k] => if pureD x then (if k < b then some (.rt (.tup [x, .m k]) (mm.take b) []) else (match mm[k]? with | some (.mu c) => some (.rt (.tup [x, .m b]) (mm.take b) [.mu c]) | _ => none)) else none
      | _ => none))
  else none
def exF (b : Nat) (x : Ex) (mm : Mm) : Option FR := if (mm.take b).all M.isMu then some (.ex x (mm.take b)) else none
def mapE (f : D → Mm → Option RE) : List D → List D → Mm → Option RE
  | [], acc, mm => okE (.lst acc) mm
  | x :: xs, acc, mm => bindE (f x mm) fun d mm' => mapE f xs (match d with | .tup [.bl true, y] => acc ++ [y] | _ => acc) mm'
def tgIx : Tg → List Nat
  | .nm i => [i]
  | .tp is => is
/-- the slots of a comprehension's own names are forgotten -/
def wipeS (sl : Sl) : List Nat → Sl
  | [] => sl
  | v :: vs => (wipeS sl vs).set v none
/-- the turns of a comprehension: none where an error would leave it -/
def lcS (tg : Tg) (cnd elt : Sl → Mm → Option RE) (sl : Sl) : List D → List D → Mm → Option RE
  | [], acc, mm => okE (.lst acc) mm
  | x :: xs, acc, mm => (match bindT tg x (wipeS sl (tgIx tg)) with
    | none => none
    | some sl' => (match cnd sl' mm with
      | some (.ok (.bl true) mm1) => (match elt sl' mm1 with
        | some (.ok d mm2) => if pureD d && decide (acc.length < szl) then lcS tg cnd elt sl xs (acc ++ [d]) mm2 else none
        | _ => none)
      | some (.ok (.bl false) mm1) => lcS tg cnd elt sl xs acc mm1
      | _ => none))
/-- a for's turns -/
def forS (tg : Tg) (body : Sl → Mm → Option RS) : List D → Sl → Mm → Option RS
  | [], sl, mm => some (.nx sl mm)
  | x :: xs, sl, mm => (match bindT tg x sl with
    | none => none
    | some sl1 => (match body sl1 mm with
      | some (.nx sl2 mm2) => forS tg body xs sl2 mm2
      | some (.ct sl2 mm2) => forS tg body xs sl2 mm2
      | some (.bk sl2 mm2) => some (.nx sl2 mm2)
      | r => r))
/-- a while's turns: so many at most -/
def whlS (cnd : Sl → Mm → Option RE) (body : Sl → Mm → Option RS) : Nat → Sl → Mm → Option RS
  | 0, _, _ => none
  | n + 1, sl, mm => (match cnd sl mm with
    | some (.ok (.bl true) mm1) => (match body sl mm1 with
      | some (.nx sl2 mm2) => whlS cnd body n sl2 mm2
      | some (.ct sl2 mm2) => whlS cnd body n sl2 mm2
      | some (.bk sl2 mm2) => some (.nx sl2 mm2)
      | r => r)
    | some (.ok (.bl false) mm1) => some (.nx sl mm1)
    | some (.ex x mm1) => some (.ex x sl mm1)
    | _ => none)
def wMost : Nat := 1000000000000
def listItems (d : D) : Option (List D) := match d with
  | .lst xs => some xs
  | .dtu ks _ => some ks
  | .tup xs => some xs
  | _ => none
inductive RI where
  | ok (xs : List D) (mm : Mm)
  | ex (x : Ex) (mm : Mm)
inductive RL where
  | ok (ds : List D) (mm : Mm)
  | ex (x : Ex) (mm : Mm)

section
variable (T : Nat → FDef) (gv : Nat → D) (cf : Nat → List D → Mm → Option FR)
mutual
def semE : E → Sl → Mm → Option RE
  | .var i, sl, mm => (match sl[i]? with | some (some d) => okE d mm | _ => none)
  | .cst d, _, mm => okE d mm
  | .glb g, _, mm => okE (gv g) mm
  | .tup es, sl, mm => (match semEs es sl mm with
    | some (.ok ds mm1) => if ds.length ≤ szl then okE (.tup ds) mm1 else none
    | some (.ex x mm1) => some (.ex x mm1)
    | none => none)
  | .lst es, sl, mm => (match semEs es sl mm with
    | some (.ok ds mm1) => if pureDs ds && decide (ds.length ≤ szl) then okE (.lst ds) mm1 else none
    | some (.ex x mm1) => some (.ex x mm1)
    | none => none)
  | .nls es, sl, mm => (match semEs es sl mm with
    | some (.ok ds mm1) => if pureDs ds && decide (ds.length ≤ szl) then okE (.m mm1.length) (mm1 ++ [.mu (.lst ds)]) else none
    | some (.ex x mm1) => some (.ex x mm1)
    | none => none)
  | .un o a, sl, mm => bindE (semE a sl mm) (unS o)
  | .bin o a b, sl, mm => bindE (semE a sl mm) fun x mm1 => bindE (semE b sl mm1) (binS o x)
  | .mth o a b, sl, mm => bindE (semE a sl mm) fun x mm1 => if recvOk o x mm1 then bindE (semE b sl mm1) (binS o x) else none
  | .not a, sl, mm => bindE (semE a sl mm) fun x mm1 => (match x with | .bl b => okE (.bl (!b)) mm1 | _ => none)
  | .and a b, sl, mm => bindE (semE a sl mm) fun x mm1 => (match x with | .bl true => semE b sl mm1 | .bl false => okE (.bl false) mm1 | _ => none)
  | .or a b, sl, mm => bindE (semE a sl mm) fun x mm1 => (match x with | .bl true => okE (.bl true) mm1 | .bl false => semE b sl mm1 | _ => none)
  | .ite c a b, sl, mm => bindE (semE c sl mm) fun x mm1 => (match x with | .bl true => semE a sl mm1 | .bl false => semE b sl mm1 | _ => none)
  | .chn o p a b c, sl, mm => bindE (semE a sl mm) fun x mm1 => bindE (semE b sl mm1) fun y mm2 => bindE (binS o x y mm2) fun z mm3 => (match z with
    | .bl true => bindE (semE c sl mm3) (binS p y)
    | .bl false => okE (.bl false) mm3
    | _ => none)
  | .call f es, sl, mm => (match semEs es sl mm with
    | some (.ok ds mm1) => callS (cf f) ds mm1
    | some (.ex x mm1) => some (.ex x mm1)
    | none => none)
  | .call0 f, _, mm => (match callS (cf f) [] mm with
    | some (.ok d mm1) => some (.ok d mm1)
    | _ => none)
  | .slc a lo hi, sl, mm => bindE (semE a sl mm) fun x mm1 => bindE (semE lo sl mm1) fun l mm2 => (match partS (isNo lo) l with
    | none => none
    | some l => bindE (semE hi sl mm2) fun h mm3 => (match partS (isNo hi) h with
      | none => none
      | some h => slcS x l h mm3))
  | .no, _, mm => okE .non mm
  | .dsp ks es, sl, mm => (match semEs es sl mm with
    | some (.ok ds mm1) => if pureDs ds && decide (ks.length = ds.length) && decide (ks.length ≤ 15) && decide (0 < ks.length) && ks.all isKT && ndK ks && ks.all okKT then okE (.dct ks ds) mm1 else none
    | some (.ex x mm1) => some (.ex x mm1)
    | none => none)
  | .dn tk, _, mm => okE (.m mm.length) (mm ++ [.mu (if tk then .dtu [] [] else .dct [] [])])
  | .d1 k v, sl, mm => bindE (semE k sl mm) fun y mm1 => bindE (semE v sl mm1) fun d mm2 => if isKD y && pureD d then okE (.m mm2.length) (mm2 ++ [.mu (.dtu [y] [d])]) else none
  | .get1 a k, sl, mm => bindE (semE a sl mm) fun c mm1 => if isDct (rd mm1 c) then bindE (semE k sl mm1) fun y mm2 => getS c y .non mm2 else none
  | .get2 a k x, sl, mm => bindE (semE a sl mm) fun c mm1 => if isDct (rd mm1 c) then bindE (semE k sl mm1) fun y mm2 => bindE (semE x sl mm2) fun z mm3 => getS c y z mm3 else none
  | .lc mu tg elt it cnd, sl, mm => (match semI it sl mm with
    | some (.ok xs mm1) => bindE (lcS tg (semE cnd) (semE elt) sl xs [] mm1) fun d mm2 => if mu then okE (.m mm2.length) (mm2 ++ [.mu d]) else okE d mm2
    | some (.ex x mm1) => some (.ex x mm1)
    | none => none)
def semEs : Es → Sl → Mm → Option RL
  | .nil, _, mm => some (.ok [] mm)
  | .cons e es, sl, mm => (match semE e sl mm with
    | some (.ok d mm1) => (match semEs es sl mm1 with
      | some (.ok ds mm2) => some (.ok (d :: ds) mm2)
      | r => r)
    | some (.ex x mm1) => some (.ex x mm1)
    | none => none)
def semI : It → Sl → Mm → Option RI
  | .seq a, sl, mm => (match bindE (semE a sl mm) frzS with
    | some (.ok d mm1) => (match listItems d with | some xs => some (.ok xs mm1) | none => none)
    | some (.ex x mm1) => some (.ex x mm1)
    | none => none)
  | .rng a, sl, mm => (match semE a sl mm with
    | some (.ok (.int n) mm1) => if small64 (4 * n) then some (.ok (rngL 0 n.toNat) mm1) else none
    | some (.ex x mm1) => some (.ex x mm1)
    | _ => none)
  | .rng2 a b, sl, mm => (match semE a sl mm with
    | some (.ok (.int n) mm1) => (match semE b sl mm1 with
      | some (.ok (.int k) mm2) => if small64 (4 * n) && small64 (4 * k) then some (.ok (rngL n (k - n).toNat) mm2) else none
      | some (.ex x mm1) => some (.ex x mm1)
      | _ => none)
    | some (.ex x mm1) => some (.ex x mm1)
    | _ => none)
  | .zip a b, sl, mm => (match bindE (semE a sl mm) frzS with
    | some (.ok d mm1) => (match bindE (semE b sl mm1) frzS with
      | some (.ok e mm2) => (match d, e with | .tup xs, .tup ys => some (.ok (zipD xs ys) mm2) | .lst xs, .lst ys => some (.ok (zipD xs ys) mm2) | .tup xs, .lst ys => some (.ok (zipD xs ys) mm2) | _, _ => none)
      | some (.ex x mm1) => some (.ex x mm1)
      | none => none)
    | some (.ex x mm1) => some (.ex x mm1)
    | none => none)
  | .enm a, sl, mm => (match bindE (semE a sl mm) frzS with
    | some (.ok d mm1) => (match d with | .lst xs => some (.ok (enmD 0 xs) mm1) | _ => none)
    | some (.ex x mm1) => some (.ex x mm1)
    | none => none)
end
end
/-- what the except clauses say of an error: some value is handed back, or it goes on; none: not known -/
def hsS (sub : Nat → Nat → Option Bool) : Hs → Ex → Option (Option D)
  | .nil, _ => some none
  | .cons c d hs, x => (match sub x.cls c with
    | none => none
    | some true => some (some d)
    | some false => hsS sub hs x)
section
variable (sub : Nat → Nat → Option Bool) (gv : Nat → D) (cf : Nat → List D → Mm → Option FR)
mutual
def semS : S → Sl → Mm → Option RS
  | .asg i e, sl, mm => (match semE gv cf e sl mm with
    | some (.ok d mm1) => some (.nx (sl.set i (some d)) mm1)
    | some (.ex x mm1) => some (.ex x sl mm1)
    | none => none)
  | .unp is e, sl, mm => (match semE gv cf e sl mm with
    | some (.ok d mm1) => (match bindT (.tp is) d sl with | some sl1 => some (.nx sl1 mm1) | none => none)
    | some (.ex x mm1) => some (.ex x sl mm1)
    | none => none)
  | .par i j a b, sl, mm => (match semE gv cf a sl mm with
    | some (.ok d mm1) => (match semE gv cf b sl mm1 with
      | some (.ok e mm2) => some (.nx ((sl.set i (some d)).set j (some e)) mm2)
      | some (.ex x mm1) => some (.ex x sl mm1)
      | none => none)
    | some (.ex x mm1) => some (.ex x sl mm1)
    | none => none)
  | .sto i ix e, sl, mm => (match semE gv cf e sl mm with
    | some (.ok d mm1) => (match sl[i]? with
      | some (some (.m k)) => (match semE gv cf ix sl mm1 with
        | some (.ok (.int j) mm2) => (match mm2[k]? with
          | some (.mu (.lst xs)) => (match ixP xs.length j with
            | some p => if pureD d then some (.nx sl (mm2.set k (.mu (.lst (xs.set p d))))) else none
            | none => none)
          | _ => none)
        | some (.ex x mm1) => some (.ex x sl mm1)
        | _ => none)
      | _ => none)
    | some (.ex x mm1) => some (.ex x sl mm1)
    | none => none)
  | .dead, _, _ => none
  | .std i ix e, sl, mm => (match semE gv cf e sl mm with
    | some (.ok d mm1) => (match sl[i]? with
      | some (some (.m k)) => (match semE gv cf ix sl mm1 with
        | some (.ok y mm2) => (match mm2[k]? with
          | some (.mu c) => if pureD d then (match putD c y d with
            | some c' => some (.nx sl (mm2.set k (.mu c')))
            | none => none) else none
          | _ => none)
        | some (.ex x mm1) => some (.ex x sl mm1)
        | none => none)
      | _ => none)
    | some (.ex x mm1) => some (.ex x sl mm1)
    | none => none)
  | .par3 i j l a b c, sl, mm => (match semEs gv cf (.cons a (.cons b (.cons c .nil))) sl mm with
    | some (.ok [u, v, w] mm1) => some (.nx (((sl.set i (some u)).set j (some v)).set l (some w)) mm1)
    | some (.ex x mm1) => some (.ex x sl mm1)
    | _ => none)
  | .exp e, sl, mm => (match semE gv cf e sl mm with
    | some (.ok _ mm1) => some (.nx sl mm1)
    | some (.ex x mm1) => some (.ex x sl mm1)
    | none => none)
  | .ret e, sl, mm => (match semE gv cf e sl mm with
    | some (.ok d mm1) => some (.rt d mm1)
    | some (.ex x mm1) => some (.ex x sl mm1)
    | none => none)
  | .retn, _, mm => some (.rt .non mm)
  | .ifs c a b, sl, mm => (match semE gv cf c sl mm with
    | some (.ok (.bl true) mm1) => semB a sl mm1
    | some (.ok (.bl false) mm1) => semB b sl mm1
    | some (.ex x mm1) => some (.ex x sl mm1)
    | _ => none)
  | .for tg it b, sl, mm => (match semI gv cf it sl mm with
    | some (.ok xs mm1) => forS tg (semB b) xs sl mm1
    | some (.ex x mm1) => some (.ex x sl mm1)
    | none => none)
  | .whl c b, sl, mm => whlS (semE gv cf c) (semB b) wMost sl mm
  | .brk, sl, mm => some (.bk sl mm)
  | .cnt, sl, mm => some (.ct sl mm)
  | .pass, sl, mm => some (.nx sl mm)
  | .rse c es, sl, mm => (match semEs gv cf es sl mm with
    | some (.ok ds mm1) => some (.ex ⟨c, ds⟩ sl mm1)
    | some (.ex x mm1) => some (.ex x sl mm1)
    | none => none)
  | .try b hs, sl, mm => (match semB b sl mm with
    | some (.ex x sl1 mm1) => (match hsS sub hs x with
      | none => none
      | some (some d) => some (.rt d mm1)
      | some none => some (.ex x sl1 mm1))
    | r => r)
def semB : B → Sl → Mm → Option RS
  | .nil, sl, mm => some (.nx sl mm)
  | .cons s b, sl, mm => (match semS s sl mm with
    | some (.nx sl1 mm1) => semB b sl1 mm1
    | r => r)
end
end
def startS (n : Nat) (args : List D) : Sl := args.map some ++ List.replicate (n - args.length) none
/-- a call at depth n -/
def callF (sub : Nat → Nat → Option Bool) (T : Nat → FDef) (gv : Nat → D) : Nat → Nat → List D → Mm → Option FR
  | 0, _, _, _ => none
  | n + 1, f, args, bs =>
    if args.length == (T f).np then
      (match semB sub gv (callF sub T gv n) (T f).body (startS (T f).ns args) bs with
      | some (.nx _ mm) => finF bs.length .non mm
      | some (.rt d mm) => finF bs.length d mm
      | some (.ex x _ mm) => exF bs.length x mm
      | _ => none)
    else none
end Mp
/-! Mp2: how data lie in the abstract heap of the hand layer. -/
namespace Mp
open PySem PySem.Spec
open PyProof.Rows L2

/-- a list, a tuple that does not change any more -/
def LstZ (Z : Addr → Prop) (H : Hp) (a : Addr) (vs : List V) : Prop := Z a ∧ Rd H a (.lst vs)
def TupZ (K : PySem.W.Frag) (Z : Addr → Prop) (H : Hp) (a : Addr) (vs : List V) : Prop :=
  (Z a ∧ Rd H a (.tup vs)) ∨
    ∃ (o : Obj) (its : Array Value) (n : Nat), K.lookup a = some o ∧ o.cls = .type "tuple" ∧ o.dict = none ∧ o.data = .seq its n ∧ its.size ≤ sizeLine ∧ Vals vs its.toList
theorem LstZ.sq {K : PySem.W.Frag} {Z : Addr → Prop} {H : Hp} {a : Addr} {vs : List V} (h : LstZ Z H a vs) : SqL K H a vs := .inl h.2
theorem TupZ.sq {K : PySem.W.Frag} {Z : Addr → Prop} {H : Hp} {a : Addr} {vs : List V} (h : TupZ K Z H a vs) : SqT K H a vs := by
  rcases h with h | ⟨o, its, n, h1, h2, _, h3⟩
  · exact .inl h.2
  · exact .inr ⟨o, its, n, h1, h2, h3⟩
/-- a key of a dict -/
def keyT : D → L2.Key
  | .int i => .inl i
  | .str s => .inr (toS s)
  | _ => .inl 0
mutual
/-- a key of any depth -/
def nkT : D → NestedKey
  | .non => .none
  | .int i => .num i
  | .str s => .text (toS s)
  | .tup xs => .tup (nkTs xs)
  | _ => .none
def nkTs : List D → List NestedKey
  | [] => []
  | x :: xs => nkT x :: nkTs xs
end
/-- the written part; the form of dicts with such keys -/
structure Kx where
  K : PySem.W.Frag
  dn : Addr → Obj → Nkv → HO
instance : Coe Kx PySem.W.Frag := ⟨Kx.K⟩
section
variable (K : Kx) (ad : List Addr) (Z : Addr → Prop) (H : Hp)
mutual
/-- the value v is the datum -/
def RepV : D → V → Prop
  | .non, v => v = .non
  | .bl b, v => v = .bl b
  | .int i, v => v = .int i
  | .str s, v => v = .str (toS s) ∧ okT s = true
  | .tup xs, v => ∃ a vs, v = .ref a ∧ TupZ K Z H a vs ∧ RepL xs vs
  | .lst xs, v => ∃ a vs, v = .ref a ∧ LstZ Z H a vs ∧ RepL xs vs
  | .dct ks xs, v => ∃ a kvs, v = .ref a ∧ Z a ∧ Rd H a (.dK kvs) ∧ kvs.map (·.1) = ks.map keyT ∧ ks.all isKT = true ∧ RepL ks (kvs.map fun q => kV q.1) ∧ RepL xs (kvs.map (·.2))
  | .dtu ks xs, v => ∃ a o kvs, v = .ref a ∧ Z a ∧ Rd H a (K.dn a o kvs) ∧ kvs.map (·.1) = ks.map nkT ∧ ks.all isKD = true ∧ RepL ks (kvs.map fun q => V.ref q.2.1) ∧ RepL xs (kvs.map (·.2.2))
  | .obj _ _, _ => False
  | .m k, v => ∃ a, ad[k]? = some a ∧ v = .ref a
def RepL : List D → List V → Prop
  | [], vs => vs = []
  | x :: xs, vs => ∃ v r, vs = v :: r ∧ RepV x v ∧ RepL xs r
end
/-- the object at a, which may change, holds the datum -/
def RepM (d : D) (a : Addr) : Prop := match d with
  | .lst xs => ∃ vs, H a = some (.lst vs) ∧ RepL K ad Z H xs vs
  | .dct ks xs => ∃ kvs, H a = some (.dK kvs) ∧ kvs.map (·.1) = ks.map keyT ∧ ks.all isKT = true ∧ RepL K ad Z H ks (kvs.map fun q => kV q.1) ∧ RepL K ad Z H xs (kvs.map (·.2)) ∧ (ks.map keyT).Nodup
  | .dtu ks xs => ∃ o kvs, H a = some (K.dn a o kvs) ∧ kvs.map (·.1) = ks.map nkT ∧ ks.all isKD = true ∧ RepL K ad Z H ks (kvs.map fun q => V.ref q.2.1) ∧ RepL K ad Z H xs (kvs.map (·.2.2)) ∧ (ks.map nkT).Nodup
  | _ => False
end

/-- what grows while code runs -/
structure Le (ad : List Addr) (Z : Addr → Prop) (H : Hp) (ad' : List Addr) (Z' : Addr → Prop) (H' : Hp) : Prop where
  ad : ∃ l, ad' = ad ++ l
  z : ∀ a, Z a → Z' a
  rd : ∀ a u, Z a → Rd H a u → Rd H' a u
section
variable {K : Kx} {ad ad' ad2 : List Addr} {Z Z' Z2 : Addr → Prop} {H H' H2 : Hp}
theorem Le.refl : Le ad Z H ad Z H := ⟨⟨[], by simp⟩, fun _ h => h, fun _ _ _ h => h⟩
theorem Le.trans (a : Le ad Z H ad' Z' H') (b : Le ad' Z' H' ad2 Z2 H2) : Le ad Z H ad2 Z2 H2 := by
  obtain ⟨l, rfl⟩ := a.ad
  obtain ⟨l2, rfl⟩ := b.ad
  exact ⟨⟨l ++ l2, by simp⟩, fun x h => b.z x (a.z x h), fun x u h r => b.rd x u (a.z x h) (a.rd x u h r)⟩
theorem Le.get (a : Le ad Z H ad' Z' H') {k : Nat} {x : Addr} (h : ad[k]? = some x) : ad'[k]? = some x := by
  obtain ⟨l, rfl⟩ := a.ad
  have hk : k < ad.length := (List.getElem?_eq_some_iff.mp h).1
  rw [List.getElem?_append_left hk]; exact h
theorem LstZ.le (a : Le ad Z H ad' Z' H') {x : Addr} {vs : List V} (h : LstZ Z H x vs) : LstZ Z' H' x vs := ⟨a.z _ h.1, a.rd _ _ h.1 h.2⟩
theorem TupZ.le (a : Le ad Z H ad' Z' H') {x : Addr} {vs : List V} (h : TupZ K Z H x vs) : TupZ K Z' H' x vs := h.imp (fun h => ⟨a.z _ h.1, a.rd _ _ h.1 h.2⟩) id
mutual
theorem RepV.le (a : Le ad Z H ad' Z' H') : ∀ (d : D) (v : V), RepV K ad Z H d v → RepV K ad' Z' H' d v
  | .non, _, h => by simp only [RepV] at h ⊢; exact h
  | .bl _, _, h => by simp only [RepV] at h ⊢; exact h
  | .int _, _, h => by simp only [RepV] at h ⊢; exact h
  | .str _, _, h => by simp only [RepV] at h ⊢; exact h
  | .tup xs, _, h => by
    simp only [RepV] at h ⊢
    obtain ⟨x, vs, e, t, r⟩ := h
    exact ⟨x, vs, e, t.le a, RepL.le a xs vs r⟩
  | .lst xs, _, h => by
    simp only [RepV] at h ⊢
    obtain ⟨x, vs, e, t, r⟩ := h
    exact ⟨x, vs, e, t.le a, RepL.le a xs vs r⟩
  | .dct ks xs, _, h => by
    simp only [RepV] at h ⊢
    obtain ⟨x, kvs, e, z, t, k, pk, r1, r⟩ := h
    exact ⟨x, kvs, e, a.z _ z, a.rd _ _ z t, k, pk, RepL.le a ks _ r1, RepL.le a xs _ r⟩
  | .dtu ks xs, _, h => by
    simp only [RepV] at h ⊢
    obtain ⟨x, o, kvs, e, z, t, k, pk, r1, r⟩ := h
    exact ⟨x, o, kvs, e, a.z _ z, a.rd _ _ z t, k, pk, RepL.le a ks _ r1, RepL.le a xs _ r⟩
  | .obj _ _, _, h => by simp only [RepV] at h
  | .m k, _, h => by
    simp only [RepV] at h ⊢
    obtain ⟨x, e, r⟩ := h
    exact ⟨x, a.get e, r⟩
theorem RepL.le (a : Le ad Z H ad' Z' H') : ∀ (ds : List D) (vs : List V), RepL K ad Z H ds vs → RepL K ad' Z' H' ds vs
  | [], _, h => by simp only [RepL] at h ⊢; exact h
  | x :: xs, _, h => by
    simp only [RepL] at h ⊢
    obtain ⟨v, r, e, h1, h2⟩ := h
    exact ⟨v, r, e, RepV.le a x v h1, RepL.le a xs r h2⟩
end
mutual
/-- pure data do not hang on the activation's objects -/
theorem RepV.pure (a : List Addr) : ∀ (d : D) (v : V), pureD d = true → RepV K ad Z H d v → RepV K a Z H d v
  | .non, _, _, h => by simp only [RepV] at h ⊢; exact h
  | .bl _, _, _, h => by simp only [RepV] at h ⊢; exact h
  | .int _, _, _, h => by simp only [RepV] at h ⊢; exact h
  | .str _, _, _, h => by simp only [RepV] at h ⊢; exact h
  | .tup xs, _, p, h => by
    simp only [RepV] at h ⊢
    obtain ⟨x, vs, e, t, r⟩ := h
    exact ⟨x, vs, e, t, RepL.pure a xs vs (by simpa only [pureD] using p) r⟩
  | .lst xs, _, p, h => by
    simp only [RepV] at h ⊢
    obtain ⟨x, vs, e, t, r⟩ := h
    exact ⟨x, vs, e, t, RepL.pure a xs vs (by simpa only [pureD] using p) r⟩
  | .dct ks xs, _, p, h => by
    simp only [RepV] at h ⊢
    obtain ⟨x, kvs, e, z, t, k, pk, r1, r⟩ := h
    simp only [pureD, Bool.and_eq_true] at p
    exact ⟨x, kvs, e, z, t, k, pk, RepL.pure a ks _ p.1 r1, RepL.pure a xs _ p.2 r⟩
  | .dtu ks xs, _, p, h => by
    simp only [RepV] at h ⊢
    obtain ⟨x, o, kvs, e, z, t, k, pk, r1, r⟩ := h
    simp only [pureD, Bool.and_eq_true] at p
    exact ⟨x, o, kvs, e, z, t, k, pk, RepL.pure a ks _ p.1 r1, RepL.pure a xs _ p.2 r⟩
  | .obj _ _, _, _, h => by simp only [RepV] at h
  | .m k, _, p, _ => by simp only [pureD, Bool.false_eq_true] at p
theorem RepL.pure (a : List Addr) : ∀ (ds : List D) (vs : List V), pureDs ds = true → RepL K ad Z H ds vs → RepL K a Z H ds vs
  | [], _, _, h => by simp only [RepL] at h ⊢; exact h
  | x :: xs, _, p, h => by
    simp only [RepL] at h ⊢
    simp only [pureDs, Bool.and_eq_true] at p
    obtain ⟨v, r, e, h1, h2⟩ := h
    exact ⟨v, r, e, RepV.pure a x v p.1 h1, RepL.pure a xs r p.2 h2⟩
end
theorem RepL.len : ∀ {ds : List D} {vs : List V}, RepL K ad Z H ds vs → vs.length = ds.length
  | [], _, h => by simp only [RepL] at h; subst h; rfl
  | x :: xs, _, h => by
    simp only [RepL] at h
    obtain ⟨v, r, rfl, _, h2⟩ := h
    simp [RepL.len h2]
theorem RepL.nil : RepL K ad Z H [] [] := by simp only [RepL]
theorem RepL.cons {d : D} {v : V} {ds : List D} {vs : List V} (h : RepV K ad Z H d v) (r : RepL K ad Z H ds vs) : RepL K ad Z H (d :: ds) (v :: vs) := by
  simp only [RepL]; exact ⟨v, vs, rfl, h, r⟩
theorem RepL.one {d : D} {v : V} (h : RepV K ad Z H d v) : RepL K ad Z H [d] [v] := RepL.cons h RepL.nil
theorem RepL.app : ∀ {ds es : List D} {vs ws : List V}, RepL K ad Z H ds vs → RepL K ad Z H es ws → RepL K ad Z H (ds ++ es) (vs ++ ws)
  | [], _, _, _, h, r => by simp only [RepL] at h; subst h; exact r
  | x :: xs, _, _, _, h, r => by
    simp only [RepL] at h
    obtain ⟨v, t, rfl, h1, h2⟩ := h
    exact RepL.cons h1 (RepL.app h2 r)
theorem RepL.get : ∀ {ds : List D} {vs : List V} {i : Nat} {d : D}, RepL K ad Z H ds vs → ds[i]? = some d → ∃ v, vs[i]? = some v ∧ RepV K ad Z H d v
  | [], _, _, _, h, e => by simp at e
  | x :: xs, _, 0, d, h, e => by
    simp only [RepL] at h
    obtain ⟨v, t, rfl, h1, h2⟩ := h
    simp only [List.getElem?_cons_zero, Option.some.injEq] at e
    subst e
    exact ⟨v, rfl, h1⟩
  | x :: xs, _, i + 1, d, h, e => by
    simp only [RepL] at h
    obtain ⟨v, t, rfl, h1, h2⟩ := h
    simp only [List.getElem?_cons_succ] at e
    obtain ⟨w, q, r⟩ := RepL.get h2 e
    exact ⟨w, by simpa using q, r⟩
theorem RepL.getV : ∀ {ds : List D} {vs : List V} {i : Nat} {v : V}, RepL K ad Z H ds vs → vs[i]? = some v → ∃ d, ds[i]? = some d ∧ RepV K ad Z H d v := fun {ds vs i v} h e => by
  have hl := h.len
  have hi : i < vs.length := (List.getElem?_eq_some_iff.mp e).1
  have hd : ds[i]? = some ds[i] := List.getElem?_eq_getElem (by omega)
  obtain ⟨w, q, r⟩ := h.get hd
  rw [e] at q; cases q
  exact ⟨_, hd, r⟩
theorem RepL.take : ∀ {ds : List D} {vs : List V} (n : Nat), RepL K ad Z H ds vs → RepL K ad Z H (ds.take n) (vs.take n)
  | _, _, 0, _ => by simp only [List.take_zero]; exact RepL.nil
  | [], _, n + 1, h => by simp only [RepL] at h; subst h; exact RepL.nil
  | x :: xs, _, n + 1, h => by
    simp only [RepL] at h
    obtain ⟨v, t, rfl, h1, h2⟩ := h
    exact RepL.cons h1 (RepL.take n h2)
theorem RepL.drop : ∀ {ds : List D} {vs : List V} (n : Nat), RepL K ad Z H ds vs → RepL K ad Z H (ds.drop n) (vs.drop n)
  | _, _, 0, h => h
  | [], _, n + 1, h => by simp only [RepL] at h; subst h; exact RepL.nil
  | x :: xs, _, n + 1, h => by
    simp only [RepL] at h
    obtain ⟨v, t, rfl, h1, h2⟩ := h
    exact RepL.drop n h2
theorem RepL.set : ∀ {ds : List D} {vs : List V} (i : Nat) {d : D} {v : V}, RepL K ad Z H ds vs → RepV K ad Z H d v → RepL K ad Z H (ds.set i d) (vs.set i v)
  | [], _, _, _, _, h, _ => by simp only [RepL] at h; subst h; exact RepL.nil
  | x :: xs, _, 0, _, _, h, r => by
    simp only [RepL] at h
    obtain ⟨w, t, rfl, h1, h2⟩ := h
    exact RepL.cons r h2
  | x :: xs, _, i + 1, _, _, h, r => by
    simp only [RepL] at h
    obtain ⟨w, t, rfl, h1, h2⟩ := h
    exact RepL.cons h1 (RepL.set i h2 r)
theorem RepL.eraseIdx : ∀ {ds : List D} {vs : List V} (i : Nat), RepL K ad Z H ds vs → RepL K ad Z H (ds.eraseIdx i) (vs.eraseIdx i)
  | [], _, _, h => by simp only [RepL] at h; subst h; exact RepL.nil
  | x :: xs, _, 0, h => by
    simp only [RepL] at h
    obtain ⟨w, t, rfl, h1, h2⟩ := h
    exact h2
  | x :: xs, _, i + 1, h => by
    simp only [RepL] at h
    obtain ⟨w, t, rfl, h1, h2⟩ := h
    exact RepL.cons h1 (RepL.eraseIdx i h2)
theorem RepL.dropLast {ds : List D} {vs : List V} (h : RepL K ad Z H ds vs) : RepL K ad Z H ds.dropLast vs.dropLast := by
  rw [List.dropLast_eq_take, List.dropLast_eq_take, h.len]; exact h.take _
theorem RepL.rep {ds : List D} {vs : List V} (h : RepL K ad Z H ds vs) : ∀ k, RepL K ad Z H (List.replicate k ds).flatten (List.replicate k vs).flatten
  | 0 => RepL.nil
  | k + 1 => by rw [List.replicate_succ, List.replicate_succ]; exact h.app (RepL.rep h k)
theorem RepL.cut {ds : List D} {vs : List V} (h : RepL K ad Z H ds vs) (lo hi : Option Int) : RepL K ad Z H (cutD ds lo hi) (cutV vs lo hi) := by
  unfold cutD cutV
  rw [h.len]
  exact (h.drop _).take _
theorem RepL.at {ds : List D} {vs : List V} (h : RepL K ad Z H ds vs) {i : Int} {d : D} (e : atD ds i = some d) : ∃ v, atI vs i = some v ∧ RepV K ad Z H d v := by
  unfold atD atI at *
  rw [h.len]
  cases q : ixN ds.length i with
  | none => rw [q] at e; simp at e
  | some j =>
    rw [q] at e
    simp only [Option.bind_some] at e ⊢
    exact h.get e
mutual
theorem RepV.dp : ∀ (d : D) (v : V), hgt d < 100 → RepV K ad Z H d v → Dp K H v (toPy d)
  | .non, _, _, h => by simp only [RepV] at h; subst h; exact .non
  | .bl _, _, _, h => by simp only [RepV] at h; subst h; exact .bl _
  | .int _, _, _, h => by simp only [RepV] at h; subst h; exact .int _
  | .str _, _, _, h => by simp only [RepV] at h; obtain ⟨rfl, _⟩ := h; exact .str _
  | .tup xs, _, p, h => by
    simp only [RepV] at h
    simp only [hgt] at p
    obtain ⟨x, vs, rfl, t, r⟩ := h
    exact .tup t.sq (RepL.dp xs vs (by omega) r)
  | .lst xs, _, p, h => by
    simp only [RepV] at h
    simp only [hgt] at p
    obtain ⟨x, vs, rfl, t, r⟩ := h
    exact .lst t.sq (RepL.dp xs vs (by omega) r)
  | .dct _ _, _, h0, _ => by simp only [hgt] at h0; omega
  | .dtu _ _, _, h0, _ => by simp only [hgt] at h0; omega
  | .obj _ _, _, _, h => by simp only [RepV] at h
  | .m _, _, p, _ => by simp only [hgt] at p; omega
theorem RepL.dp : ∀ (ds : List D) (vs : List V), hgts ds < 100 → RepL K ad Z H ds vs → DpAll K H vs (toPys ds)
  | [], _, _, h => by simp only [RepL] at h; subst h; exact .nil
  | x :: xs, _, p, h => by
    simp only [RepL] at h
    simp only [hgts] at p
    obtain ⟨v, r, rfl, h1, h2⟩ := h
    exact .cons (RepV.dp x v (by omega) h1) (RepL.dp xs r (by omega) h2)
end
mutual
theorem RepV.lay : ∀ (d : D) (v : V), hgt d < 100 → RepV K ad Z H d v → (toPy d).canLay0 = true
  | .non, _, _, _ => rfl
  | .bl _, _, _, _ => rfl
  | .int _, _, _, _ => rfl
  | .str s, _, _, h => by
    simp only [RepV] at h
    show PyData.strOk (toS s) = true
    unfold PyData.strOk toS
    rw [← Array.all_toList]
    exact h.2
  | .tup xs, _, p, h => by
    simp only [RepV] at h
    simp only [hgt] at p
    obtain ⟨x, vs, rfl, t, r⟩ := h
    show PyData.canLayAll0 (toPys xs) = true
    exact RepL.lay xs vs (by omega) r
  | .lst xs, _, p, h => by
    simp only [RepV] at h
    simp only [hgt] at p
    obtain ⟨x, vs, rfl, t, r⟩ := h
    show PyData.canLayAll0 (toPys xs) = true
    exact RepL.lay xs vs (by omega) r
  | .dct _ _, _, h0, _ => by simp only [hgt] at h0; omega
  | .dtu _ _, _, h0, _ => by simp only [hgt] at h0; omega
  | .obj _ _, _, _, h => by simp only [RepV] at h
  | .m _, _, p, _ => by simp only [hgt] at p; omega
theorem RepL.lay : ∀ (ds : List D) (vs : List V), hgts ds < 100 → RepL K ad Z H ds vs → PyData.canLayAll0 (toPys ds) = true
  | [], _, _, _ => rfl
  | x :: xs, _, p, h => by
    simp only [RepL] at h
    simp only [hgts] at p
    obtain ⟨v, r, rfl, h1, h2⟩ := h
    show ((toPy x).canLay0 && PyData.canLayAll0 (toPys xs)) = true
    rw [RepV.lay x v (by omega) h1, RepL.lay xs r (by omega) h2]; rfl
end
mutual
theorem depth_toPy : ∀ d : D, hgt d < 100 → (toPy d).depth = hgt d
  | .non, _ => rfl
  | .bl _, _ => rfl
  | .int _, _ => rfl
  | .str _, _ => rfl
  | .tup xs, h => by
    simp only [hgt] at h ⊢
    show PyData.depthAll (toPys xs) + 1 = _
    rw [depth_toPys xs (by omega)]
  | .lst xs, h => by
    simp only [hgt] at h ⊢
    show PyData.depthAll (toPys xs) + 1 = _
    rw [depth_toPys xs (by omega)]
  | .dct _ _, h => by simp only [hgt] at h; omega
  | .dtu _ _, h => by simp only [hgt] at h; omega
  | .obj _ _, h => by simp only [hgt] at h; omega
  | .m _, h => by simp only [hgt] at h; omega
theorem depth_toPys : ∀ ds : List D, hgts ds < 100 → PyData.depthAll (toPys ds) = hgts ds
  | [], _ => rfl
  | x :: xs, h => by
    simp only [hgts] at h ⊢
    show max (toPy x).depth (PyData.depthAll (toPys xs)) = _
    rw [depth_toPy x (by omega), depth_toPys xs (by omega)]
end
theorem RepV.shaped {d : D} {v : V} (h : RepV K ad Z H d v) (e : okEq d = true) : SeqAt.shaped (toPy d) = true := by
  have e' : hgt d ≤ 64 := of_decide_eq_true e
  unfold SeqAt.shaped
  rw [RepV.lay d v (by omega) h, depth_toPy d (by omega)]
  simpa using e'
theorem RepV.dpE {d : D} {v : V} (h : RepV K ad Z H d v) (e : okEq d = true) : Dp K H v (toPy d) := by
  have e' : hgt d ≤ 64 := of_decide_eq_true e
  exact RepV.dp d v (by omega) h
end
theorem toS_inj {s t : Tx} (h : toS s = toS t) : s = t := by
  unfold toS at h
  injection h with h
  have := congrArg Array.toList h
  simpa using this
theorem toS_beq (s t : Tx) : (toS s == toS t) = decide (s = t) := by
  by_cases e : s = t
  · subst e; simp
  · rw [decide_eq_false e, beq_eq_false_iff_ne]
    exact fun q => e (toS_inj q)
mutual
theorem eqv_toPy : ∀ a b : D, hgt a < 100 → hgt b < 100 → PyData.eqv (toPy a) (toPy b) = eqD a b
  | .non, b, _, hb => by cases b <;> first | rfl | (simp only [hgt] at hb; omega)
  | .bl x, b, _, hb => by cases b <;> first | rfl | (simp only [hgt] at hb; omega)
  | .int x, b, _, hb => by cases b <;> first | rfl | (simp only [hgt] at hb; omega)
  | .str x, b, _, hb => by
    cases b <;> first | rfl | (simp only [hgt] at hb; omega) | skip
    rename_i j
    exact toS_beq x j
  | .tup xs, b, ha, hb => by
    cases b <;> first | rfl | (simp only [hgt] at hb; omega) | skip
    rename_i ys
    simp only [hgt] at ha hb
    exact eqv_toPys xs ys (by omega) (by omega)
  | .lst xs, b, ha, hb => by
    cases b <;> first | rfl | (simp only [hgt] at hb; omega) | skip
    rename_i ys
    simp only [hgt] at ha hb
    exact eqv_toPys xs ys (by omega) (by omega)
  | .dct _ _, _, h, _ => by simp only [hgt] at h; omega
  | .dtu _ _, _, h, _ => by simp only [hgt] at h; omega
  | .obj _ _, _, h, _ => by simp only [hgt] at h; omega
  | .m _, _, h, _ => by simp only [hgt] at h; omega
theorem eqv_toPys : ∀ a b : List D, hgts a < 100 → hgts b < 100 → PyData.eqvAll (toPys a) (toPys b) = eqDs a b
  | [], [], _, _ => rfl
  | [], _ :: _, _, _ => rfl
  | _ :: _, [], _, _ => rfl
  | x :: xs, y :: ys, ha, hb => by
    simp only [hgts] at ha hb
    show (PyData.eqv (toPy x) (toPy y) && PyData.eqvAll (toPys xs) (toPys ys)) = (eqD x y && eqDs xs ys)
    rw [eqv_toPy x y (by omega) (by omega), eqv_toPys xs ys (by omega) (by omega)]
end
theorem okEq_lt {d : D} (e : okEq d = true) : hgt d < 100 := by
  have e' : hgt d ≤ 64 := of_decide_eq_true e
  omega
theorem mem_toPys {x : D} (hx : hgt x < 100) : ∀ xs : List D, hgts xs < 100 → ((toPys xs).any fun z => PyData.eqv z (toPy x)) = memD x xs
  | [], _ => rfl
  | y :: ys, h => by
    simp only [hgts] at h
    show (PyData.eqv (toPy y) (toPy x) || (toPys ys).any fun z => PyData.eqv z (toPy x)) = (eqD y x || ys.any fun z => eqD z x)
    rw [eqv_toPy y x (by omega) hx, mem_toPys hx ys (by omega)]
    rfl

theorem nd_ix {α : Type} {N : List α} (hN : N.Nodup) {i j : Nat} {x : α} (a : N[i]? = some x) (b : N[j]? = some x) : i = j := by
  obtain ⟨h1, e1⟩ := List.getElem?_eq_some_iff.mp a
  obtain ⟨h2, e2⟩ := List.getElem?_eq_some_iff.mp b
  exact (List.getElem_inj hN).mp (e1.trans e2.symm)

/-! ### an activation -/
/-- what is fixed while a def runs: the heap and what was settled at its call, the objects that were lent to it -/
structure Gh where
  H0 : Hp
  Z0 : Addr → Prop
  lent : List Addr
structure Cf where
  ad : List Addr
  Z : Addr → Prop
abbrev Cf.Le (c : Cf) (H : Hp) (c' : Cf) (H' : Hp) : Prop := Mp.Le c.ad c.Z H c'.ad c'.Z H'
def ObjR (K : Kx) (c : Cf) (H : Hp) (a : Addr) : M → Prop
  | .mu d => ¬ c.Z a ∧ pureD d = true ∧ RepM K c.ad c.Z H d a
  | .fz d => c.Z a ∧ pureD d = true ∧ RepV K c.ad c.Z H d (.ref a)
structure Rep (K : Kx) (g : Gh) (c : Cf) (sl : Sl) (mm : Mm) (σ : L2.St) (H : Hp) : Prop where
  lenS : sl.length = σ.length
  lenA : c.ad.length = mm.length
  slot : ∀ (i : Nat) (d : D), sl[i]? = some (some d) → ∃ v, σ[i]? = some (some v) ∧ RepV K c.ad c.Z H d v
  obj : ∀ (k : Nat) (a : Addr) (x : M), c.ad[k]? = some a → mm[k]? = some x → ObjR K c H a x
  nd : c.ad.Nodup
  frm : ∀ b o, g.H0 b = some o → b ∉ c.ad → H b = some o
  zin : ∀ a, c.Z a → g.Z0 a ∨ g.H0 a = none ∨ a ∈ g.lent
  trk : ∀ a, c.Z a → H a ≠ none
  pre : ∃ l, c.ad = g.lent ++ l
  adn : ∀ a ∈ c.ad, a ∈ g.lent ∨ g.H0 a = none
section
variable {K : Kx} {g : Gh} {c : Cf} {sl : Sl} {mm : Mm} {σ : L2.St} {H : Hp}
theorem repM_there {a : Addr} {d : D} (h : RepM K c.ad c.Z H d a) : H a ≠ none := by
  cases d <;> simp only [RepM] at h <;> try exact h.elim
  · obtain ⟨vs, e, _⟩ := h
    rw [e]; simp
  · obtain ⟨vs, e, _⟩ := h
    rw [e]; simp
  · obtain ⟨o, vs, e, _⟩ := h
    rw [e]; simp
theorem ObjR.there {a : Addr} {x : M} (r : Rep K g c sl mm σ H) (h : ObjR K c H a x) : H a ≠ none := by
  cases x with
  | mu d => exact repM_there h.2.2
  | fz d => exact r.trk _ h.1
theorem Rep.adTrk (r : Rep K g c sl mm σ H) {a : Addr} (h : a ∈ c.ad) : H a ≠ none := by
  obtain ⟨k, hk⟩ := List.mem_iff_getElem?.mp h
  have hl : k < c.ad.length := (List.getElem?_eq_some_iff.mp hk).1
  have hl2 : k < mm.length := by rw [← r.lenA]; exact hl
  have hm : mm[k]? = some mm[k] := List.getElem?_eq_getElem hl2
  exact (r.obj k a _ hk hm).there r
theorem Rep.fresh0 (r : Rep K g c sl mm σ H) {p : Addr} (h : H p = none) : g.H0 p = none := by
  cases q : g.H0 p with
  | none => rfl
  | some o =>
    have hp : p ∉ c.ad := fun z => r.adTrk z h
    have := r.frm p o q hp
    rw [h] at this; cases this
theorem rd_upd {H : Hp} {p : Addr} {o : HO} {a : Addr} {u : HO} (hn : a ≠ p) (h : Rd H a u) : Rd (upd H p o) a u := by
  rcases h with h | ⟨ob, h⟩
  · exact .inl (by rw [upd_ne hn]; exact h)
  · exact .inr ⟨ob, by rw [upd_ne hn]; exact h⟩
/-- a new thing that will not change -/
def Cf.add (c : Cf) (p : Addr) : Cf := ⟨c.ad, fun a => c.Z a ∨ a = p⟩
theorem le_fresh (hz : ∀ a, c.Z a → H a ≠ none) {p : Addr} {o : HO} (h : H p = none) : c.Le H (c.add p) (upd H p o) :=
  ⟨⟨[], by simp [Cf.add]⟩, fun a z => .inl z, fun a u z r => rd_upd (fun e => hz a z (by rw [e]; exact h)) r⟩
theorem RepM.le {c c' : Cf} {H H' : Hp} (l : c.Le H c' H') {a : Addr} {d : D} (e : H' a = H a) (h : RepM K c.ad c.Z H d a) : RepM K c'.ad c'.Z H' d a := by
  cases d <;> simp only [RepM] at h ⊢ <;> try exact h
  · obtain ⟨vs, q, r⟩ := h
    exact ⟨vs, by rw [e]; exact q, RepL.le l _ _ r⟩
  · obtain ⟨kvs, q, h1, h2, r1, r, nd⟩ := h
    exact ⟨kvs, by rw [e]; exact q, h1, h2, RepL.le l _ _ r1, RepL.le l _ _ r, nd⟩
  · obtain ⟨o, kvs, q, h1, h2, r1, r, nd⟩ := h
    exact ⟨o, kvs, by rw [e]; exact q, h1, h2, RepL.le l _ _ r1, RepL.le l _ _ r, nd⟩
theorem Rep.fresh (r : Rep K g c sl mm σ H) {p : Addr} {o : HO} (h : H p = none) : Rep K g (c.add p) sl mm σ (upd H p o) := by
  have l : c.Le H (c.add p) (upd H p o) := le_fresh r.trk h
  have np : ∀ a ∈ c.ad, a ≠ p := fun a ha e => r.adTrk ha (by rw [e]; exact h)
  refine ⟨r.lenS, r.lenA, fun i d e => ?_, fun k a x e1 e2 => ?_, r.nd, fun b u e1 e2 => ?_, fun a z => ?_, fun a z => ?_, r.pre, r.adn⟩
  · obtain ⟨v, q, rv⟩ := r.slot i d e
    exact ⟨v, q, RepV.le l d v rv⟩
  · have ha : a ≠ p := np a (List.mem_of_getElem? e1)
    have := r.obj k a x e1 e2
    cases x with
    | mu d => exact ⟨fun z => z.elim this.1 ha, this.2.1, RepM.le l (upd_ne ha) this.2.2⟩
    | fz d => exact ⟨.inl this.1, this.2.1, RepV.le l _ _ this.2.2⟩
  · have hb := r.frm b u e1 e2
    rw [upd_ne (show b ≠ p from fun e => by rw [e, h] at hb; cases hb)]
    exact hb
  · rcases z with z | rfl
    · exact r.zin a z
    · exact .inr (.inl (r.fresh0 h))
  · rcases z with z | rfl
    · by_cases e : a = p
      · rw [e, upd_same]; simp
      · rw [upd_ne e]; exact r.trk a z
    · rw [upd_same]; simp
/-- a new object that may change -/
def Cf.own (c : Cf) (p : Addr) : Cf := ⟨c.ad ++ [p], c.Z⟩
theorem le_own (hz : ∀ a, c.Z a → H a ≠ none) {p : Addr} {o : HO} (h : H p = none) : c.Le H (c.own p) (upd H p o) :=
  ⟨⟨[p], rfl⟩, fun a z => z, fun a u z r => rd_upd (fun e => hz a z (by rw [e]; exact h)) r⟩
theorem Rep.ownG (r : Rep K g c sl mm σ H) {p : Addr} {o : HO} {e : D} (h : H p = none) (hp : pureD e = true) (hm : RepM K (c.own p).ad (c.own p).Z (upd H p o) e p) : Rep K g (c.own p) sl (mm ++ [.mu e]) σ (upd H p o) := by
  have l : c.Le H (c.own p) (upd H p o) := le_own r.trk h
  have np : ∀ a ∈ c.ad, a ≠ p := fun a ha e => r.adTrk ha (by rw [e]; exact h)
  have nz : ¬ c.Z p := fun z => r.trk p z h
  refine ⟨r.lenS, by simp [Cf.own, r.lenA], fun i d q => ?_, fun k a x e1 e2 => ?_, ?_, fun b u e1 e2 => ?_, r.zin, fun a z => ?_, ?_, fun a ha => ?_⟩
  · obtain ⟨v, q, rv⟩ := r.slot i d q
    exact ⟨v, q, RepV.le l d v rv⟩
  · by_cases hk : k < c.ad.length
    · have e1' : c.ad[k]? = some a := by rw [← e1]; exact (List.getElem?_append_left hk).symm
      have e2' : mm[k]? = some x := by rw [← e2]; exact (List.getElem?_append_left (by rw [← r.lenA]; exact hk)).symm
      have ha : a ≠ p := np a (List.mem_of_getElem? e1')
      have := r.obj k a x e1' e2'
      cases x with
      | mu d => exact ⟨this.1, this.2.1, RepM.le l (upd_ne ha) this.2.2⟩
      | fz d => exact ⟨this.1, this.2.1, RepV.le l _ _ this.2.2⟩
    · have hk' : k = c.ad.length := by
        have := (List.getElem?_eq_some_iff.mp e1).1
        simp [Cf.own] at this; omega
      subst hk'
      have ea : a = p := by simpa [Cf.own] using e1.symm
      rw [r.lenA] at e2
      have ex : x = .mu e := by simpa using e2.symm
      subst ea; subst ex
      exact ⟨nz, hp, hm⟩
  · exact List.nodup_append.mpr ⟨r.nd, by simp, fun a ha b hb => by simp at hb; subst hb; exact np a ha⟩
  · have hb0 : b ∉ c.ad := fun z => e2 (List.mem_append_left _ z)
    have hb := r.frm b u e1 hb0
    rw [upd_ne (show b ≠ p from fun e => by rw [e, h] at hb; cases hb)]
    exact hb
  · by_cases e : a = p
    · exact (nz (e ▸ z)).elim
    · rw [upd_ne e]; exact r.trk a z
  · obtain ⟨l0, e⟩ := r.pre
    exact ⟨l0 ++ [p], by simp [Cf.own, e]⟩
  · rcases List.mem_append.mp ha with ha | ha
    · exact r.adn a ha
    · simp at ha; subst ha; exact .inr (r.fresh0 h)
theorem Rep.own (r : Rep K g c sl mm σ H) {p : Addr} {vs : List V} {ds : List D} (h : H p = none) (hp : pureDs ds = true) (hr : RepL K c.ad c.Z H ds vs) : Rep K g (c.own p) sl (mm ++ [.mu (.lst ds)]) σ (upd H p (.lst vs)) :=
  r.ownG h (by simpa [pureD] using hp) (by
    show ∃ ws, _
    exact ⟨vs, upd_same, RepL.le (le_own r.trk h) _ _ hr⟩)
/-- an object is changed -/
theorem Rep.writeG (r : Rep K g c sl mm σ H) {k : Nat} {a : Addr} {d e : D} {u0 : HO} (ha : c.ad[k]? = some a) (hm : mm[k]? = some (.mu d)) (hp : pureD e = true) (hr : RepM K c.ad c.Z (upd H a u0) e a) :
    c.Le H c (upd H a u0) ∧ Rep K g c sl (mm.set k (.mu e)) σ (upd H a u0) := by
  have o := r.obj k a _ ha hm
  have nz : ¬ c.Z a := o.1
  have l : c.Le H c (upd H a u0) := ⟨⟨[], by simp⟩, fun _ z => z, fun b u z q => rd_upd (fun e => nz (e ▸ z)) q⟩
  refine ⟨l, r.lenS, by simp [r.lenA], fun i d q => ?_, fun k' a' x e1 e2 => ?_, r.nd, fun b u e1 e2 => ?_, r.zin, fun b z => ?_, r.pre, r.adn⟩
  · obtain ⟨v, q, rv⟩ := r.slot i d q
    exact ⟨v, q, RepV.le l d v rv⟩
  · by_cases hk : k' = k
    · subst hk
      rw [ha] at e1; cases e1
      have hl : k' < mm.length := (List.getElem?_eq_some_iff.mp hm).1
      rw [List.getElem?_set_self hl] at e2; cases e2
      exact ⟨nz, hp, hr⟩
    · rw [List.getElem?_set_ne (Ne.symm hk)] at e2
      have na : a' ≠ a := fun e => by
        subst e
        exact hk (nd_ix r.nd e1 ha)
      have := r.obj k' a' x e1 e2
      cases x with
      | mu d => exact ⟨this.1, this.2.1, RepM.le l (upd_ne na) this.2.2⟩
      | fz d => exact ⟨this.1, this.2.1, RepV.le l _ _ this.2.2⟩
  · rw [upd_ne (show b ≠ a from fun e => e2 (e ▸ List.mem_of_getElem? ha))]
    exact r.frm b u e1 e2
  · rw [upd_ne (show b ≠ a from fun e => nz (e ▸ z))]
    exact r.trk b z
theorem Rep.write (r : Rep K g c sl mm σ H) {k : Nat} {a : Addr} {d : D} {vs : List V} {ds : List D} (ha : c.ad[k]? = some a) (hm : mm[k]? = some (.mu d)) (hp : pureDs ds = true) (hr : RepL K c.ad c.Z H ds vs) :
    c.Le H c (upd H a (.lst vs)) ∧ Rep K g c sl (mm.set k (.mu (.lst ds))) σ (upd H a (.lst vs)) := by
  have nz : ¬ c.Z a := (r.obj k a _ ha hm).1
  have l : c.Le H c (upd H a (.lst vs)) := ⟨⟨[], by simp⟩, fun _ z => z, fun b u z q => rd_upd (fun e => nz (e ▸ z)) q⟩
  exact r.writeG ha hm (by simpa [pureD] using hp) (by
    show ∃ ws, _
    exact ⟨vs, upd_same, RepL.le l _ _ hr⟩)
/-- an object is settled -/
theorem Rep.freeze (r : Rep K g c sl mm σ H) {k : Nat} {a : Addr} {d : D} (ha : c.ad[k]? = some a) (hm : mm[k]? = some (.mu d)) :
    c.Le H (c.add a) H ∧ Rep K g (c.add a) sl (mm.set k (.fz d)) σ H ∧ RepV K c.ad (c.add a).Z H d (.ref a) := by
  have o := r.obj k a _ ha hm
  have l : c.Le H (c.add a) H := ⟨⟨[], by simp [Cf.add]⟩, fun _ z => .inl z, fun b u z q => q⟩
  have hv : RepV K c.ad (c.add a).Z H d (.ref a) := by
    have q := o.2.2
    cases d <;> simp only [RepM] at q <;> try exact q.elim
    · obtain ⟨vs, e, rl⟩ := q
      simp only [RepV]
      exact ⟨a, vs, rfl, ⟨.inr rfl, .inl e⟩, RepL.le l _ _ rl⟩
    · obtain ⟨kvs, e, h1, h2, r1, rl, _⟩ := q
      simp only [RepV]
      exact ⟨a, kvs, rfl, .inr rfl, .inl e, h1, h2, RepL.le l _ _ r1, RepL.le l _ _ rl⟩
    · obtain ⟨o, kvs, e, h1, h2, r1, rl, _⟩ := q
      simp only [RepV]
      exact ⟨a, o, kvs, rfl, .inr rfl, .inl e, h1, h2, RepL.le l _ _ r1, RepL.le l _ _ rl⟩
  refine ⟨l, ⟨r.lenS, by simp [Cf.add, r.lenA], fun i d e => ?_, fun k' a' x e1 e2 => ?_, r.nd, r.frm, fun b z => ?_, fun b z => ?_, r.pre, r.adn⟩, hv⟩
  · obtain ⟨v, q, rv⟩ := r.slot i d e
    exact ⟨v, q, RepV.le l d v rv⟩
  · by_cases hk : k' = k
    · subst hk
      have e1' : c.ad[k']? = some a' := e1
      rw [ha] at e1'; cases e1'
      have hl : k' < mm.length := (List.getElem?_eq_some_iff.mp hm).1
      rw [List.getElem?_set_self hl] at e2; cases e2
      exact ⟨.inr rfl, o.2.1, hv⟩
    · rw [List.getElem?_set_ne (Ne.symm hk)] at e2
      have e1' : c.ad[k']? = some a' := e1
      have na : a' ≠ a := fun e => by
        subst e
        exact hk (nd_ix r.nd e1' ha)
      have := r.obj k' a' x e1' e2
      cases x with
      | mu d => exact ⟨fun z => z.elim this.1 na, this.2.1, RepM.le l rfl this.2.2⟩
      | fz d => exact ⟨.inl this.1, this.2.1, RepV.le l _ _ this.2.2⟩
  · rcases z with z | rfl
    · exact r.zin b z
    · exact (r.adn b (List.mem_of_getElem? ha)).elim (fun q => .inr (.inr q)) fun q => .inr (.inl q)
  · rcases z with z | rfl
    · exact r.trk b z
    · exact r.adTrk (List.mem_of_getElem? ha)
/-- a slot is set -/
theorem Rep.set (r : Rep K g c sl mm σ H) {i : Nat} {d : D} {v : V} (hv : RepV K c.ad c.Z H d v) : Rep K g c (sl.set i (some d)) mm (σ.set i (some v)) H := by
  refine ⟨by simp [r.lenS], r.lenA, fun j x e => ?_, r.obj, r.nd, r.frm, r.zin, r.trk, r.pre, r.adn⟩
  by_cases h : j = i
  · subst h
    have hj : j < sl.length := by
      have := (List.getElem?_eq_some_iff.mp e).1
      simpa using this
    rw [List.getElem?_set_self hj] at e
    have ed : d = x := by simpa using e
    subst ed
    exact ⟨v, by rw [List.getElem?_set_self (by rw [← r.lenS]; exact hj)], hv⟩
  · rw [List.getElem?_set_ne (Ne.symm h)] at e
    obtain ⟨w, q, rw'⟩ := r.slot j x e
    exact ⟨w, by rw [List.getElem?_set_ne (Ne.symm h)]; exact q, rw'⟩
/-- what a value reads as -/
theorem Rep.rdL (r : Rep K g c sl mm σ H) {d : D} {v : V} {xs : List D} (hv : RepV K c.ad c.Z H d v) (e : rd mm d = .lst xs) : ∃ a vs, v = .ref a ∧ Rd H a (.lst vs) ∧ RepL K c.ad c.Z H xs vs := by
  cases d <;> simp only [rd] at e <;> try (cases e)
  · simp only [RepV] at hv
    obtain ⟨a, vs, rfl, t, rl⟩ := hv
    exact ⟨a, vs, rfl, t.2, rl⟩
  · rename_i k
    simp only [RepV] at hv
    obtain ⟨a, ha, rfl⟩ := hv
    cases q : mm[k]? with
    | none => rw [q] at e; cases e
    | some x =>
      rw [q] at e
      have o := r.obj k a x ha q
      cases x with
      | mu d =>
        simp only [M.val] at e; subst e
        obtain ⟨vs, h1, h2⟩ := o.2.2
        exact ⟨a, vs, rfl, .inl h1, h2⟩
      | fz d =>
        simp only [M.val] at e; subst e
        have h := o.2.2
        simp only [RepV] at h
        obtain ⟨a', vs, e1, t, rl⟩ := h
        cases e1
        exact ⟨a, vs, rfl, t.2, rl⟩
theorem Rep.rdT (r : Rep K g c sl mm σ H) {d : D} {v : V} {xs : List D} (hv : RepV K c.ad c.Z H d v) (e : rd mm d = .tup xs) : ∃ a vs, v = .ref a ∧ SqT K H a vs ∧ RepL K c.ad c.Z H xs vs := by
  cases d <;> simp only [rd] at e <;> try (cases e)
  · simp only [RepV] at hv
    obtain ⟨a, vs, rfl, t, rl⟩ := hv
    exact ⟨a, vs, rfl, t.sq, rl⟩
  · rename_i k
    simp only [RepV] at hv
    obtain ⟨a, ha, rfl⟩ := hv
    cases q : mm[k]? with
    | none => rw [q] at e; cases e
    | some x =>
      rw [q] at e
      have o := r.obj k a x ha q
      cases x with
      | mu d =>
        simp only [M.val] at e; subst e
        have := o.2.2
        simp only [RepM] at this
      | fz d =>
        simp only [M.val] at e; subst e
        have h := o.2.2
        simp only [RepV] at h
        obtain ⟨a', vs, e1, t, rl⟩ := h
        cases e1
        exact ⟨a, vs, rfl, t.sq, rl⟩
/-- a value of a kind that is no object -/
theorem Rep.rdV (r : Rep K g c sl mm σ H) {d : D} {v : V} (hv : RepV K c.ad c.Z H d v) (h : (∀ xs, rd mm d ≠ .lst xs)) (h2 : ∀ ks xs, rd mm d ≠ .dct ks xs := by intro _ _ z; simp_all) (h3 : ∀ ks xs, rd mm d ≠ .dtu ks xs := by intro _ _ z; simp_all) : rd mm d = d ∨ ∃ k xs, d = .m k ∧ rd mm d = .tup xs := by
  cases d <;> try exact .inl rfl
  rename_i k
  right
  simp only [RepV] at hv
  obtain ⟨a, ha, rfl⟩ := hv
  have hl : k < mm.length := by rw [← r.lenA]; exact (List.getElem?_eq_some_iff.mp ha).1
  have q : mm[k]? = some mm[k] := List.getElem?_eq_getElem hl
  have o := r.obj k a _ ha q
  have e : rd mm (.m k) = mm[k].val := by simp only [rd, q]
  cases hx : mm[k] with
  | mu d =>
    rw [hx] at o e
    have := o.2.2
    cases d <;> simp only [RepM] at this <;> try exact this.elim
    · exact absurd e (h _)
    · exact absurd e (h2 _ _)
    · exact absurd e (h3 _ _)
  | fz d =>
    rw [hx] at o e
    have := o.2.2
    cases d <;> simp only [RepV] at this
    · cases this
    · cases this
    · cases this
    · cases this.1
    · exact ⟨k, _, rfl, e⟩
    · exact absurd e (h _)
    · exact absurd e (h2 _ _)
    · exact absurd e (h3 _ _)
    · have := o.2.1
      simp [pureD] at this
/-- a dict -/
theorem Rep.rdD (r : Rep K g c sl mm σ H) {d : D} {v : V} {ks xs : List D} (hv : RepV K c.ad c.Z H d v) (e : rd mm d = .dct ks xs) :
    ∃ a kvs, v = .ref a ∧ Rd H a (.dK kvs) ∧ kvs.map (·.1) = ks.map keyT ∧ RepL K c.ad c.Z H xs (kvs.map (·.2)) ∧ ks.all isKT = true ∧ RepL K c.ad c.Z H ks (kvs.map fun q => kV q.1) := by
  have fin : ∀ a, RepV K c.ad c.Z H (.dct ks xs) (.ref a) → ∃ a' kvs, V.ref a = .ref a' ∧ Rd H a' (.dK kvs) ∧ kvs.map (·.1) = ks.map keyT ∧ RepL K c.ad c.Z H xs (kvs.map (·.2)) ∧ ks.all isKT = true ∧ RepL K c.ad c.Z H ks (kvs.map fun q => kV q.1) := fun a h => by
    simp only [RepV] at h
    obtain ⟨a', kvs, e1, z, t, k, pk, r1, rl⟩ := h
    exact ⟨a', kvs, e1, t, k, rl, pk, r1⟩
  cases d with
  | m k =>
    simp only [RepV] at hv
    obtain ⟨a, ha, rfl⟩ := hv
    have hl : k < mm.length := by rw [← r.lenA]; exact (List.getElem?_eq_some_iff.mp ha).1
    have q : mm[k]? = some mm[k] := List.getElem?_eq_getElem hl
    have o := r.obj k a _ ha q
    have e' : rd mm (.m k) = mm[k].val := by simp only [rd, q]
    rw [e'] at e
    cases hx : mm[k] with
    | mu d =>
      rw [hx] at o e
      simp only [M.val] at e; subst e
      have := o.2.2
      simp only [RepM] at this
      obtain ⟨kvs, h1, h2, h3, h4, h5, _⟩ := this
      exact ⟨a, kvs, rfl, .inl h1, h2, h5, h3, h4⟩
    | fz d =>
      rw [hx] at o e
      simp only [M.val] at e; subst e
      exact fin a o.2.2
  | _ =>
    simp only [rd] at e
    first
      | (cases e; done)
      | (cases e
         have h0 := hv
         simp only [RepV] at h0
         obtain ⟨a, kvs, rfl, _⟩ := h0
         exact fin a hv)
theorem Rep.rdU (r : Rep K g c sl mm σ H) {d : D} {v : V} {ks xs : List D} (hv : RepV K c.ad c.Z H d v) (e : rd mm d = .dtu ks xs) :
    ∃ a o kvs, v = .ref a ∧ Rd H a (K.dn a o kvs) ∧ kvs.map (·.1) = ks.map nkT ∧ ks.all isKD = true ∧ RepL K c.ad c.Z H ks (kvs.map fun q => V.ref q.2.1) ∧ RepL K c.ad c.Z H xs (kvs.map (·.2.2)) := by
  have fin : ∀ a, RepV K c.ad c.Z H (.dtu ks xs) (.ref a) → ∃ a' o kvs, V.ref a = .ref a' ∧ Rd H a' (K.dn a' o kvs) ∧ kvs.map (·.1) = ks.map nkT ∧ ks.all isKD = true ∧ RepL K c.ad c.Z H ks (kvs.map fun q => V.ref q.2.1) ∧ RepL K c.ad c.Z H xs (kvs.map (·.2.2)) := fun a h => by
    simp only [RepV] at h
    obtain ⟨a', o, kvs, e1, z, t, k, pk, r1, rl⟩ := h
    exact ⟨a', o, kvs, e1, t, k, pk, r1, rl⟩
  cases d with
  | m k =>
    simp only [RepV] at hv
    obtain ⟨a, ha, rfl⟩ := hv
    have hl : k < mm.length := by rw [← r.lenA]; exact (List.getElem?_eq_some_iff.mp ha).1
    have q : mm[k]? = some mm[k] := List.getElem?_eq_getElem hl
    have o := r.obj k a _ ha q
    have e' : rd mm (.m k) = mm[k].val := by simp only [rd, q]
    rw [e'] at e
    cases hx : mm[k] with
    | mu d =>
      rw [hx] at o e
      simp only [M.val] at e; subst e
      have := o.2.2
      simp only [RepM] at this
      obtain ⟨ob, kvs, h1, h2, h3, h4, h5, _⟩ := this
      exact ⟨a, ob, kvs, rfl, .inl h1, h2, h3, h4, h5⟩
    | fz d =>
      rw [hx] at o e
      simp only [M.val] at e; subst e
      exact fin a o.2.2
  | _ =>
    simp only [rd] at e
    first
      | (cases e; done)
      | (cases e
         have h0 := hv
         simp only [RepV] at h0
         obtain ⟨a, ob, kvs, rfl, _⟩ := h0
         exact fin a hv)
end
theorem repV_key {K : Kx} {ad : List Addr} {Z : Addr → Prop} {H : Hp} {d : D} {v : V} (h : RepV K ad Z H d v) (k : isKT d = true) : v = kV (keyT d) := by
  cases d <;> simp only [isKT, Bool.false_eq_true] at k
  · simp only [RepV] at h; exact h
  · simp only [RepV] at h; exact h.1
theorem eqD_key {x y : D} (hx : isKT x = true) (hy : isKT y = true) : eqD x y = decide (keyT x = keyT y) := by
  cases x <;> simp only [isKT, Bool.false_eq_true] at hx <;> cases y <;> simp only [isKT, Bool.false_eq_true] at hy <;> simp only [eqD, keyT]
  · by_cases e : ‹Int› = ‹Int› <;> simp [e]
  · simp
  · simp
  · rename_i s t
    by_cases e : s = t
    · simp [e]
    · have h2 : ¬ toS s = toS t := fun z => e (toS_inj z)
      simp [e, h2]
/-- the item at a key -/
theorem valV_key {b : D} (hb : isKT b = true) : ∀ {ks : List D} {kvs : List (L2.Key × V)}, ks.all isKT = true → kvs.map (·.1) = ks.map keyT → valV kvs (keyT b) = (idxOfD b ks).bind fun j => (kvs.map (·.2))[j]?
  | [], [], _, _ => rfl
  | [], _ :: _, _, h => by simp at h
  | _ :: _, [], _, h => by simp at h
  | k :: ks, q :: kvs, hk, h => by
    simp only [List.map_cons, List.cons.injEq] at h
    rw [List.all_cons, Bool.and_eq_true] at hk
    simp only [idxOfD]
    rw [eqD_key hk.1 hb]
    by_cases e : keyT k = keyT b
    · rw [valV_pos (by rw [h.1]; exact e)]
      simp [e]
    · rw [valV_neg (by rw [h.1]; exact e), valV_key hb hk.2 h.2]
      simp only [e, decide_false, Bool.false_eq_true, if_false]
      cases idxOfD b ks <;> rfl
theorem idxOfD_mem {b : D} : ∀ {ks : List D}, (idxOfD b ks).isSome = memD b ks
  | [] => rfl
  | k :: ks => by
    simp only [idxOfD, memD, List.any_cons]
    cases eqD k b with
    | true => rfl
    | false =>
      simp only [Bool.false_eq_true, if_false, Bool.false_or, Option.isSome_map]
      exact idxOfD_mem
theorem idxOfD_lt {b : D} : ∀ {ks : List D} {j : Nat}, idxOfD b ks = some j → j < ks.length
  | [], _, h => by simp [idxOfD] at h
  | k :: ks, j, h => by
    simp only [idxOfD] at h
    split at h
    · cases h; simp
    · cases q : idxOfD b ks with
      | none => rw [q] at h; cases h
      | some i =>
        rw [q] at h
        simp only [Option.map_some, Option.some.injEq] at h
        have := idxOfD_lt q
        simp; omega
end Mp
/-! Mp2b: keys of any depth; what is stored in a dict; objects that are made or changed, of any kind. -/
namespace Mp
open PySem PySem.Spec
open PyProof.Rows L2
section
variable {K : Kx} {ad : List Addr} {Z : Addr → Prop} {H : Hp}
mutual
theorem keyV_of : ∀ (d : D) (n : Nat) (v : V), keyD d n = true → RepV K ad Z H d v → KeyV K.K H (nkT d) v
  | .non, _, _, _, h => by simp only [RepV] at h; subst h; exact .non
  | .int i, _, _, _, h => by simp only [RepV] at h; subst h; exact .num i
  | .str s, _, _, _, h => by simp only [RepV] at h; obtain ⟨rfl, _⟩ := h; exact .text _
  | .tup xs, n, _, k, h => by
    simp only [RepV] at h
    obtain ⟨a, vs, rfl, t, r⟩ := h
    cases n with
    | zero => simp only [keyD, Bool.false_eq_true] at k
    | succ n =>
      simp only [keyD] at k
      exact .tup t.sq (keyVs_of xs n vs k r)
  | .bl _, _, _, k, _ => by simp only [keyD, Bool.false_eq_true] at k
  | .lst _, _, _, k, _ => by simp only [keyD, Bool.false_eq_true] at k
  | .dct _ _, _, _, k, _ => by simp only [keyD, Bool.false_eq_true] at k
  | .dtu _ _, _, _, k, _ => by simp only [keyD, Bool.false_eq_true] at k
  | .obj _ _, _, _, k, _ => by simp only [keyD, Bool.false_eq_true] at k
  | .m _, _, _, k, _ => by simp only [keyD, Bool.false_eq_true] at k
theorem keyVs_of : ∀ (ds : List D) (n : Nat) (vs : List V), keyDs ds n = true → RepL K ad Z H ds vs → KeyVs K.K H (nkTs ds) vs
  | [], _, _, _, h => by simp only [RepL] at h; subst h; exact .nil
  | x :: xs, n, _, k, h => by
    simp only [RepL] at h
    simp only [keyDs, Bool.and_eq_true] at k
    obtain ⟨v, r, rfl, h1, h2⟩ := h
    exact .cons (keyV_of x n v k.1 h1) (keyVs_of xs n r k.2 h2)
end
mutual
theorem depth_nk : ∀ (d : D) (n : Nat), keyD d n = true → (nkT d).depth ≤ n
  | .non, _, _ => Nat.zero_le _
  | .int _, _, _ => Nat.zero_le _
  | .str _, _, _ => Nat.zero_le _
  | .tup xs, n, k => by
    cases n with
    | zero => simp only [keyD, Bool.false_eq_true] at k
    | succ n =>
      simp only [keyD] at k
      have := depth_nks xs n k
      simp only [nkT, NestedKey.depth]; omega
  | .bl _, _, k => by simp only [keyD, Bool.false_eq_true] at k
  | .lst _, _, k => by simp only [keyD, Bool.false_eq_true] at k
  | .dct _ _, _, k => by simp only [keyD, Bool.false_eq_true] at k
  | .dtu _ _, _, k => by simp only [keyD, Bool.false_eq_true] at k
  | .obj _ _, _, k => by simp only [keyD, Bool.false_eq_true] at k
  | .m _, _, k => by simp only [keyD, Bool.false_eq_true] at k
theorem depth_nks : ∀ (ds : List D) (n : Nat), keyDs ds n = true → NestedKey.depthAll (nkTs ds) ≤ n
  | [], _, _ => Nat.zero_le _
  | x :: xs, n, k => by
    simp only [keyDs, Bool.and_eq_true] at k
    have h1 := depth_nk x n k.1
    have h2 := depth_nks xs n k.2
    simp only [nkTs, NestedKey.depthAll]; omega
end
theorem isKD_key {d : D} (h : isKD d = true) : keyD d 7 = true := by
  cases d <;> simp only [isKD, Bool.false_eq_true] at h
  simp only [keyD]; exact h
mutual
theorem eqD_nk : ∀ (x y : D) (n m : Nat), keyD x n = true → keyD y m = true → eqD x y = NestedKey.beq (nkT x) (nkT y)
  | .non, y, _, m, _, k => by cases y <;> first | rfl | (simp only [keyD, Bool.false_eq_true] at k; done)
  | .int i, y, _, m, _, k => by cases y <;> first | rfl | (simp only [keyD, Bool.false_eq_true] at k; done)
  | .str s, y, _, m, _, k => by
    cases y <;> first | rfl | (simp only [keyD, Bool.false_eq_true] at k; done) | skip
    rename_i t
    simp only [eqD, nkT, NestedKey.beq]
    by_cases e : s = t
    · simp [e]
    · have h2 : ¬ toS s = toS t := fun z => e (toS_inj z)
      simp [e, h2]
  | .tup xs, y, n, m, j, k => by
    cases y <;> first | rfl | (simp only [keyD, Bool.false_eq_true] at k; done) | skip
    rename_i ys
    cases n with
    | zero => simp only [keyD, Bool.false_eq_true] at j
    | succ n =>
      cases m with
      | zero => simp only [keyD, Bool.false_eq_true] at k
      | succ m =>
        simp only [keyD] at j k
        simp only [eqD, nkT, NestedKey.beq]
        exact eqDs_nk xs ys n m j k
  | .bl _, _, _, _, k, _ => by simp only [keyD, Bool.false_eq_true] at k
  | .lst _, _, _, _, k, _ => by simp only [keyD, Bool.false_eq_true] at k
  | .dct _ _, _, _, _, k, _ => by simp only [keyD, Bool.false_eq_true] at k
  | .dtu _ _, _, _, _, k, _ => by simp only [keyD, Bool.false_eq_true] at k
  | .obj _ _, _, _, _, k, _ => by simp only [keyD, Bool.false_eq_true] at k
  | .m _, _, _, _, k, _ => by simp only [keyD, Bool.false_eq_true] at k
theorem eqDs_nk : ∀ (xs ys : List D) (n m : Nat), keyDs xs n = true → keyDs ys m = true → eqDs xs ys = NestedKey.beqAll (nkTs xs) (nkTs ys)
  | [], [], _, _, _, _ => rfl
  | [], _ :: _, _, _, _, _ => rfl
  | _ :: _, [], _, _, _, _ => rfl
  | x :: xs, y :: ys, n, m, j, k => by
    simp only [keyDs, Bool.and_eq_true] at j k
    simp only [eqDs, nkTs, NestedKey.beqAll, eqD_nk x y n m j.1 k.1, eqDs_nk xs ys n m j.2 k.2]
end
theorem eqD_kd {x y : D} (hx : isKD x = true) (hy : isKD y = true) : eqD x y = decide (nkT x = nkT y) := by
  rw [eqD_nk x y 7 7 (isKD_key hx) (isKD_key hy), NestedKey.decide_eq]
theorem keyA_of {d : D} {b : Addr} (h : isKD d = true) (r : RepV K ad Z H d (.ref b)) : KeyA K.K H (nkT d) b := ⟨keyV_of d 7 _ (isKD_key h) r, by have := depth_nk d 7 (isKD_key h); omega⟩
/-- a key lies at an address -/
theorem repV_kd {d : D} {v : V} (h : isKD d = true) (r : RepV K ad Z H d v) : ∃ b, v = .ref b := by
  cases d <;> simp only [isKD, Bool.false_eq_true] at h
  simp only [RepV] at r
  obtain ⟨a, _, e, _⟩ := r
  exact ⟨a, e⟩
theorem keysA {ks : List D} {kvs : Nkv} (hk : ks.all isKD = true) (e : kvs.map (·.1) = ks.map nkT) (r : RepL K ad Z H ks (kvs.map fun q => V.ref q.2.1)) : ∀ q ∈ kvs, KeyA K.K H q.1 q.2.1 := by
  induction ks generalizing kvs with
  | nil =>
    cases kvs with
    | nil => intro q h; cases h
    | cons p kvs => simp at e
  | cons x ks ih =>
    cases kvs with
    | nil => simp at e
    | cons p kvs =>
      simp only [List.map_cons, List.cons.injEq] at e
      simp only [List.map_cons, RepL] at r
      obtain ⟨v, t, e2, h1, h2⟩ := r
      cases e2
      rw [List.all_cons, Bool.and_eq_true] at hk
      intro q hq
      rcases List.mem_cons.mp hq with rfl | hq
      · rw [e.1]; exact keyA_of hk.1 h1
      · exact ih hk.2 e.2 h2 q hq
/-- the item at a key -/
theorem atN_key {b : D} (hb : isKD b = true) : ∀ {ks : List D} {kvs : Nkv}, ks.all isKD = true → kvs.map (·.1) = ks.map nkT → atN kvs (nkT b) = (idxOfD b ks).bind fun j => (kvs.map (·.2.2))[j]?
  | [], [], _, _ => rfl
  | [], _ :: _, _, h => by simp at h
  | _ :: _, [], _, h => by simp at h
  | k :: ks, q :: kvs, hk, h => by
    simp only [List.map_cons, List.cons.injEq] at h
    rw [List.all_cons, Bool.and_eq_true] at hk
    have ih := atN_key hb hk.2 h.2
    simp only [idxOfD]
    rw [eqD_kd hk.1 hb]
    by_cases e : nkT k = nkT b
    · have e2 : q.1 = nkT b := by rw [h.1]; exact e
      simp [atN, List.find?_cons, e, e2]
    · have e2 : ¬ q.1 = nkT b := by rw [h.1]; exact e
      simp only [e, decide_false, Bool.false_eq_true, if_false]
      have z : atN (q :: kvs) (nkT b) = atN kvs (nkT b) := by simp [atN, List.find?_cons, e2]
      rw [z, ih]
      cases idxOfD b ks <;> rfl
theorem isSome_nk {b : D} (hb : isKD b = true) {ks : List D} {kvs : Nkv} (hk : ks.all isKD = true) (h : kvs.map (·.1) = ks.map nkT) : (atN kvs (nkT b)).isSome = memD b ks := by
  rw [atN_key hb hk h, ← idxOfD_mem]
  cases q : idxOfD b ks with
  | none => rfl
  | some j =>
    have h1 := idxOfD_lt q
    have h2 : (kvs.map (·.2.2)).length = ks.length := by
      have := congrArg List.length h
      simpa using this
    show ((kvs.map (·.2.2))[j]?).isSome = true
    rw [List.getElem?_eq_getElem (by omega)]; rfl
/-- a store: the keys, their places, the values behind it -/
theorem putN_spec {b : D} {p : Addr} {v : V} (hb : isKD b = true) : ∀ {ks : List D} {kvs : Nkv}, ks.all isKD = true → kvs.map (·.1) = ks.map nkT → (ks.map nkT).Nodup →
    (∀ j, idxOfD b ks = some j → (putN kvs (nkT b) p v).map (·.1) = ks.map nkT ∧ (putN kvs (nkT b) p v).map (·.2.1) = kvs.map (·.2.1) ∧ (putN kvs (nkT b) p v).map (·.2.2) = (kvs.map (·.2.2)).set j v) ∧
    (idxOfD b ks = none → putN kvs (nkT b) p v = kvs ++ [(nkT b, p, v)] ∧ nkT b ∉ ks.map nkT) := by
  intro ks kvs hk h nd
  have hs := isSome_nk hb hk h
  have nin : ∀ {ks : List D}, ks.all isKD = true → idxOfD b ks = none → nkT b ∉ ks.map nkT := by
    intro ks
    induction ks with
    | nil => intro _ _; simp
    | cons k ks ih =>
      intro hk e
      rw [List.all_cons, Bool.and_eq_true] at hk
      simp only [idxOfD] at e
      rw [eqD_kd hk.1 hb] at e
      by_cases z : nkT k = nkT b
      · simp [z] at e
      · simp only [z, decide_false, Bool.false_eq_true, if_false, Option.map_eq_none_iff] at e
        simp only [List.map_cons, List.mem_cons, not_or]
        exact ⟨fun q => z q.symm, ih hk.2 e⟩
  refine ⟨fun j e => ?_, fun e => ?_⟩
  · have hm : (atN kvs (nkT b)).isSome = true := by rw [hs, ← idxOfD_mem, e]; rfl
    unfold putN
    rw [if_pos hm]
    have m1 : ∀ {kvs : Nkv}, (kvs.map (fun q => if q.1 = nkT b then (q.1, q.2.1, v) else q)).map (·.1) = kvs.map (·.1) ∧ (kvs.map (fun q => if q.1 = nkT b then (q.1, q.2.1, v) else q)).map (·.2.1) = kvs.map (·.2.1) := by
      intro kvs
      induction kvs with
      | nil => exact ⟨rfl, rfl⟩
      | cons q kvs ih =>
        simp only [List.map_cons, ih.1, ih.2]
        by_cases z : q.1 = nkT b <;> simp [z]
    refine ⟨by rw [m1.1, h], m1.2, ?_⟩
    clear hm hs m1
    induction ks generalizing kvs j with
    | nil => simp [idxOfD] at e
    | cons k ks ih =>
      cases kvs with
      | nil => simp at h
      | cons q kvs =>
        simp only [List.map_cons, List.cons.injEq] at h
        rw [List.all_cons, Bool.and_eq_true] at hk
        rw [List.map_cons, List.nodup_cons] at nd
        simp only [idxOfD] at e
        rw [eqD_kd hk.1 hb] at e
        by_cases z : nkT k = nkT b
        · simp only [z, decide_true, if_true, Option.some.injEq] at e
          subst e
          have z2 : q.1 = nkT b := by rw [h.1]; exact z
          simp only [List.map_cons, z2, if_true, List.set_cons_zero]
          congr 1
          have : ∀ q' ∈ kvs, ¬ q'.1 = nkT b := fun q' hq e' => by
            have hm : q'.1 ∈ kvs.map (·.1) := List.mem_map_of_mem hq
            rw [h.2, e', ← z] at hm
            exact nd.1 hm
          clear ih nd h z2
          induction kvs with
          | nil => rfl
          | cons q' kvs ih2 =>
            simp only [List.map_cons, this q' (by simp), if_false]
            rw [ih2 fun q'' hq => this q'' (by simp [hq])]
        · have z2 : ¬ q.1 = nkT b := by rw [h.1]; exact z
          simp only [z, decide_false, Bool.false_eq_true, if_false, Option.map_eq_some_iff] at e
          obtain ⟨j', e', rfl⟩ := e
          simp only [List.map_cons, z2, if_false, List.set_cons_succ]
          rw [ih hk.2 h.2 nd.2 j' e']
  · have hm : (atN kvs (nkT b)).isSome = false := by rw [hs, ← idxOfD_mem, e]; rfl
    unfold putN
    rw [hm]
    exact ⟨rfl, nin hk e⟩
end
end Mp
/-! Mp3: readings of the small language, over the hand layer's. -/
namespace Mp
open PySem PySem.Spec
open PyProof.Rows L2

/-- a program: the written part, the names, what the small language says of the defs -/
structure Pg where
  K : Kx
  mg : Str → Option Value
  T : Nat → FDef
  gv : Nat → D
  sub : Nat → Nat → Option Bool
  gn : Nat → Str
  fn : Nat → Str
  en : Nat → Str
  fa : Nat → Addr
  ea : Nat → Addr
  dom : Nat → Bool
  gdom : Nat → Bool
  edom : Nat → Bool
  bdom : Str → Bool
abbrev Pg.cf (p : Pg) (n : Nat) : Nat → List D → Mm → Option FR := callF p.sub p.T p.gv n
/-- how an error lies -/
def RepX (x : Ex) (dd : Option Addr) : Prop := x.fs = [] ∧ dd = none
section
variable (p : Pg) (g : Gh)
def PostE (c : Cf) (sl : Sl) (σ : L2.St) (H : Hp) (W : WX) (Q : VK) : Option RE → Prop
  | none => False
  | some (.ok d mm) => ∀ c' v H', c.Le H c' H' → Rep p.K g c' sl mm σ H' → RepV p.K c'.ad c'.Z H' d v → Q v H'
  | some (.ex x mm) => ∀ c' dd H', c.Le H c' H' → Rep p.K g c' sl mm σ H' → RepX x dd → W (.ref (p.ea x.cls)) dd σ H'
def PostL (c : Cf) (sl : Sl) (σ : L2.St) (H : Hp) (W : WX) (Q : List V → Hp → Prop) : Option RL → Prop
  | none => False
  | some (.ok ds mm) => ∀ c' vs H', c.Le H c' H' → Rep p.K g c' sl mm σ H' → RepL p.K c'.ad c'.Z H' ds vs → Q vs H'
  | some (.ex x mm) => ∀ c' dd H', c.Le H c' H' → Rep p.K g c' sl mm σ H' → RepX x dd → W (.ref (p.ea x.cls)) dd σ H'
def PostB (c : Cf) (sl : Sl) (σ : L2.St) (H : Hp) (W : WX) (Q : Bool → Hp → Prop) : Option RE → Prop
  | some (.ok (.bl b) mm) => ∀ c' H', c.Le H c' H' → Rep p.K g c' sl mm σ H' → Q b H'
  | some (.ex x mm) => ∀ c' dd H', c.Le H c' H' → Rep p.K g c' sl mm σ H' → RepX x dd → W (.ref (p.ea x.cls)) dd σ H'
  | _ => False
end
section
variable (p : Pg) (n : Nat) (W : WX)
def tE (e : E) : TE := fun σ H Q => ∃ g c sl mm, Rep p.K g c sl mm σ H ∧ PostE p g c sl σ H W Q (semE p.gv (p.cf n) e sl mm)
def tEs (es : Es) : TA := fun σ H Q => ∃ g c sl mm, Rep p.K g c sl mm σ H ∧ PostL p g c sl σ H W Q (semEs p.gv (p.cf n) es sl mm)
def tB (e : E) : TT := fun σ H Q => ∃ g c sl mm, Rep p.K g c sl mm σ H ∧ PostB p g c sl σ H W Q (semE p.gv (p.cf n) e sl mm)
end
section
variable {p : Pg} {g : Gh} {c c' : Cf} {sl : Sl} {mm : Mm} {σ : L2.St} {H H' : Hp} {W : WX} {Q Q' : VK} {r : Option RE}
theorem PostE.imp (h : PostE p g c sl σ H W Q r) (i : ∀ v H', Q v H' → Q' v H') : PostE p g c sl σ H W Q' r := by
  cases r with
  | none => exact h
  | some r => cases r with
    | ok d mm => exact fun c' v H' l r q => i _ _ (h c' v H' l r q)
    | ex x mm => exact h
theorem PostE.from (h : PostE p g c sl σ H W Q r) (l : c.Le H c' H') : PostE p g c' sl σ H' W Q r := by
  cases r with
  | none => exact h
  | some r => cases r with
    | ok d mm => exact fun c2 v H2 l2 r q => h c2 v H2 (l.trans l2) r q
    | ex x mm => exact fun c2 dd H2 l2 r q => h c2 dd H2 (l.trans l2) r q
theorem PostE.bind {f : D → Mm → Option RE} (h : PostE p g c sl σ H W Q (bindE r f))
    (i : ∀ c1 d mm1 v H1, c.Le H c1 H1 → Rep p.K g c1 sl mm1 σ H1 → RepV p.K c1.ad c1.Z H1 d v → PostE p g c1 sl σ H1 W Q (f d mm1) → Q' v H1) : PostE p g c sl σ H W Q' r := by
  cases r with
  | none => exact h
  | some r => cases r with
    | ok d mm => exact fun c1 v H1 l rp rv => i c1 d mm v H1 l rp rv (PostE.from h l)
    | ex x mm => exact h
theorem PostE.ok {d : D} (h : PostE p g c sl σ H W Q (okE d mm)) {v : V} (l : c.Le H c' H') (r : Rep p.K g c' sl mm σ H') (rv : RepV p.K c'.ad c'.Z H' d v) : Q v H' := h c' v H' l r rv
/-- a value that is no object of its own: the heap as it is -/
theorem PostE.ok0 {d : D} (h : PostE p g c sl σ H W Q (okE d mm)) {v : V} (r : Rep p.K g c sl mm σ H) (rv : RepV p.K c.ad c.Z H d v) : Q v H := h c v H .refl r rv
/-- a new tuple | list that does not change -/
theorem PostE.newT {ds : List D} {vs : List V} (h : PostE p g c sl σ H W Q (okE (.tup ds) mm)) (r : Rep p.K g c sl mm σ H) (rl : RepL p.K c.ad c.Z H ds vs) {q : Addr} (hq : H q = none) : Q (.ref q) (upd H q (.tup vs)) := by
  have l : c.Le H (c.add q) (upd H q (.tup vs)) := le_fresh r.trk hq
  refine h (c.add q) (.ref q) _ l (r.fresh hq) ?_
  simp only [RepV]
  exact ⟨q, vs, rfl, .inl ⟨.inr rfl, .inl upd_same⟩, RepL.le l _ _ rl⟩
theorem PostE.newL {ds : List D} {vs : List V} (h : PostE p g c sl σ H W Q (okE (.lst ds) mm)) (r : Rep p.K g c sl mm σ H) (rl : RepL p.K c.ad c.Z H ds vs) {q : Addr} (hq : H q = none) : Q (.ref q) (upd H q (.lst vs)) := by
  have l : c.Le H (c.add q) (upd H q (.lst vs)) := le_fresh r.trk hq
  refine h (c.add q) (.ref q) _ l (r.fresh hq) ?_
  simp only [RepV]
  exact ⟨q, vs, rfl, ⟨.inr rfl, .inl upd_same⟩, RepL.le l _ _ rl⟩
/-- a new list of the activation's own -/
theorem PostE.newM {ds : List D} {vs : List V} (h : PostE p g c sl σ H W Q (okE (.m mm.length) (mm ++ [.mu (.lst ds)]))) (r : Rep p.K g c sl mm σ H) (hp : pureDs ds = true) (rl : RepL p.K c.ad c.Z H ds vs) {q : Addr} (hq : H q = none) : Q (.ref q) (upd H q (.lst vs)) := by
  refine h (c.own q) (.ref q) _ (le_own r.trk hq) (r.own hq hp rl) ?_
  simp only [RepV]
  exact ⟨q, by rw [← r.lenA]; simp [Cf.own], rfl⟩
end

/-! ### where a piece of code stands -/
structure XOk (p : Pg) (n : Nat) (N : List Str) (sc : Scope) (W : WX) (X : Cx) : Prop where
  K : X.K = p.K.K
  dn : p.K.dn = dN X.prog X.w
  mg : X.mg = p.mg
  nm : X.N = N
  sc : X.env.scope = sc
  nd : N.Nodup
  calm : X.calm = true
  room : Room n X.A
  takes : Takes X W
  fns : ∀ f, p.dom f = true → p.mg (p.fn f) = some (.ref (p.fa f)) ∧ PySem.W.keepIn p.K (.ref (p.fa f)) = true ∧ ∃ (fd : FuncData) (ps : List Str), ps.length = (p.T f).np ∧ Binds p.K fd ps [] ∧
    FnOk X.prog X.w p.K p.mg X.base (L2.CX X.prog X.w) n (p.fa f) fd ps (fun vs H Q E => ∃ c ds bs, Rep p.K ⟨H, c.Z, c.ad⟩ c [] bs [] H ∧ bs.all M.isMu = true ∧ RepL p.K c.ad c.Z H ds vs ∧ vs.length = (p.T f).np ∧
      (match p.cf n f ds bs with
      | none => False
      | some (.rt d bs' new) => ∀ c' v H', c.Le H c' H' → Rep p.K ⟨H, c.Z, c.ad⟩ c' [] (bs' ++ new) [] H' → RepV p.K c'.ad c'.Z H' d v → Q v H'
      | some (.ex x bs') => ∀ c' dd H', c.Le H c' H' → Rep p.K ⟨H, c.Z, c.ad⟩ c' [] bs' [] H' → RepX x dd → E (.ref (p.ea x.cls)) dd H'))
  blt : ∀ x, p.bdom x = true → p.mg x = none
  gls : ∀ i, p.gdom i = true → ∃ u v, p.mg (p.gn i) = some u ∧ RelV v u ∧ pureD (p.gv i) = true ∧ ∀ H, RepV p.K [] (fun _ => False) H (p.gv i) v

/-! ### the shape of what is checked -/
def plainA : Expr → Bool
  | .Name _ _ => true
  | .Constant _ _ _ => true
  | .Tuple _ _ _ => true
  | .List _ _ => true
  | .UnaryOp _ _ _ => true
  | .BinOp _ _ _ _ => true
  | .Compare _ _ _ _ => true
  | .BoolOp _ _ _ => true
  | .IfExp _ _ _ _ => true
  | .Call _ _ _ _ => true
  | .Subscript _ _ _ => true
  | .ListComp _ _ _ _ => true
  | .Dict _ _ _ => true
  | _ => false
theorem star_plain {e : Expr} (h : plainA e = true) (es : List Expr) (env : Env) : starEach (e :: es) env = (false, eval e env) :: starEach es env := by
  cases e <;> first | rfl | cases h
theorem star_none : ∀ {es : List Expr}, es.all plainA = true → ∀ (env : Env) (pos : Pos), (backTo pos (starEach es env)).any (·.1) = false
  | [], _, _, _ => rfl
  | e :: es, h, env, pos => by
    rw [List.all_cons, Bool.and_eq_true] at h
    rw [star_plain h.1]
    show (false || (backTo pos (starEach es env)).any (·.1)) = false
    rw [star_none h.2 env pos]; rfl
theorem ix_plain {b : Expr} (h : plainA b = true) : PlainIx b := fun o i => by
  cases b <;> first | rfl | cases h
theorem mark_plain {b : Expr} (h : plainA b = true) (op : CmpOp) : behindInMarks op b = false := by
  cases b <;> first | rfl | cases h
theorem fold_plain {e : Expr} (h : plainA e = true) (env : Env) (x : Value) : foldedSetIterable e env x = pure x := by
  cases e <;> first | rfl | cases h
def notSuper : Expr → Bool
  | .Call (.Name id _) [] [] _ => id != ("super" : Str)
  | _ => true
theorem base_plain {o : Expr} (h : plainA o = true) (h2 : notSuper o = true) (attr : Str) (env : Env) : attributeBase o attr env (eval o env) = eval o env := by
  cases o <;> try rfl
  rename_i f args kws pos
  cases f <;> try rfl
  rename_i id pos'
  cases args <;> try rfl
  cases kws <;> try rfl
  have h3 : (id != ("super" : Str)) = true := h2
  unfold attributeBase
  simp only [h3, Bool.true_or, if_true]
/-- an expression whose test is its value's truth -/
def valA : Expr → Bool
  | .Name _ _ => true
  | .Constant _ _ _ => true
  | .Call _ _ _ _ => true
  | .Subscript _ _ _ => true
  | _ => false
theorem truth_plain {e : Expr} (h : valA e = true) (env : Env) : ∀ whole, isTrue e env whole = (do let v ← whole; standAt e.pos; holding [v] (truthy v)) := by
  cases e <;> first | (intro _; rfl) | cases h
def isComp : Expr → Bool
  | .ListComp _ _ _ _ => true
  | .SetComp _ _ _ _ => true
  | .DictComp _ _ _ _ _ => true
  | _ => false
theorem swap_plain {e : Expr} (h : plainA e = true) (h2 : isComp e = false) (t : Option Expr) (l : Nat) (env : Env) : swapsWith e t l env = pure false := by
  cases e <;> first | rfl | cases h2 | cases h

section
variable {X : Cx} {e : Expr}
theorem PEimp {t t' : TE} (h : PE X e t) (i : ∀ σ H Q, t' σ H Q → t σ H Q) : PE X e t' := ⟨fun pins s σ H Q I q => h.run pins s σ H Q I (i σ H Q q)⟩
theorem PTimp {t t' : TT} (h : PT X e t) (i : ∀ σ H Q, t' σ H Q → t σ H Q) : PT X e t' := ⟨fun pins s σ H Q I q => h.run pins s σ H Q I (i σ H Q q)⟩
theorem PWimp {t t' : TT} (h : PW X e t) (i : ∀ σ H Q, t' σ H Q → t σ H Q) : PW X e t' := ⟨fun w pins s σ H Q I q => h.run w pins s σ H Q I (i σ H Q q)⟩
theorem PAimp {es : List Expr} {t t' : TA} (h : PA X es t) (i : ∀ σ H Q, t' σ H Q → t σ H Q) : PA X es t' := ⟨fun pos pins s σ H Q I q => h.run pos pins s σ H Q I (i σ H Q q)⟩
end
/-! ### names, constants, calls -/
def visB (sc : Scope) (x : Str) : Bool := match sc.names.lookup x with
  | some .local => true
  | some .cell => true
  | some .free => true
  | _ => false
theorem vis_of {sc : Scope} {x : Str} (h : visB sc x = true) : Vis sc x := by
  unfold visB at h
  unfold Vis
  cases e : sc.names.lookup x with
  | none => rw [e] at h; cases h
  | some k => rw [e] at h; cases k <;> first | exact .inl rfl | exact .inr (.inl rfl) | exact .inr (.inr rfl) | cases h
def locB (sc : Scope) (x : Str) : Bool := match sc.names.lookup x with
  | some .local => true
  | some .cell => true
  | _ => false
theorem loc_of {sc : Scope} {x : Str} (h : locB sc x = true) : L2.Loc sc x := by
  unfold locB at h
  unfold L2.Loc
  cases e : sc.names.lookup x with
  | none => rw [e] at h; cases h
  | some k => rw [e] at h; cases k <;> first | exact .inl rfl | exact .inr rfl | cases h
def nmB (x : Str) : Bool := !(x == ("__debug__" : Str)) && !(x == ("__classdict__" : Str)) && !(x == ("__name__" : Str))
def glB (sc : Scope) (x : Str) : Bool := decide (sc.names.lookup x = some .globalImplicit) && nmB x
section
variable {p : Pg} {n : Nat} {N : List Str} {sc : Scope} {W : WX} {X : Cx}
theorem nm_deb {x : Str} (h : nmB x = true) : (x == ("__debug__" : Str)) = false := by
  unfold nmB at h
  simp only [Bool.and_eq_true, Bool.not_eq_true'] at h
  exact h.1.1
theorem nm_cd {x : Str} (h : nmB x = true) : (x == ("__classdict__" : Str)) = false := by
  unfold nmB at h
  simp only [Bool.and_eq_true, Bool.not_eq_true'] at h
  exact h.1.2
theorem nm_nm {x : Str} (h : nmB x = true) : x ≠ ("__name__" : Str) := by
  unfold nmB at h
  simp only [Bool.and_eq_true, Bool.not_eq_true'] at h
  exact fun e => by rw [e] at h; simp at h
theorem XOk.gl (o : XOk p n N sc W X) {x : Str} (h : glB sc x = true) : Gl X x := by
  unfold glB at h
  rw [Bool.and_eq_true] at h
  unfold Gl Env.kindOf
  rw [o.sc]; exact of_decide_eq_true h.1
theorem gl_nm {x : Str} (h : glB sc x = true) : nmB x = true := by
  unfold glB at h
  rw [Bool.and_eq_true] at h
  exact h.2
theorem s_var (o : XOk p n N sc W X) {i : Nat} {x : Str} {pos : Pos} (hN : N[i]? = some x) (hv : visB sc x = true) (hn : nmB x = true) : PE X (.Name x pos) (tE p n W (.var i)) := by
  refine PEimp (pe_var (i := i) (by rw [o.nm]; exact hN) (by rw [o.sc]; exact vis_of hv) (nm_deb hn) (nm_cd hn)) fun σ H Q ⟨g, c, sl, mm, r, h⟩ => ?_
  simp only [semE] at h
  cases q : sl[i]? with
  | none => rw [q] at h; exact h.elim
  | some o' =>
    rw [q] at h
    cases o' with
    | none => exact h.elim
    | some d =>
      obtain ⟨v, hv, rv⟩ := r.slot i d q
      exact ⟨v, hv, PostE.ok0 h r rv⟩
theorem s_cst {d : D} {v : V} {e : Expr} (h : PE X e (tC v)) (rv : ∀ ad Z H, RepV p.K ad Z H d v) : PE X e (tE p n W (.cst d)) :=
  PEimp h fun σ H Q ⟨g, c, sl, mm, r, h⟩ => by
    simp only [semE] at h
    exact PostE.ok0 h r (rv _ _ _)
theorem repV_settled {K : Kx} {H : Hp} {c : Cf} {d : D} {v : V} (hp : pureD d = true) (h : RepV K [] (fun _ => False) H d v) : RepV K c.ad c.Z H d v :=
  RepV.pure _ _ _ hp (RepV.le (ad' := []) ⟨⟨[], rfl⟩, fun _ z => z.elim, fun _ _ z => z.elim⟩ d v h)
theorem s_glb (o : XOk p n N sc W X) {i : Nat} {pos : Pos} (hd : p.gdom i = true) (hg : glB sc (p.gn i) = true) : PE X (.Name (p.gn i) pos) (tE p n W (.glb i)) := by
  obtain ⟨u, v, hm, rv, hp, hr⟩ := o.gls i hd
  refine PEimp (pe_glob (o.gl hg) (by rw [o.mg]; exact hm) rv (nm_deb (gl_nm hg))) fun σ H Q ⟨g, c, sl, mm, r, h⟩ => ?_
  simp only [semE] at h
  exact PostE.ok0 h r (repV_settled hp (hr H))
theorem s_nil : PA X [] (tEs p n W .nil) := PAimp pa_nil fun σ H Q ⟨g, c, sl, mm, r, h⟩ => by
  simp only [semEs] at h
  exact h c [] H .refl r RepL.nil
theorem s_cons {a : Expr} {as : List Expr} {e : E} {es : Es} (ha : PE X a (tE p n W e)) (hr : PA X as (tEs p n W es)) (pl : plainA a = true) : PA X (a :: as) (tEs p n W (.cons e es)) :=
  PAimp (pa_cons ha hr (star_plain pl as X.env)) fun σ H Q ⟨g, c, sl, mm, r, h⟩ => by
    simp only [semEs] at h
    refine ⟨g, c, sl, mm, r, ?_⟩
    cases q : semE p.gv (p.cf n) e sl mm with
    | none => rw [q] at h; exact h.elim
    | some x =>
      rw [q] at h
      cases x with
      | ex x mm1 => exact h
      | ok d mm1 =>
        intro c1 v H1 l1 r1 rv1
        refine ⟨g, c1, sl, mm1, r1, ?_⟩
        cases q2 : semEs p.gv (p.cf n) es sl mm1 with
        | none => simp only [q2] at h; exact h.elim
        | some y =>
          simp only [q2] at h
          cases y with
          | ex x mm2 => exact fun c2 dd H2 l2 r2 q => h c2 dd H2 (l1.trans l2) r2 q
          | ok ds mm2 => exact fun c2 vs H2 l2 r2 rl => h c2 (v :: vs) H2 (l1.trans l2) r2 (RepL.cons (RepV.le l2 _ _ rv1) rl)
theorem s_tup {as : List Expr} {es : Es} {x1 : Nat} {pos : Pos} (h : PA X as (tEs p n W es)) : PE X (.Tuple as x1 pos) (tE p n W (.tup es)) :=
  PEimp (pe_tup h) fun σ H Q ⟨g, c, sl, mm, r, h⟩ => by
    simp only [semE] at h
    refine ⟨g, c, sl, mm, r, ?_⟩
    cases q : semEs p.gv (p.cf n) es sl mm with
    | none => rw [q] at h; exact h.elim
    | some x =>
      rw [q] at h
      cases x with
      | ex x mm1 => exact h
      | ok ds mm1 =>
        intro c1 vs H1 l1 r1 rl
        by_cases hz : ds.length ≤ szl
        · simp only [hz, if_true] at h
          exact ⟨by rw [rl.len]; exact hz, fun q hq => PostE.newT (PostE.from h l1) r1 rl hq⟩
        · simp only [hz, if_false] at h
          exact h.elim
theorem s_lst {as : List Expr} {es : Es} {pos : Pos} (h : PA X as (tEs p n W es)) : PE X (.List as pos) (tE p n W (.lst es)) :=
  PEimp (pe_lst h) fun σ H Q ⟨g, c, sl, mm, r, h⟩ => by
    simp only [semE] at h
    refine ⟨g, c, sl, mm, r, ?_⟩
    cases q : semEs p.gv (p.cf n) es sl mm with
    | none => rw [q] at h; exact h.elim
    | some x =>
      rw [q] at h
      cases x with
      | ex x mm1 => exact h
      | ok ds mm1 =>
        intro c1 vs H1 l1 r1 rl
        cases hz : (pureDs ds && decide (ds.length ≤ szl)) with
        | true =>
          simp only [hz, if_true] at h
          rw [Bool.and_eq_true] at hz
          exact ⟨by rw [rl.len]; exact of_decide_eq_true hz.2, fun q hq => PostE.newL (PostE.from h l1) r1 rl hq⟩
        | false =>
          simp only [hz] at h
          exact h.elim
theorem s_nls {as : List Expr} {es : Es} {pos : Pos} (h : PA X as (tEs p n W es)) : PE X (.List as pos) (tE p n W (.nls es)) :=
  PEimp (pe_lst h) fun σ H Q ⟨g, c, sl, mm, r, h⟩ => by
    simp only [semE] at h
    refine ⟨g, c, sl, mm, r, ?_⟩
    cases q : semEs p.gv (p.cf n) es sl mm with
    | none => rw [q] at h; exact h.elim
    | some x =>
      rw [q] at h
      cases x with
      | ex x mm1 => exact h
      | ok ds mm1 =>
        intro c1 vs H1 l1 r1 rl
        cases hz : (pureDs ds && decide (ds.length ≤ szl)) with
        | true =>
          simp only [hz, if_true] at h
          rw [Bool.and_eq_true] at hz
          exact ⟨by rw [rl.len]; exact of_decide_eq_true hz.2, fun q hq => PostE.newM (PostE.from h l1) r1 hz.1 rl hq⟩
        | false =>
          simp only [hz] at h
          exact h.elim
/-! ### operators by values -/
/-- a unary rule -/
theorem s_un {e : Expr} {a : E} {o : U1} {r : V → Hp → VK → Prop} (h : PE X e (tUn r (tE p n W a)))
    (hr : ∀ g c sl mm σ H d v Q, Rep p.K g c sl mm σ H → RepV p.K c.ad c.Z H d v → PostE p g c sl σ H W Q (unS o d mm) → r v H Q) : PE X e (tE p n W (.un o a)) :=
  PEimp h fun σ H Q ⟨g, c, sl, mm, rp, h⟩ => by
    simp only [semE] at h
    exact ⟨g, c, sl, mm, rp, PostE.bind h fun c1 d mm1 v H1 l1 r1 rv h1 => hr g c1 sl mm1 σ H1 d v Q r1 rv h1⟩
theorem s_bin {e : Expr} {a b : E} {o : B2} {r : R2} (h : PE X e (tOp r (tE p n W a) (tE p n W b)))
    (hr : ∀ g c sl mm σ H d f v u Q, Rep p.K g c sl mm σ H → RepV p.K c.ad c.Z H d v → RepV p.K c.ad c.Z H f u → PostE p g c sl σ H W Q (binS o d f mm) → r v u H Q) : PE X e (tE p n W (.bin o a b)) :=
  PEimp h fun σ H Q ⟨g, c, sl, mm, rp, h⟩ => by
    simp only [semE] at h
    refine ⟨g, c, sl, mm, rp, PostE.bind h fun c1 d mm1 v H1 l1 r1 rv h1 => ?_⟩
    exact ⟨g, c1, sl, mm1, r1, PostE.bind h1 fun c2 f mm2 u H2 l2 r2 ru h2 => hr g c2 sl mm2 σ H2 d f v u Q r2 (RepV.le l2 _ _ rv) ru h2⟩
end
end Mp
/-! Mp4: the operators of the small language. -/
namespace Mp
open PySem PySem.Spec
open PyProof.Rows L2

theorem room_u64 {n : Nat} {A : Around} (r : Room n A) : A.units + 64 < cLine := by have := r.un; omega
theorem room_u65 {n : Nat} {A : Around} (r : Room n A) : A.units + 65 < cLine := by have := r.un; omega
/-! ### further rules by values -/
section
variable {X : Cx}
def rInT (K : PySem.W.Frag) (neg : Bool) : R2 := fun x y H Q => ∃ d ds, Dp K H x d ∧ Dp K H y (.tuple ds) ∧ SeqAt.shaped d = true ∧ SeqAt.shaped (.tuple ds) = true ∧ Q (.bl (if neg then !(ds.any fun z => PyData.eqv z d) else ds.any fun z => PyData.eqv z d)) H
theorem op_inT (hu : X.A.units + 65 < cLine) : OpR X (compareOp .In) (rInT X.K false) := fun pins s σ H x y v u Q I rx ry h => by
  obtain ⟨d, ds, hd, he, sd, se, q⟩ := h
  obtain ⟨as, r1⟩ := Dp.reads I d x v hd rx
  obtain ⟨bs, r2⟩ := Dp.reads I (.tuple ds) y u he ry
  have sl : SeqAt.shaped (.list ds) = true := se
  exact SeqAt.in_tuple_reads r2 r1 (SeqAt.canLay_of_shaped se) (SeqAt.canLay_of_shaped sd) (room_in_shaped sd hu) ⟨.bl _, H, I, rfl, q⟩
theorem op_ninT (hu : X.A.units + 65 < cLine) : OpR X (compareOp .NotIn) (rInT X.K true) := fun pins s σ H x y v u Q I rx ry h => by
  obtain ⟨d, ds, hd, he, sd, se, q⟩ := h
  obtain ⟨as, r1⟩ := Dp.reads I d x v hd rx
  obtain ⟨bs, r2⟩ := Dp.reads I (.tuple ds) y u he ry
  exact SeqAt.notIn_tuple_reads r2 r1 (SeqAt.canLay_of_shaped se) (SeqAt.canLay_of_shaped sd) (room_in_shaped sd hu) ⟨.bl _, H, I, rfl, q⟩
theorem rd_lst {pins : List (Addr × Obj)} {σ : L2.St} {H : Hp} {s : Shared} {a : Addr} {vs : List V} (I : Inv X pins σ H s) (h : Rd H a (.lst vs)) :
    vs.length ≤ sizeLine ∧ ∃ (its : List Value) (n : Nat), Vals vs its ∧ s.heap.get? a = some { cls := .type "list", data := .seq its.toArray n } := h.ok I.hok
/-- list + list -/
def rCatL : R2 := fun x y H Q => ∃ a b xs ys, x = .ref a ∧ y = .ref b ∧ Rd H a (.lst xs) ∧ Rd H b (.lst ys) ∧ xs.length + ys.length ≤ sizeLine ∧ ∀ p, H p = none → Q (.ref p) (upd H p (.lst (xs ++ ys)))
theorem op_catL : OpR X (binaryOp .Add) rCatL := fun pins s σ H x y v u Q I rx ry h => by
  obtain ⟨a, b, xs, ys, rfl, rfl, ha, hb, hz, q⟩ := h
  cases rx
  cases ry
  obtain ⟨z1, its1, n1, r1, e1⟩ := rd_lst I ha
  obtain ⟨z2, its2, n2, r2, e2⟩ := rd_lst I hb
  have l1 := r1.length
  have l2 := r2.length
  refine PySem.P.add_list e1 e2 ?_ (by simp only [List.size_toArray]; omega)
  rw [show its1.toArray ++ its2.toArray = (its1 ++ its2).toArray by simp]
  exact ⟨.ref _, _, I.lnew (t' := s.toks) (r1.append r2) (by simp only [List.length_append]; omega), rfl, q _ I.fresh⟩
end
section
variable {p : Pg} {n : Nat} {N : List Str} {sc : Scope} {W : WX} {X : Cx} {A B : Expr} {a b : E} {pos : Pos}
theorem s_neg (ha : PE X A (tE p n W a)) : PE X (.UnaryOp .USub A pos) (tE p n W (.un .neg a)) :=
  s_un (pe_un un_neg ha) fun g c sl mm σ H d v Q r rv h => by
    cases d <;> simp only [unS] at h <;> try exact h.elim
    simp only [RepV] at rv; subst rv
    exact ⟨_, rfl, PostE.ok0 h r (by simp only [RepV])⟩
theorem repV_str {K : Kx} {ad : List Addr} {Z : Addr → Prop} {H : Hp} {s : Tx} {v : V} (h : RepV K ad Z H (.str s) v) : v = .str (toS s) ∧ okT s = true := by simpa only [RepV] using h
theorem repV_int {K : Kx} {ad : List Addr} {Z : Addr → Prop} {H : Hp} {s : Int} {v : V} (h : RepV K ad Z H (.int s) v) : v = .int s := by simpa only [RepV] using h
theorem repV_bl {K : Kx} {ad : List Addr} {Z : Addr → Prop} {H : Hp} {s : Bool} {v : V} (h : RepV K ad Z H (.bl s) v) : v = .bl s := by simpa only [RepV] using h
theorem repV_non {K : Kx} {ad : List Addr} {Z : Addr → Prop} {H : Hp} {v : V} (h : RepV K ad Z H .non v) : v = .non := by simpa only [RepV] using h
theorem okI {K : Kx} {ad : List Addr} {Z : Addr → Prop} {H : Hp} {s : Int} : RepV K ad Z H (.int s) (.int s) := by simp only [RepV]
theorem okB {K : Kx} {ad : List Addr} {Z : Addr → Prop} {H : Hp} {s : Bool} : RepV K ad Z H (.bl s) (.bl s) := by simp only [RepV]
theorem okN {K : Kx} {ad : List Addr} {Z : Addr → Prop} {H : Hp} : RepV K ad Z H .non .non := by simp only [RepV]
/-- an atom reads as itself -/
theorem Rep.rdS {K : Kx} {g : Gh} {c : Cf} {sl : Sl} {mm : Mm} {σ : L2.St} {H : Hp} (r : Rep K g c sl mm σ H) {d : D} {v : V} {s : Tx} (hv : RepV K c.ad c.Z H d v) (e : rd mm d = .str s) : d = .str s := by
  rcases r.rdV hv (fun xs q => by rw [e] at q; cases q) (fun ks xs q => by rw [e] at q; cases q) with q | ⟨k, xs, _, q⟩
  · rw [e] at q; exact q.symm
  · rw [e] at q; cases q
theorem Rep.rdI {K : Kx} {g : Gh} {c : Cf} {sl : Sl} {mm : Mm} {σ : L2.St} {H : Hp} (r : Rep K g c sl mm σ H) {d : D} {v : V} {s : Int} (hv : RepV K c.ad c.Z H d v) (e : rd mm d = .int s) : d = .int s := by
  rcases r.rdV hv (fun xs q => by rw [e] at q; cases q) (fun ks xs q => by rw [e] at q; cases q) with q | ⟨k, xs, _, q⟩
  · rw [e] at q; exact q.symm
  · rw [e] at q; cases q
/-- what == reads of a value -/
theorem Rep.rdDp {K : Kx} {g : Gh} {c : Cf} {sl : Sl} {mm : Mm} {σ : L2.St} {H : Hp} (r : Rep K g c sl mm σ H) {d : D} {v : V} (hv : RepV K c.ad c.Z H d v) (e : okEq (rd mm d) = true) :
    Dp K H v (toPy (rd mm d)) ∧ SeqAt.shaped (toPy (rd mm d)) = true := by
  by_cases hm : ∃ k, d = .m k
  · obtain ⟨k, rfl⟩ := hm
    simp only [RepV] at hv
    obtain ⟨a, ha, rfl⟩ := hv
    cases q : mm[k]? with
    | none =>
      have hl : k < mm.length := by rw [← r.lenA]; exact (List.getElem?_eq_some_iff.mp ha).1
      rw [List.getElem?_eq_getElem hl] at q; cases q
    | some x =>
      have o := r.obj k a x ha q
      have er : rd mm (.m k) = x.val := by simp only [rd, q]
      rw [er] at e ⊢
      cases x with
      | fz d =>
        have h := o.2.2
        exact ⟨h.dpE e, h.shaped e⟩
      | mu d =>
        have h := o.2.2
        cases d <;> simp only [RepM] at h <;> try exact h.elim
        · rename_i xs
          obtain ⟨vs, h1, h2⟩ := h
          have e' : hgts xs + 1 ≤ 64 := of_decide_eq_true e
          refine ⟨.lst (.inl (.inl h1)) (RepL.dp xs vs (by omega) h2), ?_⟩
          unfold SeqAt.shaped
          show (PyData.canLayAll0 (toPys xs) && decide (PyData.depthAll (toPys xs) + 1 ≤ 64)) = true
          rw [RepL.lay xs vs (by omega) h2, depth_toPys xs (by omega)]
          simpa using e'
        · exact absurd (okEq_lt e) (by simp [M.val, hgt])
        · exact absurd (okEq_lt e) (by simp [M.val, hgt])
  · have er : rd mm d = d := by
      cases d <;> first | rfl | exact (hm ⟨_, rfl⟩).elim
    rw [er] at e ⊢
    exact ⟨hv.dpE e, hv.shaped e⟩
/-- a comparison, by its rule -/
theorem pc_of {op : CmpOp} {r : R2} {ta tb : TE} (ho : OpR X (compareOp op) r) (ha : PE X A ta) (hb : PE X B tb) : PC X op A B (tOp r ta tb) :=
  ⟨fun pins s σ H Q I h => binT ha hb I h fun v u s2 x y H2 I2 rx ry q => ho pins s2 σ H2 x y v u Q I2 rx ry q⟩
theorem PCimp {op : CmpOp} {t t' : TE} (h : PC X op A B t) (i : ∀ σ H Q, t' σ H Q → t σ H Q) : PC X op A B t' := ⟨fun pins s σ H Q I q => h.run pins s σ H Q I (i σ H Q q)⟩
theorem c_bin {op : CmpOp} {o : B2} {r : R2} (h : PC X op A B (tOp r (tE p n W a) (tE p n W b)))
    (hr : ∀ g c sl mm σ H d f v u Q, Rep p.K g c sl mm σ H → RepV p.K c.ad c.Z H d v → RepV p.K c.ad c.Z H f u → PostE p g c sl σ H W Q (binS o d f mm) → r v u H Q) : PC X op A B (tE p n W (.bin o a b)) :=
  PCimp h fun σ H Q ⟨g, c, sl, mm, rp, h⟩ => by
    simp only [semE] at h
    refine ⟨g, c, sl, mm, rp, PostE.bind h fun c1 d mm1 v H1 l1 r1 rv h1 => ?_⟩
    exact ⟨g, c1, sl, mm1, r1, PostE.bind h1 fun c2 f mm2 u H2 l2 r2 ru h2 => hr g c2 sl mm2 σ H2 d f v u Q r2 (RepV.le l2 _ _ rv) ru h2⟩
theorem c_un {op : CmpOp} {o : U1} {r : V → Hp → VK → Prop} (h : PC X op A B (tUn r (tE p n W a)))
    (hr : ∀ g c sl mm σ H d v Q, Rep p.K g c sl mm σ H → RepV p.K c.ad c.Z H d v → PostE p g c sl σ H W Q (unS o d mm) → r v H Q) : PC X op A B (tE p n W (.un o a)) :=
  PCimp h fun σ H Q ⟨g, c, sl, mm, rp, h⟩ => by
    simp only [semE] at h
    exact ⟨g, c, sl, mm, rp, PostE.bind h fun c1 d mm1 v H1 l1 r1 rv h1 => hr g c1 sl mm1 σ H1 d v Q r1 rv h1⟩
theorem s_eq (o : XOk p n N sc W X) (ha : PE X A (tE p n W a)) (hb : PE X B (tE p n W b)) : PC X .Eq A B (tE p n W (.bin .eq a b)) :=
  c_bin (pc_of (op_eqD (room_u64 o.room)) ha hb) fun g c sl mm σ H d f v u Q r rv ru h => by
    simp only [binS, eqS] at h
    cases e : (okEq (rd mm d) && okEq (rd mm f)) with
    | false => rw [e] at h; exact h.elim
    | true =>
      rw [e] at h
      simp only [if_true, Bool.false_eq_true, if_false] at h
      rw [Bool.and_eq_true] at e
      obtain ⟨d1, s1⟩ := r.rdDp rv e.1
      obtain ⟨d2, s2⟩ := r.rdDp ru e.2
      rw [o.K]
      refine ⟨_, _, d1, d2, s1, s2, ?_⟩
      rw [eqv_toPy _ _ (okEq_lt e.1) (okEq_lt e.2)]
      exact PostE.ok0 h r okB
theorem s_ne (o : XOk p n N sc W X) (ha : PE X A (tE p n W a)) (hb : PE X B (tE p n W b)) : PC X .NotEq A B (tE p n W (.bin .ne a b)) :=
  c_bin (pc_of (op_neD (room_u64 o.room)) ha hb) fun g c sl mm σ H d f v u Q r rv ru h => by
    simp only [binS, eqS] at h
    cases e : (okEq (rd mm d) && okEq (rd mm f)) with
    | false => rw [e] at h; exact h.elim
    | true =>
      rw [e] at h
      simp only [if_true] at h
      rw [Bool.and_eq_true] at e
      obtain ⟨d1, s1⟩ := r.rdDp rv e.1
      obtain ⟨d2, s2⟩ := r.rdDp ru e.2
      rw [o.K]
      refine ⟨_, _, d1, d2, s1, s2, ?_⟩
      rw [eqv_toPy _ _ (okEq_lt e.1) (okEq_lt e.2)]
      exact PostE.ok0 h r okB
theorem s_cmpI {op : CmpOp} {o2 : B2} {f : Int → Int → Bool} (ho : OpR X (compareOp op) (rI0 fun i j => .bl (f i j))) (hs : ∀ x y mm, binS o2 x y mm = cmpI x y f mm)
    (ha : PE X A (tE p n W a)) (hb : PE X B (tE p n W b)) : PC X op A B (tE p n W (.bin o2 a b)) :=
  c_bin (pc_of ho ha hb) fun g c sl mm σ H d u v w Q r rv ru h => by
    rw [hs] at h
    cases d <;> simp only [cmpI] at h <;> try exact h.elim
    cases u <;> simp only [] at h <;> try exact h.elim
    rw [repV_int rv, repV_int ru]
    exact ⟨_, _, rfl, rfl, PostE.ok0 h r okB⟩
/-- a rule that holds for two ints -/
theorem s_arI {op : Operator} {o2 : B2} {C : Int → Int → Prop} {f : Int → Int → Int} (ho : OpR X (binaryOp op) (rI C fun i j => .int (f i j))) (k : Int → Int → Bool) (hk : ∀ i j, k i j = true → C i j)
    (hs : ∀ x y mm, binS o2 x y mm = (match x, y with | .int i, .int j => if k i j then okE (.int (f i j)) mm else none | _, _ => none)) (ha : PE X A (tE p n W a)) (hb : PE X B (tE p n W b)) : PE X (.BinOp A op B pos) (tE p n W (.bin o2 a b)) :=
  s_bin (pe_op ho ha hb) fun g c sl mm σ H d u v w Q r rv ru h => by
    rw [hs] at h
    cases d <;> try exact h.elim
    cases u <;> try exact h.elim
    rename_i i j
    cases e : k i j with
    | false => simp only [e] at h; exact h.elim
    | true =>
      simp only [e, if_true] at h
      rw [repV_int rv, repV_int ru]
      exact ⟨_, _, rfl, rfl, hk _ _ e, PostE.ok0 h r okI⟩
theorem s_sub (ha : PE X A (tE p n W a)) (hb : PE X B (tE p n W b)) : PE X (.BinOp A .Sub B pos) (tE p n W (.bin .sub a b)) :=
  s_bin (pe_op op_sub ha hb) fun g c sl mm σ H d u v w Q r rv ru h => by
    cases d <;> simp only [binS] at h <;> try exact h.elim
    cases u <;> simp only [] at h <;> try exact h.elim
    rw [repV_int rv, repV_int ru]
    exact ⟨_, _, rfl, rfl, PostE.ok0 h r okI⟩
theorem s_fdiv (ha : PE X A (tE p n W a)) (hb : PE X B (tE p n W b)) : PE X (.BinOp A .FloorDiv B pos) (tE p n W (.bin .fdiv a b)) :=
  s_arI op_fdiv (fun _ j => decide (0 < j) && decide (j < 1073741824)) (fun i j h => by simpa [CDiv] using h) (fun x y mm => by cases x <;> cases y <;> rfl) ha hb
theorem s_mod (ha : PE X A (tE p n W a)) (hb : PE X B (tE p n W b)) : PE X (.BinOp A .Mod B pos) (tE p n W (.bin .mod a b)) :=
  s_arI op_mod (fun _ j => decide (0 < j)) (fun i j h => by simpa using h) (fun x y mm => by cases x <;> cases y <;> rfl) ha hb
theorem s_pow (ha : PE X A (tE p n W a)) (hb : PE X B (tE p n W b)) : PE X (.BinOp A .Pow B pos) (tE p n W (.bin .pow a b)) :=
  s_arI op_pow (fun i j => decide (0 ≤ j) && decide (j ≤ 1000000) && small64 i) (fun i j h => by
    simp only [small64, Bool.and_eq_true, decide_eq_true_eq] at h
    exact ⟨h.1.1, h.1.2, by omega⟩) (fun x y mm => by cases x <;> cases y <;> rfl) ha hb
theorem s_min2 (o : XOk p n N sc W X) {po : Pos} {x : Str} (hx : x = "min") (hg : glB sc x = true) (hm : p.mg x = none) (ha : PE X A (tE p n W a)) (hb : PE X B (tE p n W b)) (pa : plainA A = true) (pb : plainA B = true) :
    PE X (.Call (.Name x po) [A, B] [] pos) (tE p n W (.bin .min2 a b)) := by
  subst hx
  refine PEimp (pe_callB (call_min2 o.calm) (o.gl hg) (by rw [o.mg]; exact hm) (by decide +kernel) (pa_cons ha (pa_cons hb pa_nil (star_plain pb _ _)) (star_plain pa _ _)) (nm_nm (gl_nm hg)) (nm_deb (gl_nm hg)) (star_plain pa _ _) (star_none (by simp [pb]) _ _)) fun σ H Q ⟨g, c, sl, mm, r, h⟩ => ?_
  simp only [semE] at h
  refine ⟨g, c, sl, mm, r, PostE.bind h fun c1 d mm1 v H1 l1 r1 rv h1 => ⟨g, c1, sl, mm1, r1, PostE.bind h1 fun c2 f mm2 u H2 l2 r2 ru h2 => ?_⟩⟩
  have rv2 := RepV.le l2 _ _ rv
  cases d <;> simp only [binS] at h2 <;> try exact h2.elim
  cases f <;> simp only [] at h2 <;> try exact h2.elim
  rw [repV_int rv2, repV_int ru]
  exact ⟨_, _, rfl, PostE.ok0 h2 r2 okI⟩
theorem s_max2 (o : XOk p n N sc W X) {po : Pos} {x : Str} (hx : x = "max") (hg : glB sc x = true) (hm : p.mg x = none) (ha : PE X A (tE p n W a)) (hb : PE X B (tE p n W b)) (pa : plainA A = true) (pb : plainA B = true) :
    PE X (.Call (.Name x po) [A, B] [] pos) (tE p n W (.bin .max2 a b)) := by
  subst hx
  refine PEimp (pe_callB (call_max2 o.calm) (o.gl hg) (by rw [o.mg]; exact hm) (by decide +kernel) (pa_cons ha (pa_cons hb pa_nil (star_plain pb _ _)) (star_plain pa _ _)) (nm_nm (gl_nm hg)) (nm_deb (gl_nm hg)) (star_plain pa _ _) (star_none (by simp [pb]) _ _)) fun σ H Q ⟨g, c, sl, mm, r, h⟩ => ?_
  simp only [semE] at h
  refine ⟨g, c, sl, mm, r, PostE.bind h fun c1 d mm1 v H1 l1 r1 rv h1 => ⟨g, c1, sl, mm1, r1, PostE.bind h1 fun c2 f mm2 u H2 l2 r2 ru h2 => ?_⟩⟩
  have rv2 := RepV.le l2 _ _ rv
  cases d <;> simp only [binS] at h2 <;> try exact h2.elim
  cases f <;> simp only [] at h2 <;> try exact h2.elim
  rw [repV_int rv2, repV_int ru]
  exact ⟨_, _, rfl, PostE.ok0 h2 r2 okI⟩
/-- a built-in of one argument -/
theorem s_callB {o1 : U1} {id : String} {rr : List V → Hp → VK → Prop} (o : XOk p n N sc W X) {po : Pos} {x : Str} (hc : CallR X (.builtin id) rr) (hv : bootBuiltins x = some (.builtin id)) (hg : glB sc x = true) (hm : p.mg x = none) (ha : PE X A (tE p n W a)) (pa : plainA A = true)
    (hr : ∀ g c sl mm σ H d v Q, Rep p.K g c sl mm σ H → RepV p.K c.ad c.Z H d v → PostE p g c sl σ H W Q (unS o1 d mm) → rr [v] H Q) :
    PE X (.Call (.Name x po) [A] [] pos) (tE p n W (.un o1 a)) :=
  s_un (r := fun v H Q => rr [v] H Q) (PEimp (pe_callB hc (o.gl hg) (by rw [o.mg]; exact hm) hv (pa_cons ha pa_nil (star_plain pa _ _)) (nm_nm (gl_nm hg)) (nm_deb (gl_nm hg)) (star_plain pa _ _) (star_none (by simp) _ _)) fun σ H Q h => h) hr
theorem s_callTy {o1 : U1} {T : String} {rr : List V → Hp → VK → Prop} (o : XOk p n N sc W X) {po : Pos} {x : Str} (hc : CallR X (.type T) rr) (hv : bootBuiltins x = some (.type T)) (hg : glB sc x = true) (hm : p.mg x = none) (ha : PE X A (tE p n W a)) (pa : plainA A = true)
    (hr : ∀ g c sl mm σ H d v Q, Rep p.K g c sl mm σ H → RepV p.K c.ad c.Z H d v → PostE p g c sl σ H W Q (unS o1 d mm) → rr [v] H Q) :
    PE X (.Call (.Name x po) [A] [] pos) (tE p n W (.un o1 a)) :=
  s_un (r := fun v H Q => rr [v] H Q) (PEimp (pe_callTy hc (o.gl hg) (by rw [o.mg]; exact hm) hv (pa_cons ha pa_nil (star_plain pa _ _)) (nm_nm (gl_nm hg)) (nm_deb (gl_nm hg)) (star_plain pa _ _) (star_none (by simp) _ _)) fun σ H Q h => h) hr
theorem sz_eq : (sizeLine : Nat) = szl := by decide
theorem s_len (o : XOk p n N sc W X) {po : Pos} {x : Str} (hx : x = "len") (hg : glB sc x = true) (hm : p.mg x = none) (ha : PE X A (tE p n W a)) (pa : plainA A = true) : PE X (.Call (.Name x po) [A] [] pos) (tE p n W (.un .len a)) := by
  subst hx
  refine s_callB o call_len (by decide +kernel) hg hm ha pa fun g c sl mm σ H d v Q r rv h => ?_
  simp only [unS] at h
  split at h
  · rename_i s e
    have e' := r.rdS rv e
    subst e'
    obtain ⟨rfl, _⟩ := repV_str rv
    split at h
    · rename_i hz
      exact ⟨_, s.length, rfl, ⟨by rw [sz_eq]; simpa [toS, Str.length] using hz, by simp [toS, Str.length]⟩, PostE.ok0 h r okI⟩
    · exact h.elim
  · rename_i xs e
    obtain ⟨q, vs, rfl, t, rl⟩ := r.rdT rv e
    rw [o.K]
    exact ⟨_, xs.length, rfl, .inr ⟨vs, t, rl.len.symm⟩, PostE.ok0 h r okI⟩
  · rename_i xs e
    obtain ⟨q, vs, rfl, t, rl⟩ := r.rdL rv e
    rw [o.K]
    exact ⟨_, xs.length, rfl, .inl ⟨vs, .inl t, rl.len.symm⟩, PostE.ok0 h r okI⟩
  · exact h.elim
theorem s_int (o : XOk p n N sc W X) {po : Pos} {x : Str} (hx : x = "int") (hg : glB sc x = true) (hm : p.mg x = none) (ha : PE X A (tE p n W a)) (pa : plainA A = true) : PE X (.Call (.Name x po) [A] [] pos) (tE p n W (.un .int a)) := by
  subst hx
  refine s_callTy o call_int1 (by decide +kernel) hg hm ha pa fun g c sl mm σ H d v Q r rv h => ?_
  cases d <;> simp only [unS] at h <;> try exact h.elim
  · rename_i k
    rw [repV_bl rv]
    exact .inr ⟨k, rfl, PostE.ok0 h r okI⟩
  · rename_i k
    rw [repV_int rv]
    exact .inl ⟨k, rfl, PostE.ok0 h r okI⟩
theorem repL_bls {K : Kx} {ad : List Addr} {Z : Addr → Prop} {H : Hp} : ∀ {xs : List D} {vs : List V} {bs : List Bool}, RepL K ad Z H xs vs → allBl xs = some bs → vs = bs.map V.bl
  | [], _, _, h, e => by simp only [RepL] at h; simp only [allBl, Option.some.injEq] at e; subst h; subst e; rfl
  | x :: xs, _, bs, h, e => by
    simp only [RepL] at h
    obtain ⟨v, r, rfl, h1, h2⟩ := h
    cases x <;> simp only [allBl] at e <;> try (cases e)
    rename_i b
    cases q : allBl xs with
    | none => rw [q] at e; simp at e
    | some cs =>
      rw [q] at e
      simp only [Option.map_some, Option.some.injEq] at e
      subst e
      rw [repL_bls h2 q, repV_bl h1]; rfl
theorem repL_ints {K : Kx} {ad : List Addr} {Z : Addr → Prop} {H : Hp} : ∀ {xs : List D} {vs : List V} {bs : List Int}, RepL K ad Z H xs vs → allInt xs = some bs → vs = bs.map V.int
  | [], _, _, h, e => by simp only [RepL] at h; simp only [allInt, Option.some.injEq] at e; subst h; subst e; rfl
  | x :: xs, _, bs, h, e => by
    simp only [RepL] at h
    obtain ⟨v, r, rfl, h1, h2⟩ := h
    cases x <;> simp only [allInt] at e <;> try (cases e)
    rename_i b
    cases q : allInt xs with
    | none => rw [q] at e; simp at e
    | some cs =>
      rw [q] at e
      simp only [Option.map_some, Option.some.injEq] at e
      subst e
      rw [repL_ints h2 q, repV_int h1]; rfl
theorem repL_strs {K : Kx} {ad : List Addr} {Z : Addr → Prop} {H : Hp} : ∀ {xs : List D} {vs : List V} {bs : List Tx}, RepL K ad Z H xs vs → allStr xs = some bs → vs = (bs.map toS).map V.str
  | [], _, _, h, e => by simp only [RepL] at h; simp only [allStr, Option.some.injEq] at e; subst h; subst e; rfl
  | x :: xs, _, bs, h, e => by
    simp only [RepL] at h
    obtain ⟨v, r, rfl, h1, h2⟩ := h
    cases x <;> simp only [allStr] at e <;> try (cases e)
    rename_i b
    cases q : allStr xs with
    | none => rw [q] at e; simp at e
    | some cs =>
      rw [q] at e
      simp only [Option.map_some, Option.some.injEq] at e
      subst e
      rw [repL_strs h2 q, (repV_str h1).1]; rfl
theorem s_any (o : XOk p n N sc W X) {po : Pos} {x : Str} (hx : x = "any") (hg : glB sc x = true) (hm : p.mg x = none) (ha : PE X A (tE p n W a)) (pa : plainA A = true) : PE X (.Call (.Name x po) [A] [] pos) (tE p n W (.un .any a)) := by
  subst hx
  refine s_callB o (cr_any o.calm) (by decide +kernel) hg hm ha pa fun g c sl mm σ H d v Q r rv h => ?_
  simp only [unS] at h
  split at h
  · rename_i xs e
    obtain ⟨q, vs, rfl, t, rl⟩ := r.rdL rv e
    split at h
    · rename_i bs e2
      have ev := repL_bls rl e2
      subst ev
      exact ⟨_, bs, rfl, .inl t, PostE.ok0 h r okB⟩
    · exact h.elim
  · exact h.elim
theorem s_all (o : XOk p n N sc W X) {po : Pos} {x : Str} (hx : x = "all") (hg : glB sc x = true) (hm : p.mg x = none) (ha : PE X A (tE p n W a)) (pa : plainA A = true) : PE X (.Call (.Name x po) [A] [] pos) (tE p n W (.un .all a)) := by
  subst hx
  refine s_callB o (cr_all o.calm) (by decide +kernel) hg hm ha pa fun g c sl mm σ H d v Q r rv h => ?_
  simp only [unS] at h
  split at h
  · rename_i xs e
    obtain ⟨q, vs, rfl, t, rl⟩ := r.rdL rv e
    split at h
    · rename_i bs e2
      have ev := repL_bls rl e2
      subst ev
      exact ⟨_, bs, rfl, .inl t, PostE.ok0 h r okB⟩
    · exact h.elim
  · exact h.elim
theorem s_list (o : XOk p n N sc W X) {po : Pos} {x : Str} (hx : x = "list") (hg : glB sc x = true) (hm : p.mg x = none) (ha : PE X A (tE p n W a)) (pa : plainA A = true) : PE X (.Call (.Name x po) [A] [] pos) (tE p n W (.un .list a)) := by
  subst hx
  refine s_callTy o call_list_of (by decide +kernel) hg hm ha pa fun g c sl mm σ H d v Q r rv h => ?_
  simp only [unS] at h
  rw [o.K]
  split at h
  · rename_i xs e
    obtain ⟨q, vs, rfl, t, rl⟩ := r.rdL rv e
    exact ⟨_, _, rfl, .inl (.inl t), fun l hl => PostE.newL h r rl hl⟩
  · rename_i xs e
    obtain ⟨q, vs, rfl, t, rl⟩ := r.rdT rv e
    exact ⟨_, _, rfl, .inr t, fun l hl => PostE.newL h r rl hl⟩
  · exact h.elim
theorem pureDs_of {K : Kx} {g : Gh} {c : Cf} {sl : Sl} {mm : Mm} {σ : L2.St} {H : Hp} (r : Rep K g c sl mm σ H) {d : D} {v : V} {xs : List D} (rv : RepV K c.ad c.Z H d v) (e : rd mm d = .lst xs ∨ rd mm d = .tup xs) (hp : pureD d = true ∨ ∃ k, d = .m k) : pureDs xs = true := by
  rcases hp with hp | ⟨k, rfl⟩
  · cases d <;> simp only [rd] at e <;> first | (rcases e with e | e <;> cases e <;> simpa only [pureD] using hp) | (rcases e with e | e <;> cases e) | (simp only [pureD, Bool.false_eq_true] at hp)
  · simp only [RepV] at rv
    obtain ⟨a, ha, rfl⟩ := rv
    have hl : k < mm.length := by rw [← r.lenA]; exact (List.getElem?_eq_some_iff.mp ha).1
    have q : mm[k]? = some mm[k] := List.getElem?_eq_getElem hl
    have o := r.obj k a _ ha q
    have er : rd mm (.m k) = mm[k].val := by simp only [rd, q]
    rw [er] at e
    cases hx : mm[k] with
    | mu d =>
      rw [hx] at o e
      have := o.2.1
      rcases e with e | e <;> (simp only [M.val] at e; subst e; simpa only [pureD] using this)
    | fz d =>
      rw [hx] at o e
      have := o.2.1
      rcases e with e | e <;> (simp only [M.val] at e; subst e; simpa only [pureD] using this)
theorem s_tuple (o : XOk p n N sc W X) {po : Pos} {x : Str} (hx : x = "tuple") (hg : glB sc x = true) (hm : p.mg x = none) (ha : PE X A (tE p n W a)) (pa : plainA A = true) : PE X (.Call (.Name x po) [A] [] pos) (tE p n W (.un .tuple a)) := by
  subst hx
  refine s_callTy o call_tuple_of (by decide +kernel) hg hm ha pa fun g c sl mm σ H d v Q r rv h => ?_
  simp only [unS] at h
  rw [o.K]
  split at h
  · rename_i xs e
    obtain ⟨q, vs, rfl, t, rl⟩ := r.rdL rv e
    exact ⟨_, _, rfl, .inl ⟨.inl t, fun l hl => PostE.newT h r rl hl⟩⟩
  · rename_i xs e
    obtain ⟨q, vs, rfl, t, rl⟩ := r.rdT rv e
    refine ⟨_, _, rfl, .inr ⟨t, ?_⟩⟩
    cases d with
    | tup ys => simp only [rd] at e; cases e; exact PostE.ok0 h r rv
    | m k =>
      simp only [RepV] at rv
      obtain ⟨b, hb, eb⟩ := rv
      cases eb
      have hl : k < mm.length := by rw [← r.lenA]; exact (List.getElem?_eq_some_iff.mp hb).1
      have qk : mm[k]? = some mm[k] := List.getElem?_eq_getElem hl
      have ob := r.obj k q _ hb qk
      have er : rd mm (.m k) = mm[k].val := by simp only [rd, qk]
      rw [er] at e
      cases hx : mm[k] with
      | mu d =>
        rw [hx] at ob e
        simp only [M.val] at e; subst e
        have := ob.2.2
        simp only [RepM] at this
      | fz d =>
        rw [hx] at ob e
        simp only [M.val] at e; subst e
        exact PostE.ok0 h r ob.2.2
    | _ => simp only [rd] at e; cases e
  · exact h.elim
theorem s_minl (o : XOk p n N sc W X) {po : Pos} {x : Str} (hx : x = "min") (hg : glB sc x = true) (hm : p.mg x = none) (ha : PE X A (tE p n W a)) (pa : plainA A = true) : PE X (.Call (.Name x po) [A] [] pos) (tE p n W (.un .minl a)) := by
  subst hx
  refine s_callB o (cr_min o.calm) (by decide +kernel) hg hm ha pa fun g c sl mm σ H d v Q r rv h => ?_
  simp only [unS] at h
  split at h
  · rename_i xs e
    obtain ⟨q, vs, rfl, t, rl⟩ := r.rdL rv e
    split at h
    · rename_i m ms e2
      have ev := repL_ints rl e2
      subst ev
      refine ⟨_, m :: ms, rfl, .inl t, by simp, fun k hk hle => ?_⟩
      have e3 : k = ms.foldl min m := by
        have h1 : ∀ (l : List Int) (z : Int), l.foldl min z ≤ z ∧ ∀ y ∈ l, l.foldl min z ≤ y := by
          intro l
          induction l with
          | nil => intro z; exact ⟨Int.le_refl _, by simp⟩
          | cons y l ih =>
            intro z
            obtain ⟨q1, q2⟩ := ih (min z y)
            simp only [List.foldl_cons, List.mem_cons]
            exact ⟨by omega, fun w hw => hw.elim (fun e => by subst e; omega) fun hw => q2 w hw⟩
        have h2 : ∀ (l : List Int) (z : Int), l.foldl min z = z ∨ l.foldl min z ∈ l := by
          intro l
          induction l with
          | nil => intro z; exact .inl rfl
          | cons y l ih =>
            intro z
            simp only [List.foldl_cons, List.mem_cons]
            rcases ih (min z y) with q | q
            · rw [q]; by_cases hz : z ≤ y
              · left; omega
              · right; left; omega
            · exact .inr (.inr q)
        have a1 := h1 ms m
        have a2 := h2 ms m
        have b1 : k ≤ ms.foldl min m := by
          rcases a2 with q | q
          · rw [q]; exact hle _ (by simp)
          · exact hle _ (by simp [q])
        have b2 : ms.foldl min m ≤ k := by
          rcases List.mem_cons.mp hk with q | q
          · rw [q]; exact a1.1
          · exact a1.2 _ q
        omega
      subst e3
      exact PostE.ok0 h r okI
    · exact h.elim
  · exact h.elim
theorem s_maxl (o : XOk p n N sc W X) {po : Pos} {x : Str} (hx : x = "max") (hg : glB sc x = true) (hm : p.mg x = none) (ha : PE X A (tE p n W a)) (pa : plainA A = true) : PE X (.Call (.Name x po) [A] [] pos) (tE p n W (.un .maxl a)) := by
  subst hx
  refine s_callB o (cr_max o.calm) (by decide +kernel) hg hm ha pa fun g c sl mm σ H d v Q r rv h => ?_
  simp only [unS] at h
  split at h
  · rename_i xs e
    obtain ⟨q, vs, rfl, t, rl⟩ := r.rdL rv e
    split at h
    · rename_i m ms e2
      have ev := repL_ints rl e2
      subst ev
      refine ⟨_, m :: ms, rfl, .inl t, by simp, fun k hk hle => ?_⟩
      have e3 : k = ms.foldl max m := by
        have h1 : ∀ (l : List Int) (z : Int), z ≤ l.foldl max z ∧ ∀ y ∈ l, y ≤ l.foldl max z := by
          intro l
          induction l with
          | nil => intro z; exact ⟨Int.le_refl _, by simp⟩
          | cons y l ih =>
            intro z
            obtain ⟨q1, q2⟩ := ih (max z y)
            simp only [List.foldl_cons, List.mem_cons]
            exact ⟨by omega, fun w hw => hw.elim (fun e => by subst e; omega) fun hw => q2 w hw⟩
        have h2 : ∀ (l : List Int) (z : Int), l.foldl max z = z ∨ l.foldl max z ∈ l := by
          intro l
          induction l with
          | nil => intro z; exact .inl rfl
          | cons y l ih =>
            intro z
            simp only [List.foldl_cons, List.mem_cons]
            rcases ih (max z y) with q | q
            · rw [q]; by_cases hz : y ≤ z
              · left; omega
              · right; left; omega
            · exact .inr (.inr q)
        have a1 := h1 ms m
        have a2 := h2 ms m
        have b1 : ms.foldl max m ≤ k := by
          rcases a2 with q | q
          · rw [q]; exact hle _ (by simp)
          · exact hle _ (by simp [q])
        have b2 : k ≤ ms.foldl max m := by
          rcases List.mem_cons.mp hk with q | q
          · rw [q]; exact a1.1
          · exact a1.2 _ q
        omega
      subst e3
      exact PostE.ok0 h r okI
    · exact h.elim
  · exact h.elim
theorem s_isN {j : Nat} {p2 : Pos} (ha : PE X A (tE p n W a)) : PC X .Is A (.Constant .none j p2) (tE p n W (.un .isN a)) :=
  c_un (r := fun v H Q => Q (.bl (decide (v = .non))) H) (PCimp (pc_isN ha) fun σ H Q h => h) fun g c sl mm σ H d v Q r rv h => by
    simp only [unS] at h
    cases d <;> simp only [] at h
    · rw [repV_non rv]; exact PostE.ok0 h r okB
    · rw [repV_bl rv]; exact PostE.ok0 h r okB
    · rw [repV_int rv]; exact PostE.ok0 h r okB
    · rw [(repV_str rv).1]; exact PostE.ok0 h r okB
    · simp only [RepV] at rv; obtain ⟨q, vs, rfl, _⟩ := rv; exact PostE.ok0 h r okB
    · simp only [RepV] at rv; obtain ⟨q, vs, rfl, _⟩ := rv; exact PostE.ok0 h r okB
    · simp only [RepV] at rv; obtain ⟨q, kvs, rfl, _⟩ := rv; exact PostE.ok0 h r okB
    · simp only [RepV] at rv; obtain ⟨q, kvs, _, rfl, _⟩ := rv; exact PostE.ok0 h r okB
    · simp only [RepV] at rv
    · simp only [RepV] at rv; obtain ⟨q, vs, rfl⟩ := rv; exact PostE.ok0 h r okB
theorem s_notN {j : Nat} {p2 : Pos} (ha : PE X A (tE p n W a)) : PC X .IsNot A (.Constant .none j p2) (tE p n W (.un .notN a)) :=
  c_un (r := fun v H Q => Q (.bl (!decide (v = .non))) H) (PCimp (pc_notN ha) fun σ H Q h => h) fun g c sl mm σ H d v Q r rv h => by
    simp only [unS] at h
    cases d <;> simp only [] at h
    · rw [repV_non rv]; exact PostE.ok0 h r okB
    · rw [repV_bl rv]; exact PostE.ok0 h r okB
    · rw [repV_int rv]; exact PostE.ok0 h r okB
    · rw [(repV_str rv).1]; exact PostE.ok0 h r okB
    · simp only [RepV] at rv; obtain ⟨q, vs, rfl, _⟩ := rv; exact PostE.ok0 h r okB
    · simp only [RepV] at rv; obtain ⟨q, vs, rfl, _⟩ := rv; exact PostE.ok0 h r okB
    · simp only [RepV] at rv; obtain ⟨q, kvs, rfl, _⟩ := rv; exact PostE.ok0 h r okB
    · simp only [RepV] at rv; obtain ⟨q, kvs, _, rfl, _⟩ := rv; exact PostE.ok0 h r okB
    · simp only [RepV] at rv
    · simp only [RepV] at rv; obtain ⟨q, vs, rfl⟩ := rv; exact PostE.ok0 h r okB
theorem s_frz (ha : PE X A (tE p n W a)) : PE X A (tE p n W (.un .frz a)) :=
  s_un (r := fun v H Q => Q v H) (PEimp ha fun σ H Q h => h) fun g c sl mm σ H d v Q r rv h => by
    simp only [unS, frzS] at h
    split at h
    · rename_i k
      split at h
      · rename_i d' e
        simp only [RepV] at rv
        obtain ⟨q, hq, rfl⟩ := rv
        obtain ⟨l, r', hv⟩ := r.freeze hq e
        exact h _ _ H l r' hv
      · rename_i d' e
        simp only [RepV] at rv
        obtain ⟨q, hq, rfl⟩ := rv
        exact PostE.ok0 h r (r.obj k q _ hq e).2.2
      · exact h.elim
    · exact PostE.ok0 h r rv
end
end Mp
/-! Mp5: the operators, further. -/
namespace Mp
open PySem PySem.Spec
open PyProof.Rows L2
section
variable {p : Pg} {n : Nat} {N : List Str} {sc : Scope} {W : WX} {X : Cx} {A B : Expr} {a b : E} {pos : Pos}
theorem okS {K : Kx} {ad : List Addr} {Z : Addr → Prop} {H : Hp} {s : Tx} (h : okT s = true) : RepV K ad Z H (.str s) (.str (toS s)) := by
  unfold RepV; exact ⟨rfl, h⟩
/-! ### + and * -/
theorem op_plus : OpR X (binaryOp .Add) (fun x y H Q => ((∃ i j, x = .int i ∧ y = .int j ∧ Q (.int (i + j)) H) ∨ (∃ i j, x = .str i ∧ y = .str j ∧ i.length + j.length ≤ sizeLine ∧ Q (.str (i ++ j)) H)) ∨ (rCatA X.K x y H Q ∨ rCatL x y H Q)) :=
  (op_add.or op_add_str).or (op_catA.or op_catL)
theorem toS_app (x y : Tx) : toS x ++ toS y = toS (x ++ y) := by
  show Str.append (toS x) (toS y) = toS (x ++ y)
  unfold Str.append toS
  simp
theorem okT_app {x y : Tx} (h1 : okT x = true) (h2 : okT y = true) : okT (x ++ y) = true := by
  unfold okT at *
  rw [List.all_append, h1, h2]; rfl
theorem s_add (o : XOk p n N sc W X) (ha : PE X A (tE p n W a)) (hb : PE X B (tE p n W b)) : PE X (.BinOp A .Add B pos) (tE p n W (.bin .add a b)) :=
  s_bin (pe_op op_plus ha hb) fun g c sl mm σ H d f v u Q r rv ru h => by
    simp only [binS, addS] at h
    split at h
    · rename_i i e
      have e1 := r.rdI rv e; subst e1
      split at h
      · rename_i j e2
        have e3 := r.rdI ru e2; subst e3
        rw [repV_int rv, repV_int ru]
        exact .inl (.inl ⟨i, j, rfl, rfl, PostE.ok0 h r okI⟩)
      · exact h.elim
    · rename_i x e
      have e1 := r.rdS rv e; subst e1
      split at h
      · rename_i y e2
        have e3 := r.rdS ru e2; subst e3
        split at h
        · rename_i hz
          obtain ⟨rfl, t1⟩ := repV_str rv
          obtain ⟨rfl, t2⟩ := repV_str ru
          refine .inl (.inr ⟨_, _, rfl, rfl, by rw [sz_eq]; simpa [toS, Str.length] using hz, ?_⟩)
          rw [toS_app]
          exact PostE.ok0 h r (okS (okT_app t1 t2))
        · exact h.elim
      · exact h.elim
    · rename_i x e
      obtain ⟨q, vs, rfl, t, rl⟩ := r.rdT rv e
      split at h
      · rename_i y e2
        obtain ⟨q2, ws, rfl, t2, rl2⟩ := r.rdT ru e2
        split at h
        · rename_i hz
          refine .inr (.inl ⟨q, q2, vs, ws, rfl, rfl, by rw [o.K]; exact t, by rw [o.K]; exact t2, by rw [rl.len, rl2.len]; exact hz, fun ev => ?_, fun ev ew => ?_, fun ev ew w hw => PostE.newT h r (rl.app rl2) hw⟩)
          · have ex : x = [] := List.eq_nil_of_length_eq_zero (by rw [← rl.len, ev]; rfl)
            subst ex
            rw [List.nil_append] at h
            obtain ⟨c', l', r', hv⟩ : ∃ c', c.Le H c' H ∧ Rep p.K g c' sl mm σ H ∧ RepV p.K c'.ad c'.Z H (.tup y) (.ref q2) := by
              refine ⟨c, .refl, r, ?_⟩
              cases f with
              | tup ys => simp only [rd] at e2; cases e2; exact ru
              | m k =>
                simp only [RepV] at ru
                obtain ⟨w, hw, ew⟩ := ru
                cases ew
                have hl : k < mm.length := by rw [← r.lenA]; exact (List.getElem?_eq_some_iff.mp hw).1
                have qk : mm[k]? = some mm[k] := List.getElem?_eq_getElem hl
                have ob := r.obj k _ _ hw qk
                have er : rd mm (.m k) = mm[k].val := by simp only [rd, qk]
                rw [er] at e2
                cases hx : mm[k] with
                | mu d =>
                  rw [hx] at ob e2
                  simp only [M.val] at e2; subst e2
                  have := ob.2.2
                  simp only [RepM] at this
                | fz d =>
                  rw [hx] at ob e2
                  simp only [M.val] at e2; subst e2
                  exact ob.2.2
              | _ => simp only [rd] at e2; cases e2
            exact h c' _ H l' r' hv
          · have ey : y = [] := List.eq_nil_of_length_eq_zero (by rw [← rl2.len, ew]; rfl)
            subst ey
            rw [List.append_nil] at h
            obtain ⟨c', l', r', hv⟩ : ∃ c', c.Le H c' H ∧ Rep p.K g c' sl mm σ H ∧ RepV p.K c'.ad c'.Z H (.tup x) (.ref q) := by
              refine ⟨c, .refl, r, ?_⟩
              cases d with
              | tup ys => simp only [rd] at e; cases e; exact rv
              | m k =>
                simp only [RepV] at rv
                obtain ⟨w, hw, ew'⟩ := rv
                cases ew'
                have hl : k < mm.length := by rw [← r.lenA]; exact (List.getElem?_eq_some_iff.mp hw).1
                have qk : mm[k]? = some mm[k] := List.getElem?_eq_getElem hl
                have ob := r.obj k _ _ hw qk
                have er : rd mm (.m k) = mm[k].val := by simp only [rd, qk]
                rw [er] at e
                cases hx : mm[k] with
                | mu d =>
                  rw [hx] at ob e
                  simp only [M.val] at e; subst e
                  have := ob.2.2
                  simp only [RepM] at this
                | fz d =>
                  rw [hx] at ob e
                  simp only [M.val] at e; subst e
                  exact ob.2.2
              | _ => simp only [rd] at e; cases e
            exact h c' _ H l' r' hv
        · exact h.elim
      · exact h.elim
    · rename_i x e
      obtain ⟨q, vs, rfl, t, rl⟩ := r.rdL rv e
      split at h
      · rename_i y e2
        obtain ⟨q2, ws, rfl, t2, rl2⟩ := r.rdL ru e2
        split at h
        · rename_i hz
          exact .inr (.inr ⟨q, q2, vs, ws, rfl, rfl, t, t2, by rw [rl.len, rl2.len]; exact hz, fun w hw => PostE.newL h r (rl.app rl2) hw⟩)
        · exact h.elim
      · exact h.elim
    · exact h.elim
theorem s_mul (o : XOk p n N sc W X) (ha : PE X A (tE p n W a)) (hb : PE X B (tE p n W b)) : PE X (.BinOp A .Mult B pos) (tE p n W (.bin .mul a b)) :=
  s_bin (pe_op (op_mul.or op_repT) ha hb) fun g c sl mm σ H d f v u Q r rv ru h => by
    simp only [binS] at h
    split at h
    · rename_i i e
      have e1 := r.rdI rv e; subst e1
      cases f <;> simp only [] at h <;> try exact h.elim
      rename_i j
      cases q : (small64 i || small64 j) with
      | false => simp only [q] at h; exact h.elim
      | true =>
        simp only [q, if_true] at h
        rw [repV_int rv, repV_int ru]
        refine .inl ⟨i, j, rfl, rfl, ?_, PostE.ok0 h r okI⟩
        rw [Bool.or_eq_true] at q
        simp only [small64, Bool.and_eq_true, decide_eq_true_eq] at q
        unfold CMul
        omega
    · rename_i xs e
      obtain ⟨q, vs, rfl, t, rl⟩ := r.rdT rv e
      cases f <;> simp only [] at h <;> try exact h.elim
      rename_i j
      cases qq : (decide (2 ≤ j) && decide (j ≤ 1000) && decide (0 < xs.length) && decide (xs.length ≤ 1000)) with
      | false => simp only [qq] at h; exact h.elim
      | true =>
        simp only [qq, if_true] at h
        simp only [Bool.and_eq_true, decide_eq_true_eq] at qq
        rw [repV_int ru]
        refine .inr ⟨q, j, vs, rfl, rfl, by rw [o.K]; exact t, fun z => ?_, qq.1.1.1, qq.1.1.2, by rw [rl.len]; exact qq.2, fun w hw => PostE.newT h r (rl.rep _) hw⟩
        have := rl.len
        rw [z] at this
        simp only [List.length_nil] at this
        omega
    · exact h.elim
/-! ### in -/
/-! ### dicts by keys -/
theorem isSome_key {b : D} (hb : isKT b = true) {ks : List D} {kvs : List (L2.Key × V)} (hk : ks.all isKT = true) (h : kvs.map (·.1) = ks.map keyT) : (valV kvs (keyT b)).isSome = memD b ks := by
  rw [valV_key hb hk h, ← idxOfD_mem]
  cases q : idxOfD b ks with
  | none => rfl
  | some j =>
    have h1 := idxOfD_lt q
    have h2 : (kvs.map (·.2)).length = ks.length := by
      have := congrArg List.length h
      simpa using this
    show ((kvs.map (·.2))[j]?).isSome = true
    rw [List.getElem?_eq_getElem (by omega)]; rfl
theorem room_u1 {n : Nat} {A : Around} (h : Room n A) : A.units + 1 < cLine := by
  have := h.un
  omega
theorem room_u9 {n : Nat} {A : Around} (h : Room n A) : A.units + 9 < cLine := by
  have := h.un
  omega
/-- what a dict gives, of either kind -/
theorem dg_k {X : Cx} {H : Hp} {a : Addr} {kvs : List (L2.Key × V)} {ks : List D} {d : D} {u : V} {ad : List Addr} {Z : Addr → Prop} {K : Kx} (t : Rd H a (.dK kvs)) (ru : RepV K ad Z H d u) (z : isKT d = true) : DG X H a u (valV kvs (keyT d)) :=
  .inl (.inl ⟨kvs, keyT d, t, repV_key ru z, rfl⟩)
theorem dg_n (o : XOk p n N sc W X) {H : Hp} {a : Addr} {ob : Obj} {kvs : Nkv} {ks : List D} {d : D} {u : V} {ad : List Addr} {Z : Addr → Prop} (t : Rd H a (p.K.dn a ob kvs)) (e : kvs.map (·.1) = ks.map nkT) (hk : ks.all isKD = true) (r : RepL p.K ad Z H ks (kvs.map fun q => V.ref q.2.1))
    (ru : RepV p.K ad Z H d u) (z : isKD d = true) : DG X H a u (atN kvs (nkT d)) := by
  obtain ⟨b, rfl⟩ := repV_kd z ru
  refine .inr ⟨ob, kvs, nkT d, b, ⟨by rw [← o.dn]; exact t, ?_⟩, rfl, ?_, rfl⟩
  · rw [o.K]; exact keysA hk e r
  · rw [o.K]; exact keyA_of z ru
theorem s_mem (o : XOk p n N sc W X) (ha : PE X A (tE p n W a)) (hb : PE X B (tE p n W b)) : PC X .In A B (tE p n W (.bin .mem a b)) :=
  c_bin (pc_of (((op_inD (room_u65 o.room)).or (op_inT (room_u65 o.room))).or (op_inG (room_u9 o.room))) ha hb) fun g c sl mm σ H d f v u Q r rv ru h => by
    simp only [binS, memS] at h
    rw [o.K]
    split at h
    · rename_i xs e
      cases q : (okEq d && okEq (.lst xs)) with
      | false => simp only [q] at h; exact h.elim
      | true =>
        simp only [q, if_true, Bool.false_eq_true, if_false] at h
        rw [Bool.and_eq_true] at q
        obtain ⟨dp, sh⟩ := r.rdDp ru (by rw [e]; exact q.2)
        rw [e] at dp sh
        have e1 := okEq_lt q.2
        simp only [hgt] at e1
        refine .inl (.inl ⟨toPy d, toPys xs, rv.dpE q.1, dp, rv.shaped q.1, sh, ?_⟩)
        rw [mem_toPys (okEq_lt q.1) xs (by omega)]
        exact PostE.ok0 h r okB
    · rename_i xs e
      cases q : (okEq d && okEq (.tup xs)) with
      | false => simp only [q] at h; exact h.elim
      | true =>
        simp only [q, if_true, Bool.false_eq_true, if_false] at h
        rw [Bool.and_eq_true] at q
        obtain ⟨dp, sh⟩ := r.rdDp ru (by rw [e]; exact q.2)
        rw [e] at dp sh
        have e1 := okEq_lt q.2
        simp only [hgt] at e1
        refine .inl (.inr ⟨toPy d, toPys xs, rv.dpE q.1, dp, rv.shaped q.1, sh, ?_⟩)
        rw [mem_toPys (okEq_lt q.1) xs (by omega)]
        exact PostE.ok0 h r okB
    · rename_i ks vs e
      obtain ⟨q, kvs, rfl, t, hk, rl, _, _⟩ := r.rdD ru e
      cases z : (isKT d && ks.all isKT) with
      | false => simp only [z] at h; exact h.elim
      | true =>
        simp only [z, if_true, Bool.false_eq_true, if_false] at h
        rw [Bool.and_eq_true] at z
        refine .inr ⟨q, valV kvs (keyT d), rfl, dg_k (ks := ks) t rv z.1, ?_⟩
        rw [isSome_key z.1 z.2 hk]
        exact PostE.ok0 h r okB
    · rename_i ks vs e
      obtain ⟨q, ob, kvs, rfl, t, hk, hd, r1, rl⟩ := r.rdU ru e
      cases z : (isKD d && ks.all isKD) with
      | false => simp only [z] at h; exact h.elim
      | true =>
        simp only [z, if_true, Bool.false_eq_true, if_false] at h
        rw [Bool.and_eq_true] at z
        refine .inr ⟨q, atN kvs (nkT d), rfl, dg_n o t hk hd r1 rv z.1, ?_⟩
        rw [isSome_nk z.1 z.2 hk]
        exact PostE.ok0 h r okB
    · exact h.elim
theorem s_nmem (o : XOk p n N sc W X) (ha : PE X A (tE p n W a)) (hb : PE X B (tE p n W b)) : PC X .NotIn A B (tE p n W (.bin .nmem a b)) :=
  c_bin (pc_of (((op_notInD (room_u65 o.room)).or (op_ninT (room_u65 o.room))).or (op_ninG (room_u9 o.room))) ha hb) fun g c sl mm σ H d f v u Q r rv ru h => by
    simp only [binS, memS] at h
    rw [o.K]
    split at h
    · rename_i xs e
      cases q : (okEq d && okEq (.lst xs)) with
      | false => simp only [q] at h; exact h.elim
      | true =>
        simp only [q, if_true] at h
        rw [Bool.and_eq_true] at q
        obtain ⟨dp, sh⟩ := r.rdDp ru (by rw [e]; exact q.2)
        rw [e] at dp sh
        have e1 := okEq_lt q.2
        simp only [hgt] at e1
        refine .inl (.inl ⟨toPy d, toPys xs, rv.dpE q.1, dp, rv.shaped q.1, sh, ?_⟩)
        rw [mem_toPys (okEq_lt q.1) xs (by omega)]
        exact PostE.ok0 h r okB
    · rename_i xs e
      cases q : (okEq d && okEq (.tup xs)) with
      | false => simp only [q] at h; exact h.elim
      | true =>
        simp only [q, if_true] at h
        rw [Bool.and_eq_true] at q
        obtain ⟨dp, sh⟩ := r.rdDp ru (by rw [e]; exact q.2)
        rw [e] at dp sh
        have e1 := okEq_lt q.2
        simp only [hgt] at e1
        refine .inl (.inr ⟨toPy d, toPys xs, rv.dpE q.1, dp, rv.shaped q.1, sh, ?_⟩)
        simp only [if_true]
        rw [mem_toPys (okEq_lt q.1) xs (by omega)]
        exact PostE.ok0 h r okB
    · rename_i ks vs e
      obtain ⟨q, kvs, rfl, t, hk, rl, _, _⟩ := r.rdD ru e
      cases z : (isKT d && ks.all isKT) with
      | false => simp only [z] at h; exact h.elim
      | true =>
        simp only [z, if_true] at h
        rw [Bool.and_eq_true] at z
        refine .inr ⟨q, valV kvs (keyT d), rfl, dg_k (ks := ks) t rv z.1, ?_⟩
        rw [isSome_key z.1 z.2 hk]
        exact PostE.ok0 h r okB
    · rename_i ks vs e
      obtain ⟨q, ob, kvs, rfl, t, hk, hd, r1, rl⟩ := r.rdU ru e
      cases z : (isKD d && ks.all isKD) with
      | false => simp only [z] at h; exact h.elim
      | true =>
        simp only [z, if_true] at h
        rw [Bool.and_eq_true] at z
        refine .inr ⟨q, atN kvs (nkT d), rfl, dg_n o t hk hd r1 rv z.1, ?_⟩
        rw [isSome_nk z.1 z.2 hk]
        exact PostE.ok0 h r okB
    · exact h.elim
/-! ### places -/
theorem s_idx (o : XOk p n N sc W X) (ha : PE X A (tE p n W a)) (hb : PE X B (tE p n W b)) (pb : plainA B = true) : PE X (.Subscript A B pos) (tE p n W (.bin .idx a b)) :=
  s_bin (pe_ix ((ix_list.or ix_tup).or (ix_dictG (room_u9 o.room))) ha hb (ix_plain pb)) fun g c sl mm σ H d f v u Q r rv ru h => by
    simp only [binS, idxS] at h
    rw [o.K]
    split at h
    · rename_i xs e
      obtain ⟨q, vs, rfl, t, rl⟩ := r.rdL rv e
      cases f <;> simp only [] at h <;> try exact h.elim
      rename_i i
      split at h
      · rename_i x e2
        obtain ⟨w, hw, rw'⟩ := rl.at e2
        rw [repV_int ru]
        exact .inl (.inl ⟨q, vs, i, w, rfl, rfl, .inl t, hw, PostE.ok0 h r rw'⟩)
      · exact h.elim
    · rename_i xs e
      obtain ⟨q, vs, rfl, t, rl⟩ := r.rdT rv e
      cases f <;> simp only [] at h <;> try exact h.elim
      rename_i i
      split at h
      · rename_i x e2
        obtain ⟨w, hw, rw'⟩ := rl.at e2
        rw [repV_int ru]
        exact .inl (.inr ⟨q, vs, i, w, rfl, rfl, t, hw, PostE.ok0 h r rw'⟩)
      · exact h.elim
    · rename_i ks vs e
      obtain ⟨q, kvs, rfl, t, hk, rl, _, _⟩ := r.rdD rv e
      cases z : (isKT f && ks.all isKT) with
      | false => simp only [z] at h; exact h.elim
      | true =>
        simp only [z, if_true] at h
        rw [Bool.and_eq_true] at z
        split at h
        · rename_i j ej
          split at h
          · rename_i x ex
            obtain ⟨w, hw, rw'⟩ := rl.get ex
            refine .inr ⟨q, w, rfl, ?_, PostE.ok0 h r rw'⟩
            have g := dg_k (X := X) (ks := ks) t ru z.1
            rw [valV_key z.1 z.2 hk, ej] at g
            have g : DG X H q u ((kvs.map (·.2))[j]?) := g
            rw [hw] at g
            exact g
          · exact h.elim
        · exact h.elim
    · rename_i ks vs e
      obtain ⟨q, ob, kvs, rfl, t, hk, hd, r1, rl⟩ := r.rdU rv e
      cases z : (isKD f && ks.all isKD) with
      | false => simp only [z] at h; exact h.elim
      | true =>
        simp only [z, if_true] at h
        rw [Bool.and_eq_true] at z
        split at h
        · rename_i j ej
          split at h
          · rename_i x ex
            obtain ⟨w, hw, rw'⟩ := rl.get ex
            refine .inr ⟨q, w, rfl, ?_, PostE.ok0 h r rw'⟩
            have g := dg_n o t hk hd r1 ru z.1
            rw [atN_key z.1 z.2 hk, ej] at g
            have g : DG X H q u ((kvs.map (·.2.2))[j]?) := g
            rw [hw] at g
            exact g
          · exact h.elim
        · exact h.elim
    · exact h.elim
/-! ### methods of lists -/
theorem few_one (pa : plainA B = true) (env : Env) (pos : Pos) : ((backTo pos (starEach [B] env)).all (fun x => !x.1) && (backToKw pos (keywordEach [] env)).all (fun x => x.1.isSome)
      && decide (([B] : List Expr).length + ([] : List Keyword).length + (if ([] : List Keyword).isEmpty then 0 else 1) < 30)) = true := by
  rw [star_plain pa]; rfl
/-- a list's or a text's method of one argument -/
theorem s_mth {o2 : B2} {T : String} {name : Str} {id : String} {rr : V → List V → Hp → VK → Prop} (pt : PlainAttrs T) (slot : Slot T name id) (hty : typeOf (.builtin id) = pure (.type "method_descriptor")) (hm : MtR X id rr)
    {apos : Pos} (hl : (apos.endLine == pos.line) = true) (ha : PE X A (tE p n W a)) (hb : PE X B (tE p n W b)) (pa : plainA A = true) (na : notSuper A = true) (pb : plainA B = true)
    (recv : ∀ g c sl mm σ H d v, Rep p.K g c sl mm σ H → RepV p.K c.ad c.Z H d v → recvOk o2 d mm = true → tyV X.K T v H)
    (hr : ∀ g c sl mm σ H d f v u Q, Rep p.K g c sl mm σ H → RepV p.K c.ad c.Z H d v → RepV p.K c.ad c.Z H f u → PostE p g c sl σ H W Q (binS o2 d f mm) → rr v [u] H Q) :
    PE X (.Call (.Attribute A name apos) [B] [] pos) (tE p n W (.mth o2 a b)) := by
  refine PEimp (pe_bm pt slot hty hm ha (pa_cons hb pa_nil (star_plain pb _ _)) (base_plain pa na _ _) (few_one pb _ _) hl (star_plain pb _ _) (star_none (by simp) _ _)) fun σ H Q ⟨g, c, sl, mm, r, h⟩ => ?_
  simp only [semE] at h
  refine ⟨g, c, sl, mm, r, PostE.bind h fun c1 d mm1 v H1 l1 r1 rv h1 => ?_⟩
  cases e : recvOk o2 d mm1 with
  | false => simp only [e] at h1; exact h1.elim
  | true =>
    simp only [e, if_true] at h1
    refine ⟨recv g c1 sl mm1 σ H1 d v r1 rv e, g, c1, sl, mm1, r1, PostE.bind h1 fun c2 f mm2 u H2 l2 r2 ru h2 => ?_⟩
    exact hr g c2 sl mm2 σ H2 d f v u Q r2 (RepV.le l2 _ _ rv) ru h2
theorem recv_lst {K : Kx} {g : Gh} {c : Cf} {sl : Sl} {mm : Mm} {σ : L2.St} {H : Hp} {d : D} {v : V} (r : Rep K g c sl mm σ H) (rv : RepV K c.ad c.Z H d v) (h : (match rd mm d with | .lst _ => true | _ => false) = true) : tyV K "list" v H := by
  cases e : rd mm d <;> rw [e] at h <;> try (cases h)
  obtain ⟨q, vs, rfl, t, _⟩ := r.rdL rv e
  exact .inl ⟨rfl, vs, .inl t⟩
def isS : D → Bool
  | .str _ => true
  | _ => false
theorem recv_str {K : Kx} {ad : List Addr} {Z : Addr → Prop} {H : Hp} {d : D} {v : V} (rv : RepV K ad Z H d v) (h : isS d = true) : tyV K "str" v H := by
  cases d <;> try (cases h)
  rw [(repV_str rv).1]; rfl
/-- an object of the activation that may change -/
theorem Rep.own_at {K : Kx} {g : Gh} {c : Cf} {sl : Sl} {mm : Mm} {σ : L2.St} {H : Hp} {k : Nat} {v : V} {xs : List D} (r : Rep K g c sl mm σ H) (rv : RepV K c.ad c.Z H (.m k) v) (e : mm[k]? = some (.mu (.lst xs))) :
    ∃ q vs, c.ad[k]? = some q ∧ v = .ref q ∧ H q = some (.lst vs) ∧ RepL K c.ad c.Z H xs vs ∧ pureDs xs = true := by
  simp only [RepV] at rv
  obtain ⟨q, hq, rfl⟩ := rv
  have o := r.obj k q _ hq e
  obtain ⟨vs, h1, h2⟩ := o.2.2
  exact ⟨q, vs, hq, rfl, h1, h2, by simpa [pureD] using o.2.1⟩
theorem pureDs_app : ∀ {xs ys : List D}, pureDs xs = true → pureDs ys = true → pureDs (xs ++ ys) = true
  | [], _, _, h => h
  | x :: xs, ys, h, h2 => by
    simp only [List.cons_append, pureDs, Bool.and_eq_true] at h ⊢
    exact ⟨h.1, pureDs_app h.2 h2⟩
theorem pureDs_one {x : D} (h : pureD x = true) : pureDs [x] = true := by simp [pureDs, h]
theorem s_app (o : XOk p n N sc W X) {apos : Pos} (hl : (apos.endLine == pos.line) = true) (ha : PE X A (tE p n W a)) (hb : PE X B (tE p n W b)) (pa : plainA A = true) (na : notSuper A = true) (pb : plainA B = true) :
    PE X (.Call (.Attribute A "append" apos) [B] [] pos) (tE p n W (.mth .app a b)) :=
  s_mth PySem.F.plainAttrs_list PySem.F.slot_list_append PySem.F.type_list_append mt_append hl ha hb pa na pb (fun g c sl mm σ H d v r rv h => by rw [o.K]; exact recv_lst r rv h) fun g c sl mm σ H d f v u Q r rv ru h => by
    simp only [binS] at h
    split at h
    · rename_i k
      split at h
      · rename_i xs e
        obtain ⟨q, vs, hq, rfl, hH, rl, pl⟩ := r.own_at rv e
        cases z : (pureD f && decide (xs.length < szl)) with
        | false => simp only [z] at h; exact h.elim
        | true =>
          simp only [z, if_true] at h
          rw [Bool.and_eq_true] at z
          refine ⟨q, vs, u, rfl, rfl, hH, by rw [rl.len]; exact of_decide_eq_true z.2, ?_⟩
          obtain ⟨l2, r2⟩ := r.write (vs := vs ++ [u]) (ds := xs ++ [f]) hq e (pureDs_app pl (pureDs_one z.1)) (rl.app (RepL.one ru))
          exact h c _ _ l2 r2 okN
      · exact h.elim
    · exact h.elim
theorem pureDs_erase : ∀ {xs : List D} (i : Nat), pureDs xs = true → pureDs (xs.eraseIdx i) = true
  | [], _, h => h
  | x :: xs, 0, h => by simp only [pureDs, Bool.and_eq_true] at h; exact h.2
  | x :: xs, i + 1, h => by
    simp only [pureDs, Bool.and_eq_true, List.eraseIdx_cons_succ] at h ⊢
    exact ⟨h.1, pureDs_erase i h.2⟩
theorem pureDs_take : ∀ {xs : List D} (i : Nat), pureDs xs = true → pureDs (xs.take i) = true
  | _, 0, _ => by simp [pureDs]
  | [], _ + 1, h => h
  | x :: xs, i + 1, h => by
    simp only [pureDs, Bool.and_eq_true, List.take_succ_cons] at h ⊢
    exact ⟨h.1, pureDs_take i h.2⟩
theorem pureDs_get : ∀ {xs : List D} {i : Nat} {x : D}, pureDs xs = true → xs[i]? = some x → pureD x = true
  | [], _, _, _, e => by simp at e
  | y :: ys, 0, x, h, e => by
    simp only [pureDs, Bool.and_eq_true] at h
    simp at e; subst e; exact h.1
  | y :: ys, i + 1, x, h, e => by
    simp only [pureDs, Bool.and_eq_true] at h
    exact pureDs_get h.2 (by simpa using e)
theorem pureDs_set : ∀ {xs : List D} (i : Nat) {x : D}, pureDs xs = true → pureD x = true → pureDs (xs.set i x) = true
  | [], _, _, h, _ => h
  | y :: ys, 0, x, h, e => by
    simp only [pureDs, Bool.and_eq_true, List.set_cons_zero] at h ⊢
    exact ⟨e, h.2⟩
  | y :: ys, i + 1, x, h, e => by
    simp only [pureDs, Bool.and_eq_true, List.set_cons_succ] at h ⊢
    exact ⟨h.1, pureDs_set i h.2 e⟩
theorem repL_sz {pins : List (Addr × Obj)} {σ : L2.St} {H : Hp} : True := trivial
theorem s_popat (o : XOk p n N sc W X) {apos : Pos} (hl : (apos.endLine == pos.line) = true) (ha : PE X A (tE p n W a)) (hb : PE X B (tE p n W b)) (pa : plainA A = true) (na : notSuper A = true) (pb : plainA B = true) :
    PE X (.Call (.Attribute A "pop" apos) [B] [] pos) (tE p n W (.mth .popat a b)) :=
  s_mth PySem.F.plainAttrs_list PySem.F.slot_list_pop PySem.F.type_list_pop mt_popAt hl ha hb pa na pb (fun g c sl mm σ H d v r rv h => by rw [o.K]; exact recv_lst r rv h) fun g c sl mm σ H d f v u Q r rv ru h => by
    simp only [binS] at h
    split at h
    · rename_i k
      split at h
      · rename_i xs e
        obtain ⟨q, vs, hq, rfl, hH, rl, pl⟩ := r.own_at rv e
        cases f <;> simp only [] at h <;> try exact h.elim
        rename_i i
        cases z : (decide (-1000000 ≤ i) && decide (i ≤ 1000000)) with
        | false => simp only [z] at h; exact h.elim
        | true =>
          simp only [z, if_true] at h
          simp only [Bool.and_eq_true, decide_eq_true_eq] at z
          split at h
          · rename_i j e2
            split at h
            · rename_i x e3
              obtain ⟨w, hw, rw'⟩ := rl.get e3
              rw [repV_int ru]
              have hs := ixN_seq e2
              refine ⟨q, vs, i, j, w, rfl, rfl, hH, by omega, by omega, by rw [rl.len]; exact hs.1, hw, ?_⟩
              obtain ⟨l2, r2⟩ := r.write (vs := vs.eraseIdx j) (ds := xs.eraseIdx j) hq e (pureDs_erase j pl) (rl.eraseIdx j)
              exact h c _ _ l2 r2 (RepV.le l2 _ _ rw')
            · exact h.elim
          · exact h.elim
      · exact h.elim
    · exact h.elim
theorem s_pop (o : XOk p n N sc W X) {apos : Pos} (hl : (apos.endLine == pos.line) = true) (ha : PE X A (tE p n W a)) (pa : plainA A = true) (na : notSuper A = true) :
    PE X (.Call (.Attribute A "pop" apos) [] [] pos) (tE p n W (.un .pop a)) :=
  s_un (r := fun v H Q => tyV X.K "list" v H ∧ rPop v [] H Q) (PEimp (pe_bm0 PySem.F.plainAttrs_list PySem.F.slot_list_pop PySem.F.type_list_pop mt_pop ha (base_plain pa na _ _) hl) fun σ H Q h => h) fun g c sl mm σ H d v Q r rv h => by
    simp only [unS] at h
    split at h
    · rename_i k
      split at h
      · rename_i xs e
        obtain ⟨q, vs, hq, rfl, hH, rl, pl⟩ := r.own_at rv e
        refine ⟨.inl ⟨rfl, vs, .inl (.inl hH)⟩, ?_⟩
        split at h
        · rename_i x e2
          rw [List.getLast?_eq_getElem?] at e2
          obtain ⟨w, hw, rw'⟩ := rl.get e2
          refine ⟨q, vs, w, rfl, rfl, hH, by rw [rl.len]; exact hw, ?_⟩
          obtain ⟨l2, r2⟩ := r.write (vs := vs.dropLast) (ds := xs.dropLast) hq e (by rw [List.dropLast_eq_take]; exact pureDs_take _ pl) rl.dropLast
          exact h c _ _ l2 r2 (RepV.le l2 _ _ rw')
        · exact h.elim
      · exact h.elim
    · exact h.elim
theorem idxOfD_spec {x : D} (hx : hgt x < 100) : ∀ {xs : List D} {j : Nat}, hgts xs < 100 → idxOfD x xs = some j → ∃ z, (toPys xs)[j]? = some z ∧ PyData.eqv z (toPy x) = true ∧ ∀ (m : Nat) (z' : PyData), m < j → (toPys xs)[m]? = some z' → PyData.eqv z' (toPy x) = false
  | [], _, _, e => by simp [idxOfD] at e
  | y :: ys, j, h, e => by
    simp only [hgts] at h
    simp only [idxOfD] at e
    cases q : eqD y x with
    | true =>
      simp only [q, if_true, Option.some.injEq] at e
      subst e
      exact ⟨toPy y, rfl, by rw [eqv_toPy y x (by omega) hx]; exact q, fun m z' hm => by omega⟩
    | false =>
      simp only [q, Bool.false_eq_true, if_false] at e
      cases q2 : idxOfD x ys with
      | none => rw [q2] at e; simp at e
      | some i =>
        rw [q2] at e
        simp only [Option.map_some, Option.some.injEq] at e
        subst e
        obtain ⟨z, h1, h2, h3⟩ := idxOfD_spec hx (by omega) q2
        refine ⟨z, h1, h2, fun m z' hm e' => ?_⟩
        cases m with
        | zero =>
          have ez : z' = toPy y := by simpa [toPys] using e'.symm
          rw [ez, eqv_toPy y x (by omega) hx]; exact q
        | succ m => exact h3 m z' (by omega) (by simpa [toPys] using e')
theorem s_index (o : XOk p n N sc W X) {apos : Pos} (hl : (apos.endLine == pos.line) = true) (ha : PE X A (tE p n W a)) (hb : PE X B (tE p n W b)) (pa : plainA A = true) (na : notSuper A = true) (pb : plainA B = true) :
    PE X (.Call (.Attribute A "index" apos) [B] [] pos) (tE p n W (.mth .index a b)) :=
  s_mth PySem.F.plainAttrs_list PySem.F.slot_list_index PySem.F.type_list_index (mt_indexD (room_u65 o.room)) hl ha hb pa na pb (fun g c sl mm σ H d v r rv h => by rw [o.K]; exact recv_lst r rv h) fun g c sl mm σ H d f v u Q r rv ru h => by
    simp only [binS] at h
    rw [o.K]
    split at h
    · rename_i xs e
      cases z : (okEq f && okEq (.lst xs)) with
      | false => simp only [z] at h; exact h.elim
      | true =>
        simp only [z, if_true] at h
        rw [Bool.and_eq_true] at z
        split at h
        · rename_i j e2
          obtain ⟨dp, sh⟩ := r.rdDp rv (by rw [e]; exact z.2)
          rw [e] at dp sh
          have e1 := okEq_lt z.2
          simp only [hgt] at e1
          obtain ⟨zz, h1, h2, h3⟩ := idxOfD_spec (okEq_lt z.1) (by omega) e2
          obtain ⟨q, vs, rfl, t, rl⟩ := r.rdL rv e
          exact ⟨q, u, toPy f, toPys xs, j, zz, rfl, rfl, dp, ru.dpE z.1, sh, ru.shaped z.1, h1, h2, h3, PostE.ok0 h r okI⟩
        · exact h.elim
    · exact h.elim
/-! ### methods of texts -/
theorem toS_list (z : Str) : toS z.cps.toList = z := by cases z; simp [toS]
theorem toS_len (s : Tx) : (toS s).length = s.length := by simp [toS, Str.length]
theorem repL_new {K : Kx} {ad : List Addr} {Z : Addr → Prop} {H : Hp} : ∀ {ts : List Tx}, ts.all okT = true → RepL K ad Z H (ts.map .str) ((ts.map toS).map V.str)
  | [], _ => RepL.nil
  | t :: ts, h => by
    rw [List.all_cons, Bool.and_eq_true] at h
    exact RepL.cons (okS h.1) (repL_new h.2)
theorem s_split (o : XOk p n N sc W X) {apos : Pos} (hl : (apos.endLine == pos.line) = true) (ha : PE X A (tE p n W a)) (hb : PE X B (tE p n W b)) (pa : plainA A = true) (na : notSuper A = true) (pb : plainA B = true) :
    PE X (.Call (.Attribute A "split" apos) [B] [] pos) (tE p n W (.mth .split a b)) :=
  s_mth PySem.F.plainAttrs_str PySem.F.slot_str_split PySem.F.type_str_split mt_split hl ha hb pa na pb (fun g c sl mm σ H d v r rv h => by rw [o.K]; exact recv_str rv (by cases d <;> first | rfl | exact h)) fun g c sl mm σ H d f v u Q r rv ru h => by
    simp only [binS] at h
    split at h
    · rename_i x y
      cases z : (decide (y ≠ []) && decide (x.length + 2 ≤ szl) && (splitT x y).all okT) with
      | false => simp only [z] at h; exact h.elim
      | true =>
        simp only [z, if_true] at h
        simp only [Bool.and_eq_true, decide_eq_true_eq] at z
        obtain ⟨rfl, _⟩ := repV_str rv
        obtain ⟨rfl, _⟩ := repV_str ru
        have hy : y ≠ [] := z.1.1
        refine ⟨_, _, rfl, rfl, ?_, by rw [toS_len, sz_eq]; exact z.1.2, fun w hw => ?_⟩
        · rw [toS_len]; cases y with
          | nil => exact (hy rfl).elim
          | cons _ _ => rfl
        · have e : (Txt.split (toS x) (toS y)) = (splitT x y).map toS := by
            unfold splitT
            rw [List.map_map]
            conv => lhs; rw [← List.map_id (Txt.split (toS x) (toS y))]
            exact List.map_congr_left fun q _ => (toS_list q).symm
          rw [e]
          exact PostE.newL h r (repL_new z.2) hw
    · exact h.elim
theorem s_join (o : XOk p n N sc W X) {apos : Pos} (hl : (apos.endLine == pos.line) = true) (ha : PE X A (tE p n W a)) (hb : PE X B (tE p n W b)) (pa : plainA A = true) (na : notSuper A = true) (pb : plainA B = true) :
    PE X (.Call (.Attribute A "join" apos) [B] [] pos) (tE p n W (.mth .join a b)) :=
  s_mth PySem.F.plainAttrs_str PySem.F.slot_str_join PySem.F.type_str_join mt_join hl ha hb pa na pb (fun g c sl mm σ H d v r rv h => by rw [o.K]; exact recv_str rv (by cases d <;> first | rfl | exact h)) fun g c sl mm σ H d f v u Q r rv ru h => by
    simp only [binS] at h
    split at h
    · rename_i x
      split at h
      · rename_i ys e
        split at h
        · rename_i ts e2
          cases z : (decide ((ts.map (·.length)).sum + ts.length * x.length ≤ 16777216) && okT (joinT x ts)) with
          | false => simp only [z] at h; exact h.elim
          | true =>
            simp only [z, if_true] at h
            simp only [Bool.and_eq_true, decide_eq_true_eq] at z
            obtain ⟨rfl, _⟩ := repV_str rv
            obtain ⟨q, vs, rfl, t, rl⟩ := r.rdL ru e
            have ev := repL_strs rl e2
            subst ev
            refine ⟨_, q, ts.map toS, rfl, rfl, .inl (.inl t), ?_, ?_⟩
            · rw [List.map_map, List.length_map, toS_len]
              have : (fun s => Str.length s) ∘ toS = fun (s : Tx) => s.length := by funext s; exact toS_len s
              rw [show (List.map ((fun s => s.length) ∘ toS) ts) = ts.map (·.length) from List.map_congr_left fun s _ => toS_len s]
              exact z.1
            · have e3 : Txt.join (toS x) (ts.map toS) = toS (joinT x ts) := by unfold joinT; rw [toS_list]
              rw [e3]
              exact PostE.ok0 h r (okS z.2)
        · exact h.elim
      · exact h.elim
    · exact h.elim
theorem log_small {k : Nat} (h : k < 10 ^ 60) : k.log2 < 1920 := by
  by_cases h0 : k = 0
  · subst h0; decide
  · have : k < 2 ^ 1920 := Nat.lt_of_lt_of_le h (by decide)
    exact (Nat.log2_lt h0).mpr this
theorem s_str (o : XOk p n N sc W X) {po : Pos} {x : Str} (hx : x = "str") (hg : glB sc x = true) (hm : p.mg x = none) (ha : PE X A (tE p n W a)) (pa : plainA A = true) : PE X (.Call (.Name x po) [A] [] pos) (tE p n W (.un .str a)) := by
  subst hx
  refine s_callTy o (call_str_int.or SkE.call_str_str) (by decide +kernel) hg hm ha pa fun g c sl mm σ H d v Q r rv h => ?_
  simp only [unS] at h
  split at h
  · rename_i i
    cases z : (decide (i.natAbs < 10 ^ 60) && okT (intT i)) with
    | false => simp only [z] at h; exact h.elim
    | true =>
      simp only [z, if_true] at h
      rw [Bool.and_eq_true] at z
      rw [repV_int rv]
      refine .inl ⟨i, rfl, log_small (of_decide_eq_true z.1), ?_⟩
      have e : Str.ofString (toString i) = toS (intT i) := by rw [Str.ofString_eq_toList]; rfl
      rw [e]
      exact PostE.ok0 h r (okS z.2)
  · rename_i s
    obtain ⟨rfl, t⟩ := repV_str rv
    exact .inr ⟨_, rfl, PostE.ok0 h r (okS t)⟩
  · exact h.elim
/-! ### sorted -/
theorem data_dp {X : Cx} {pins : List (Addr × Obj)} {σ : L2.St} {H : Hp} {s : Shared} (I : Inv X pins σ H s) : ∀ {ws : List V} {es : List PyData} {its : List Value}, DpAll X.K H ws es → Vals ws its →
    PySem.W.EachIs (fun (u : Value) (q : PyData × V) => RelV q.2 u) its (es.zip ws) ∧ PySem.W.EachIs (fun (u : Value) (q : PyData × V) => ∃ as, Reads s.heap u q.1 as) its (es.zip ws) ∧ (es.zip ws).map (·.1) = es
  | _, _, _, .nil, .nil => ⟨.nil, .nil, rfl⟩
  | _, _, _, .cons h hs, .cons r rs => by
    obtain ⟨a, b, e⟩ := data_dp I hs rs
    exact ⟨.cons r a, .cons (Dp.reads I _ _ _ h r) b, by simp only [List.zip_cons_cons, List.map_cons, e]⟩
theorem vals_each : ∀ {out : List Value} {bs : List (PyData × V)}, PySem.W.EachIs (fun (u : Value) (q : PyData × V) => RelV q.2 u) out bs → Vals (bs.map (·.2)) out
  | _, _, .nil => .nil
  | _, _, .cons r t => .cons r (vals_each t)
def rSortD (K : PySem.W.Frag) : List V → Hp → VK → Prop := fun vs H Q => ∃ a ws es, vs = [.ref a] ∧ Rd H a (.lst ws) ∧ DpAll K H ws es ∧ PySem.W.AllAlike es ∧ PySem.W.Sortable es ∧ (∀ e ∈ es, e.depth ≤ 64) ∧
  ∀ q, H q = none → Q (.ref q) (upd H q (.lst (((es.zip ws).mergeSort fun x y => !PySem.W.dataLt y.1 x.1).map (·.2))))
theorem cr_sortD (hu : X.A.units + 128 < cLine) : CallR X (.builtin "sorted") (rSortD X.K) := fun pins s σ H vs us Q I r h => by
  obtain ⟨a, ws, es, rfl, hl, hd, hal, hk, hdp, q⟩ := h
  obtain ⟨hz, its, nn, rv, e⟩ := rd_lst I hl
  rw [Vals.ref1 r]
  obtain ⟨e1, e2, e3⟩ := data_dp I hd rv
  have pl : PlainL s.heap a its.toArray := ⟨_, nn, e, rfl, rfl, rfl⟩
  have hlen := e1.length
  refine PySem.W.sorted_data (bs := es.zip ws) (enc := fun q : PyData × V => q.1) pl.isList e1 e2 (by rw [e3]; exact hal) (by rw [e3]; exact hk) (by rw [← hlen, ← rv.length]; exact hz) (fun b hb => ?_) fun out h1 h2 => ?_
  · have : b.1 ∈ es := by rw [← e3]; exact List.mem_map_of_mem hb
    have := hdp _ this
    show X.A.units + 2 + b.1.depth < cLine
    omega
  · obtain ⟨ep, he'⟩ := PyProof.Rows.sortedAll_at s.heap its out.toArray
    have hv := vals_each h2
    have hlen2 : ((((es.zip ws).mergeSort fun x y => !PySem.W.dataLt y.1 x.1).map (·.2))).length ≤ sizeLine := by
      rw [List.length_map, List.length_mergeSort, ← hlen, ← rv.length]; exact hz
    exact ⟨.ref _, upd H (s.heap.objs.size + 1) (.lst (((es.zip ws).mergeSort fun x y => !PySem.W.dataLt y.1 x.1).map (·.2))), I.laid (t' := s.toks) (fun _ _ => PyProof.Rows.sortedAll_old) (Nat.le_succ _) ⟨hlen2, out, ep, hv, he'⟩, rfl, q _ (I.hok.fresh (Nat.le_succ _))⟩
mutual
theorem ltD_data : ∀ x y : D, hgt x < 100 → hgt y < 100 → alikeD x y = true → PySem.W.alike (toPy x) (toPy y) = true ∧ PySem.W.dataLt (toPy x) (toPy y) = ltD x y
  | .bl a, y, _, _, h => by
    cases y with
    | bl b =>
      refine ⟨rfl, ?_⟩
      show PySem.W.dataLt (.bool a) (.bool b) = (!a && b)
      rw [PySem.W.dataLt_bool]
      cases a <;> cases b <;> rfl
    | _ => simp only [alikeD, Bool.false_eq_true] at h
  | .int a, y, _, _, h => by
    cases y <;> simp only [alikeD, Bool.false_eq_true] at h
    exact ⟨rfl, PySem.W.dataLt_int _ _⟩
  | .str a, y, _, _, h => by
    cases y <;> simp only [alikeD, Bool.false_eq_true] at h
    exact ⟨rfl, PySem.W.dataLt_str _ _⟩
  | .tup xs, y, hx, hy, h => by
    cases y <;> simp only [alikeD, Bool.false_eq_true] at h
    rename_i ys
    simp only [hgt] at hx hy
    obtain ⟨h1, h2⟩ := ltDs_data xs ys (by omega) (by omega) h
    refine ⟨h1, ?_⟩
    show PySem.W.dataLt (.tuple (toPys xs)) (.tuple (toPys ys)) = ltDs xs ys
    rw [PySem.W.dataLt_tuple]; exact h2
  | .lst xs, y, hx, hy, h => by
    cases y <;> simp only [alikeD, Bool.false_eq_true] at h
    rename_i ys
    simp only [hgt] at hx hy
    obtain ⟨h1, h2⟩ := ltDs_data xs ys (by omega) (by omega) h
    refine ⟨h1, ?_⟩
    show PySem.W.dataLt (.list (toPys xs)) (.list (toPys ys)) = ltDs xs ys
    rw [PySem.W.dataLt_list]; exact h2
  | .non, _, _, _, h => by simp only [alikeD, Bool.false_eq_true] at h
  | .dct _ _, _, _, _, h => by simp only [alikeD, Bool.false_eq_true] at h
  | .obj _ _, _, _, _, h => by simp only [alikeD, Bool.false_eq_true] at h
  | .m _, _, _, _, h => by simp only [alikeD, Bool.false_eq_true] at h
theorem ltDs_data : ∀ xs ys : List D, hgts xs < 100 → hgts ys < 100 → alikeDs xs ys = true → PySem.W.alikeAll (toPys xs) (toPys ys) = true ∧ PyProof.Rows.lexLt PyProof.Rows.itemOrd (PySem.W.keyToksAll (toPys xs)) (PySem.W.keyToksAll (toPys ys)) = ltDs xs ys
  | [], [], _, _, _ => ⟨rfl, PySem.W.dataLt_self (.tuple [])⟩
  | [], y :: ys, _, _, _ => ⟨rfl, rfl⟩
  | x :: xs, [], _, _, _ => ⟨rfl, rfl⟩
  | x :: xs, y :: ys, hx, hy, h => by
    simp only [hgts] at hx hy
    simp only [alikeDs, Bool.and_eq_true] at h
    obtain ⟨h1, h2⟩ := ltD_data x y (by omega) (by omega) h.1
    obtain ⟨h3, h4⟩ := ltDs_data xs ys (by omega) (by omega) h.2
    refine ⟨?_, ?_⟩
    · show (PySem.W.alike (toPy x) (toPy y) && PySem.W.alikeAll (toPys xs) (toPys ys)) = true
      rw [h1, h3]; rfl
    · show PyProof.Rows.lexLt PyProof.Rows.itemOrd (PySem.W.keyToksAll (toPy x :: toPys xs)) (PySem.W.keyToksAll (toPy y :: toPys ys)) = if eqD x y then ltDs xs ys else ltD x y
      rw [PySem.W.dataLt_cons h1, eqv_toPy x y (by omega) (by omega), h4, h2]
end
theorem toPys_mem : ∀ {xs : List D} {e : PyData}, e ∈ toPys xs → ∃ x ∈ xs, e = toPy x
  | [], _, h => by simp [toPys] at h
  | x :: xs, e, h => by
    rcases List.mem_cons.mp h with h | h
    · exact ⟨x, by simp, h⟩
    · obtain ⟨y, hy, e'⟩ := toPys_mem h
      exact ⟨y, by simp [hy], e'⟩
theorem zip_toPys : ∀ (xs : List D) (vs : List V), (toPys xs).zip vs = (xs.zip vs).map fun q => (toPy q.1, q.2)
  | [], _ => rfl
  | _ :: _, [] => rfl
  | x :: xs, v :: vs => by
    show (toPy x, v) :: (toPys xs).zip vs = _
    rw [zip_toPys xs vs]; rfl
theorem repL_pairs {K : Kx} {ad : List Addr} {Z : Addr → Prop} {H : Hp} : ∀ {ps : List (D × V)}, (∀ q ∈ ps, RepV K ad Z H q.1 q.2) → RepL K ad Z H (ps.map (·.1)) (ps.map (·.2))
  | [], _ => RepL.nil
  | q :: ps, h => RepL.cons (h q (by simp)) (repL_pairs fun r hr => h r (by simp [hr]))
theorem repL_zip {K : Kx} {ad : List Addr} {Z : Addr → Prop} {H : Hp} : ∀ {xs : List D} {vs : List V}, RepL K ad Z H xs vs → (∀ q ∈ xs.zip vs, RepV K ad Z H q.1 q.2) ∧ (xs.zip vs).map (·.1) = xs
  | [], _, h => by simp
  | x :: xs, _, h => by
    simp only [RepL] at h
    obtain ⟨v, t, rfl, h1, h2⟩ := h
    obtain ⟨a, b⟩ := repL_zip h2
    refine ⟨fun q hq => ?_, by simp [b]⟩
    rcases List.mem_cons.mp hq with rfl | hq
    · exact h1
    · exact a q hq
theorem s_sorted (o : XOk p n N sc W X) {po : Pos} {x : Str} (hx : x = "sorted") (hg : glB sc x = true) (hm : p.mg x = none) (ha : PE X A (tE p n W a)) (pa : plainA A = true) : PE X (.Call (.Name x po) [A] [] pos) (tE p n W (.un .sorted a)) := by
  subst hx
  refine s_callB o (cr_sortD (by have := o.room.un; omega)) (by decide +kernel) hg hm ha pa fun g c sl mm σ H d v Q r rv h => ?_
  simp only [unS] at h
  rw [o.K]
  split at h
  · rename_i xs e
    obtain ⟨q, vs, rfl, t, rl⟩ := r.rdL rv e
    cases z : okSort xs with
    | false => simp only [z] at h; exact h.elim
    | true =>
      simp only [z, if_true] at h
      unfold okSort at z
      simp only [Bool.and_eq_true] at z
      obtain ⟨⟨z1, z2⟩, z3⟩ := z
      have hh : ∀ y ∈ xs, hgt y ≤ 64 := fun y hy => of_decide_eq_true (List.all_eq_true.mp z2 y hy)
      have hal : ∀ y ∈ xs, ∀ w ∈ xs, alikeD y w = true := fun y hy w hw => List.all_eq_true.mp (List.all_eq_true.mp z1 y hy) w hw
      have hhs : ∀ l : List D, (∀ y ∈ l, hgt y ≤ 64) → hgts l < 100 := by
        intro l
        induction l with
        | nil => intro _; simp [hgts]
        | cons y l ih =>
          intro hl
          have h1 := hl y (by simp)
          have h2 := ih fun w hw => hl w (by simp [hw])
          simp only [hgts]; omega
      have hs := hhs xs hh
      refine ⟨q, vs, toPys xs, rfl, t, RepL.dp xs vs hs rl, fun d1 h1 d2 h2 => ?_, ?_, fun d1 h1 => ?_, fun w hw => ?_⟩
      · obtain ⟨y1, m1, rfl⟩ := toPys_mem h1
        obtain ⟨y2, m2, rfl⟩ := toPys_mem h2
        have := hh y1 m1
        have := hh y2 m2
        exact (ltD_data y1 y2 (by omega) (by omega) (hal y1 m1 y2 m2)).1
      · rw [Bool.or_eq_true] at z3
        rcases z3 with z3 | z3
        · left
          intro d1 h1
          obtain ⟨y1, m1, rfl⟩ := toPys_mem h1
          have := List.all_eq_true.mp z3 y1 m1
          cases y1 <;> simp only [isTup1, Bool.false_eq_true] at this
          rename_i zs
          cases zs with
          | nil => simp only [isTup1, Bool.false_eq_true] at this
          | cons z0 zs => exact ⟨toPy z0, toPys zs, rfl⟩
        · right
          intro d1 h1
          obtain ⟨y1, m1, rfl⟩ := toPys_mem h1
          have h3 := List.all_eq_true.mp z3 y1 m1
          have h4 := hal y1 m1 y1 m1
          cases y1 <;> simp only [notTup, alikeD, Bool.false_eq_true] at h3 h4 <;> exact ⟨fun z => (by cases z), fun zs z => (by cases z)⟩
      · obtain ⟨y1, m1, rfl⟩ := toPys_mem h1
        have := hh y1 m1
        rw [depth_toPy y1 (by omega)]; exact this
      · obtain ⟨hz1, hz2⟩ := repL_zip rl
        have e1 : ((toPys xs).zip vs).mergeSort (fun x y => !PySem.W.dataLt y.1 x.1) = ((xs.zip vs).mergeSort (fun x y => leD x.1 y.1)).map fun q => (toPy q.1, q.2) := by
          rw [zip_toPys]
          refine (List.map_mergeSort fun u hu w hw => ?_).symm
          have m1 : u.1 ∈ xs := by rw [← hz2]; exact List.mem_map_of_mem hu
          have m2 : w.1 ∈ xs := by rw [← hz2]; exact List.mem_map_of_mem hw
          have := hh _ m1
          have := hh _ m2
          show leD u.1 w.1 = !PySem.W.dataLt (toPy w.1) (toPy u.1)
          rw [(ltD_data w.1 u.1 (by omega) (by omega) (hal _ m2 _ m1)).2]; rfl
        have e2 : xs.mergeSort leD = ((xs.zip vs).mergeSort (fun x y => leD x.1 y.1)).map (·.1) := by
          conv => lhs; rw [← hz2]
          exact (List.map_mergeSort (f := fun q : D × V => q.1) fun _ _ _ _ => rfl).symm
        rw [e1, List.map_map]
        rw [e2] at h
        refine PostE.newL h r (repL_pairs fun u hu => hz1 u ?_) hw
        exact (List.mergeSort_perm _ _).mem_iff.mp hu
  · exact h.elim
end
end Mp
/-! Mp6: tests, slices, calls. -/
namespace Mp
open PySem PySem.Spec
open PyProof.Rows L2
section
variable {p : Pg} {n : Nat} {N : List Str} {sc : Scope} {W : WX} {X : Cx} {A B C : Expr} {a b c : E} {pos : Pos}
/-! ### isinstance -/
def tyN : Ty → Option String
  | .bool => some "bool"
  | .int => some "int"
  | .str => some "str"
  | .tuple => some "tuple"
  | .list => some "list"
  | .dict => some "dict"
  | .cls _ => none
theorem tyx_rd {K : Kx} {H : Hp} {q : Addr} {vs : List V} (h : Rd H q (.lst vs)) : TyX K H (.ref q) (.type "list") := by
  rcases h with h | ⟨o, h⟩
  · exact .base (.lst h)
  · exact .base (.frz h)
theorem tyx_tup {K : Kx} {H : Hp} {q : Addr} {vs : List V} (h : SqT K H q vs) : TyX K H (.ref q) (.type "tuple") := by
  rcases h with (h | ⟨o, h⟩) | ⟨o, its, n, h1, h2, _⟩
  · exact .base (.tup h)
  · exact .fTuple h
  · exact .kTuple h1 h2
theorem Rep.rd_ne_m {K : Kx} {g : Gh} {cc : Cf} {sl : Sl} {mm : Mm} {σ : L2.St} {H : Hp} {d : D} {v : V} {k : Nat} (r : Rep K g cc sl mm σ H) (rv : RepV K cc.ad cc.Z H d v) : rd mm d ≠ .m k := fun q => by
  cases d with
  | m j =>
    simp only [RepV] at rv
    obtain ⟨a, ha, rfl⟩ := rv
    have hl : j < mm.length := by rw [← r.lenA]; exact (List.getElem?_eq_some_iff.mp ha).1
    have qk : mm[j]? = some mm[j] := List.getElem?_eq_getElem hl
    have ob := r.obj j a _ ha qk
    have er : rd mm (.m j) = mm[j].val := by simp only [rd, qk]
    rw [er] at q
    cases hx : mm[j] with
    | mu d =>
      rw [hx] at ob q
      simp only [M.val] at q; subst q
      have := ob.2.1
      simp [pureD] at this
    | fz d =>
      rw [hx] at ob q
      simp only [M.val] at q; subst q
      have := ob.2.1
      simp [pureD] at this
  | _ => simp only [rd] at q; cases q
theorem isTy_ok {K : Kx} {g : Gh} {cc : Cf} {sl : Sl} {mm : Mm} {σ : L2.St} {H : Hp} {d : D} {v : V} {t : Ty} {b : Bool} {T : String} (r : Rep K g cc sl mm σ H) (rv : RepV K cc.ad cc.Z H d v) (hd : isDct (rd mm d) = false) (e : isTy t (rd mm d) = some b) (hT : tyN t = some T) :
    ∃ w, TyX K H v w ∧ PySem.W.kitOne K w (.type T) = some b := by
  cases q : rd mm d with
  | lst xs =>
    obtain ⟨a, vs, rfl, h, _⟩ := r.rdL rv q
    rw [q] at e
    refine ⟨_, tyx_rd h, ?_⟩
    cases t <;> simp only [tyN, Option.some.injEq, reduceCtorEq] at hT <;> subst hT <;> simp only [isTy, Option.some.injEq] at e <;> subst e <;> exact kit_ty (by decide +kernel)
  | tup xs =>
    obtain ⟨a, vs, rfl, h, _⟩ := r.rdT rv q
    rw [q] at e
    refine ⟨_, tyx_tup h, ?_⟩
    cases t <;> simp only [tyN, Option.some.injEq, reduceCtorEq] at hT <;> subst hT <;> simp only [isTy, Option.some.injEq] at e <;> subst e <;> exact kit_ty (by decide +kernel)
  | dct ks xs => rw [q] at hd; cases hd
  | dtu ks xs => rw [q] at hd; cases hd
  | _ =>
    rcases r.rdV rv (fun xs z => by rw [q] at z; cases z) (fun ks xs z => by rw [q] at z; cases z) with z | ⟨k, xs, _, z⟩
    · rw [q] at z; subst z
      rw [q] at e
      have rv0 := rv
      unfold RepV at rv
      first
        | (subst rv; refine ⟨_, .base (.non), ?_⟩; cases t <;> simp only [tyN, Option.some.injEq, reduceCtorEq] at hT <;> subst hT <;> simp only [isTy, Option.some.injEq] at e <;> subst e <;> exact kit_ty (by decide +kernel))
        | (subst rv; refine ⟨_, .base (.bl _), ?_⟩; cases t <;> simp only [tyN, Option.some.injEq, reduceCtorEq] at hT <;> subst hT <;> simp only [isTy, Option.some.injEq] at e <;> subst e <;> exact kit_ty (by decide +kernel))
        | (subst rv; refine ⟨_, .base (.int _), ?_⟩; cases t <;> simp only [tyN, Option.some.injEq, reduceCtorEq] at hT <;> subst hT <;> simp only [isTy, Option.some.injEq] at e <;> subst e <;> exact kit_ty (by decide +kernel))
        | (obtain ⟨rfl, _⟩ := rv; refine ⟨_, .base (.str _), ?_⟩; cases t <;> simp only [tyN, Option.some.injEq, reduceCtorEq] at hT <;> subst hT <;> simp only [isTy, Option.some.injEq] at e <;> subst e <;> exact kit_ty (by decide +kernel))
        | exact rv.elim
        | exact (r.rd_ne_m rv0 q).elim
    · rw [q] at z; cases z
theorem s_isi (o : XOk p n N sc W X) {po p2 : Pos} {x y : Str} {t : Ty} {T : String} (hT : tyN t = some T) (hx : x = "isinstance") (hg : glB sc x = true) (hm : p.mg x = none) (hg2 : glB sc y = true) (hm2 : p.mg y = none) (hb : bootBuiltins y = some (.type T))
    (ha : PE X A (tE p n W a)) (pa : plainA A = true) : PE X (.Call (.Name x po) [A, .Name y p2] [] pos) (tE p n W (.un (.isi t) a)) := by
  subst hx
  have hy : PE X (.Name y p2) (tC (.ty T)) := pe_bltn (o.gl hg2) (by rw [o.mg]; exact hm2) hb rfl (nm_nm (gl_nm hg2)) (nm_deb (gl_nm hg2))
  refine PEimp (pe_callB call_isi (o.gl hg) (by rw [o.mg]; exact hm) (by decide +kernel) (pa_cons ha (pa_cons hy pa_nil (star_plain rfl _ _)) (star_plain pa _ _)) (nm_nm (gl_nm hg)) (nm_deb (gl_nm hg)) (star_plain pa _ _) (star_none (by simp [plainA]) _ _)) fun σ H Q ⟨g, c, sl, mm, r, h⟩ => ?_
  simp only [semE] at h
  refine ⟨g, c, sl, mm, r, PostE.bind h fun c1 d mm1 v H1 l1 r1 rv h1 => ?_⟩
  simp only [unS] at h1
  cases hd : isDct (rd mm1 d) with
  | true => simp only [hd] at h1; exact h1.elim
  | false =>
    simp only [hd] at h1
    split at h1
    · rename_i b e
      obtain ⟨w, tx, kt⟩ := isTy_ok r1 rv hd e hT
      rw [o.K]
      exact ⟨v, .ty T, w, .type T, b, rfl, .ty T, tx, kt, PostE.ok0 h1 r1 okB⟩
    · exact h1.elim
/-! ### a constant tuple's index, list(range(a, b)) -/
theorem idxOfT_spec {x : Tx} : ∀ {xs : List Tx} {j : Nat}, idxOfT x xs = some j → (xs.map toS)[j]? = some (toS x) ∧ ∀ m, m < j → (xs.map toS)[m]? ≠ some (toS x)
  | [], _, e => by simp [idxOfT] at e
  | y :: ys, j, e => by
    simp only [idxOfT] at e
    by_cases q : x = y
    · rw [if_pos q] at e
      simp only [Option.some.injEq] at e
      subst e; subst q
      exact ⟨rfl, fun m hm => by omega⟩
    · rw [if_neg q] at e
      cases q2 : idxOfT x ys with
      | none => rw [q2] at e; simp at e
      | some i =>
        rw [q2] at e
        simp only [Option.map_some, Option.some.injEq] at e
        subst e
        obtain ⟨h1, h2⟩ := idxOfT_spec q2
        refine ⟨by simpa using h1, fun m hm z => ?_⟩
        cases m with
        | zero =>
          have : toS y = toS x := by simpa using z
          exact q (toS_inj this).symm
        | succ m => exact h2 m (by omega) (by simpa using z)
theorem allStr_map : ∀ {xs : List D} {ts : List Tx}, allStr xs = some ts → xs = ts.map .str
  | [], _, e => by simp only [allStr, Option.some.injEq] at e; subst e; rfl
  | x :: xs, ts, e => by
    cases x <;> simp only [allStr] at e <;> try (cases e)
    rename_i b
    cases q : allStr xs with
    | none => rw [q] at e; simp at e
    | some cs =>
      rw [q] at e
      simp only [Option.map_some, Option.some.injEq] at e
      subst e
      rw [allStr_map q]; rfl
def strsG (d : D) : Option (List Tx) := match d with
  | .tup xs => allStr xs
  | _ => none
theorem s_tix (o : XOk p n N sc W X) {i : Nat} {xs : List Tx} {apos p2 : Pos} (hl : (apos.endLine == pos.line) = true) (hd : p.gdom i = true) (hs : strsG (p.gv i) = some xs) (hg : glB sc (p.gn i) = true) (hb : PE X B (tE p n W b)) (pb : plainA B = true) :
    PE X (.Call (.Attribute (.Name (p.gn i) p2) "index" apos) [B] [] pos) (tE p n W (.un (.tix i xs) b)) := by
  obtain ⟨u, v, hm, rv, hp, hr⟩ := o.gls i hd
  have ho : PE X (.Name (p.gn i) p2) (tC v) := pe_glob (o.gl hg) (by rw [o.mg]; exact hm) rv (nm_deb (gl_nm hg))
  refine PEimp (pe_bm PySem.F.plainAttrs_tuple PySem.F.slot_tuple_index PySem.F.type_tuple_index mt_tup_index ho (pa_cons hb pa_nil (star_plain pb _ _)) (base_plain rfl rfl _ _) (few_one pb _ _) hl (star_plain pb _ _) (star_none (by simp) _ _)) fun σ H Q ⟨g, c, sl, mm, r, h⟩ => ?_
  simp only [semE] at h
  have hr' := hr H
  cases eg : p.gv i <;> rw [eg] at hs <;> simp only [strsG] at hs <;> try (cases hs)
  rename_i ds
  rw [eg] at hr'
  simp only [RepV] at hr'
  obtain ⟨q, vs, rfl, t, rl⟩ := hr'
  rcases t with ⟨z, _⟩ | ⟨ob, its, nn, k1, k2, k3, k4, k5, k6⟩
  · exact z.elim
  have ev := repL_strs rl hs
  subst ev
  refine ⟨?_, g, c, sl, mm, r, PostE.bind h fun c1 d mm1 w H1 l1 r1 rw' h1 => ?_⟩
  · rw [o.K]; exact .inr (.inl ⟨rfl, ob, k1, k2, k3⟩)
  simp only [unS] at h1
  split at h1
  · rename_i x
    split at h1
    · rename_i j e
      obtain ⟨e1, e2⟩ := idxOfT_spec e
      rw [(repV_str rw').1, o.K]
      exact ⟨q, xs.map toS, toS x, j, rfl, rfl, .inr ⟨ob, its, nn, k1, k2, k4, k5, k6⟩, e1, e2, PostE.ok0 h1 r1 okI⟩
    · exact h1.elim
  · exact h1.elim
theorem rgV_rep {K : Kx} {ad : List Addr} {Z : Addr → Prop} {H : Hp} (i : Int) (k : Nat) : RepL K ad Z H (rngL i k) ((List.range k).map fun m => V.int (i + (m : Nat))) := by
  unfold rngL
  generalize List.range k = l
  induction l with
  | nil => exact RepL.nil
  | cons m l ih => exact RepL.cons okI ih
theorem s_lrng (o : XOk p n N sc W X) {po p2 q2 : Pos} {x y : Str} (hx : x = "list") (hy : y = "range") (hg : glB sc x = true) (hm : p.mg x = none) (hg2 : glB sc y = true) (hm2 : p.mg y = none)
    (ha : PE X A (tE p n W a)) (hb : PE X B (tE p n W b)) (pa : plainA A = true) (pb : plainA B = true) : PE X (.Call (.Name x po) [.Call (.Name y p2) [A, B] [] q2] [] pos) (tE p n W (.bin .lrng a b)) := by
  subst hx; subst hy
  refine PEimp (pe_listRg o.calm (o.gl hg) (by rw [o.mg]; exact hm) (prg_2 (o.gl hg2) (by rw [o.mg]; exact hm2) ha hb (star_plain pa _ _) (star_plain pb _ _) (star_none (by simp [pb]) _ _)) (star_plain rfl _ _)) fun σ H Q ⟨g, c, sl, mm, r, h⟩ => ?_
  simp only [semE] at h
  refine ⟨g, c, sl, mm, r, PostE.bind h fun c1 d mm1 v H1 l1 r1 rv h1 => ⟨g, c1, sl, mm1, r1, PostE.bind h1 fun c2 f mm2 u H2 l2 r2 ru h2 => ?_⟩⟩
  have rv2 := RepV.le l2 _ _ rv
  simp only [binS] at h2
  split at h2
  · rename_i i j
    cases z : (decide (0 ≤ i) && decide (i ≤ 16777216) && decide (0 ≤ j) && decide (j ≤ 16777216)) with
    | false => simp only [z] at h2; exact h2.elim
    | true =>
      simp only [z, if_true] at h2
      simp only [Bool.and_eq_true, decide_eq_true_eq] at z
      rw [repV_int rv2, repV_int ru]
      exact ⟨i, j, rfl, rfl, RgOk.of_le z.1.1.1 z.2 z.1.1.2 z.1.2, fun w hw => PostE.newL h2 r2 (rgV_rep i _) hw⟩
  · exact h2.elim
/-! ### slices -/
def PostO (p : Pg) (g : Gh) (no : Bool) (c : Cf) (sl : Sl) (σ : L2.St) (H : Hp) (W : WX) (Q : Option Int → Hp → Prop) : Option RE → Prop
  | none => False
  | some (.ok d mm) => ∃ l, partS no d = some l ∧ ∀ c' H', c.Le H c' H' → Rep p.K g c' sl mm σ H' → Q l H'
  | some (.ex x mm) => ∀ c' dd H', c.Le H c' H' → Rep p.K g c' sl mm σ H' → RepX x dd → W (.ref (p.ea x.cls)) dd σ H'
def tO (p : Pg) (n : Nat) (W : WX) (e : E) : TO := fun σ H Q => ∃ g c sl mm, Rep p.K g c sl mm σ H ∧ PostO p g (isNo e) c sl σ H W Q (semE p.gv (p.cf n) e sl mm)
theorem o_no : PO X none (tO p n W .no) := ⟨fun pins s σ H Q I ⟨g, c, sl, mm, r, h⟩ => po_none.run pins s σ H Q I (by
  simp only [semE, okE, isNo, PostO] at h
  obtain ⟨l, e, h⟩ := h
  simp only [partS, if_true, Option.some.injEq] at e
  subst e
  exact h c H .refl r)⟩
theorem o_some (ha : PE X A (tE p n W a)) (hn : isNo a = false) : PO X (some A) (tO p n W a) := ⟨fun pins s σ H Q I ⟨g, c, sl, mm, r, h⟩ => (po_some ha).run pins s σ H Q I (by
  refine ⟨g, c, sl, mm, r, ?_⟩
  rw [hn] at h
  cases q : semE p.gv (p.cf n) a sl mm with
  | none => rw [q] at h; exact h
  | some x =>
    rw [q] at h
    cases x with
    | ex x mm1 => exact h
    | ok d mm1 =>
      obtain ⟨l, e, h⟩ := h
      cases d <;> simp only [partS, Bool.false_eq_true, if_false, reduceCtorEq, Option.some.injEq] at e
      subst e
      exact fun c' v H' l r' rv => ⟨_, repV_int rv, h c' H' l r'⟩)⟩
theorem PostE.part {g : Gh} {cc : Cf} {sl : Sl} {σ : L2.St} {H : Hp} {Q : VK} {Q' : Option Int → Hp → Prop} {no : Bool} {r : Option RE} {f : Option Int → Mm → Option RE}
    (h : PostE p g cc sl σ H W Q (bindE r fun d mm => match partS no d with | none => none | some l => f l mm))
    (i : ∀ c1 l mm1 H1, cc.Le H c1 H1 → Rep p.K g c1 sl mm1 σ H1 → PostE p g c1 sl σ H1 W Q (f l mm1) → Q' l H1) : PostO p g no cc sl σ H W Q' r := by
  cases r with
  | none => exact h
  | some r =>
    cases r with
    | ex x mm => exact h
    | ok d mm =>
      simp only [bindE] at h
      cases e : partS no d with
      | none => simp only [e] at h; exact h.elim
      | some l =>
        simp only [e] at h
        exact ⟨l, e, fun c' H' le r' => i c' l mm H' le r' (PostE.from h le)⟩
/-- what a slice asks -/
def rSlc (K : PySem.W.Frag) : V → Option Int → Option Int → Hp → VK → Prop := fun x lo hi H Q => rSlL K x lo hi H Q ∨ (rSlA K x lo hi H Q ∨ rSlS x lo hi H Q)
theorem sl_both : SlR X (rSlc X.K) := sl_list.or (sl_tupA.or sl_str)
theorem cutD_all {xs : List D} {lo hi : Option Int} (h : HT.sIx xs.length 0 lo = 0 ∧ HT.sIx xs.length xs.length hi = xs.length) : cutD xs lo hi = xs := by
  unfold cutD
  rw [h.1, h.2]; simp
theorem slc_ok {g : Gh} {cc : Cf} {sl : Sl} {mm : Mm} {σ : L2.St} {H : Hp} {d : D} {v : V} {Q : VK} {lo hi : Option Int} (o : XOk p n N sc W X) (r : Rep p.K g cc sl mm σ H) (rv : RepV p.K cc.ad cc.Z H d v) (h : PostE p g cc sl σ H W Q (slcS d lo hi mm)) : rSlc X.K v lo hi H Q := by
  unfold slcS at h
  split at h
  · rename_i xs e
    obtain ⟨q, vs, rfl, t, rl⟩ := r.rdL rv e
    rw [o.K]
    exact .inl ⟨q, vs, rfl, .inl t, fun w hw => PostE.newL h r (rl.cut lo hi) hw⟩
  · rename_i xs e
    obtain ⟨q, vs, rfl, t, rl⟩ := r.rdT rv e
    rw [o.K]
    refine .inr (.inl ⟨q, vs, rfl, t, fun hw => ?_, fun _ w hw => PostE.newT h r (rl.cut lo hi) hw⟩)
    rw [rl.len] at hw
    rw [cutD_all hw] at h
    cases d with
    | tup ys => simp only [rd] at e; cases e; exact PostE.ok0 h r rv
    | m k =>
      simp only [RepV] at rv
      obtain ⟨w, hw, ew'⟩ := rv
      cases ew'
      have hl : k < mm.length := by rw [← r.lenA]; exact (List.getElem?_eq_some_iff.mp hw).1
      have qk : mm[k]? = some mm[k] := List.getElem?_eq_getElem hl
      have ob := r.obj k _ _ hw qk
      have er : rd mm (.m k) = mm[k].val := by simp only [rd, qk]
      rw [er] at e
      cases hx : mm[k] with
      | mu d =>
        rw [hx] at ob e
        simp only [M.val] at e; subst e
        have := ob.2.2
        simp only [RepM] at this
      | fz d =>
        rw [hx] at ob e
        simp only [M.val] at e; subst e
        exact PostE.ok0 h r ob.2.2
    | _ => simp only [rd] at e; cases e
  · rename_i s e
    have e' := r.rdS rv e
    subst e'
    obtain ⟨rfl, t⟩ := repV_str rv
    split at h
    · rename_i hz
      refine .inr (.inr ⟨_, rfl, by rw [toS_len, sz_eq]; exact hz, ?_⟩)
      have e3 : cutS (toS s) lo hi = toS (cutD s lo hi) := by
        unfold cutS cutD
        rw [toS_len]
        simp [toS]
      rw [e3]
      refine PostE.ok0 h r (okS ?_)
      unfold okT cutD at *
      rw [List.all_eq_true] at t ⊢
      exact fun x hx => t x (List.mem_of_mem_drop (List.mem_of_mem_take hx))
    · exact h.elim
  · exact h.elim
theorem s_slc (o : XOk p n N sc W X) {LO HI : Option Expr} {p2 : Pos} (ha : PE X A (tE p n W a)) (hb : PO X LO (tO p n W b)) (hc : PO X HI (tO p n W c)) : PE X (.Subscript A (.Slice LO HI none p2) pos) (tE p n W (.slc a b c)) :=
  PEimp (pe_slice sl_both ha hb hc) fun σ H Q ⟨g, cc, sl, mm, r, h⟩ => by
    simp only [semE] at h
    refine ⟨g, cc, sl, mm, r, PostE.bind h fun c1 d mm1 v H1 l1 r1 rv h1 => ⟨g, c1, sl, mm1, r1, PostE.part h1 fun c2 lo mm2 H2 l2 r2 h2 => ⟨g, c2, sl, mm2, r2, PostE.part h2 fun c3 hi mm3 H3 l3 r3 h3 => ?_⟩⟩⟩
    exact slc_ok o r3 (RepV.le (l2.trans l3) _ _ rv) h3
/-! ### tests -/
def PostT (p : Pg) (g : Gh) (c : Cf) (sl : Sl) (σ : L2.St) (H : Hp) (W : WX) (Q : Bool → Hp → Prop) (r : Option RE) : Prop := PostB p g c sl σ H W Q r
theorem PostB.imp {g : Gh} {cc : Cf} {sl : Sl} {σ : L2.St} {H : Hp} {Q Q' : Bool → Hp → Prop} {r : Option RE} (h : PostB p g cc sl σ H W Q r) (i : ∀ b H', Q b H' → Q' b H') : PostB p g cc sl σ H W Q' r := by
  cases r with
  | none => exact h
  | some r =>
    cases r with
    | ex x mm => exact h
    | ok d mm => cases d <;> first | exact fun c' H' l r => i _ _ (h c' H' l r) | exact h
theorem PostB.from {g : Gh} {cc c' : Cf} {sl : Sl} {σ : L2.St} {H H' : Hp} {Q : Bool → Hp → Prop} {r : Option RE} (h : PostB p g cc sl σ H W Q r) (l : cc.Le H c' H') : PostB p g c' sl σ H' W Q r := by
  cases r with
  | none => exact h
  | some r =>
    cases r with
    | ex x mm => exact fun c2 dd H2 l2 r q => h c2 dd H2 (l.trans l2) r q
    | ok d mm => cases d <;> first | exact fun c2 H2 l2 r => h c2 H2 (l.trans l2) r | exact h
/-- a value that is a truth value, as a test -/
theorem PostB.val {g : Gh} {cc : Cf} {sl : Sl} {σ : L2.St} {H : Hp} {Q : Bool → Hp → Prop} {r : Option RE} (h : PostB p g cc sl σ H W Q r) : PostE p g cc sl σ H W (fun x H' => ∃ k, x = .bl k ∧ Q k H') r := by
  cases r with
  | none => exact h
  | some r =>
    cases r with
    | ex x mm => exact h
    | ok d mm => cases d <;> first | exact fun c' v H' l r rv => ⟨_, repV_bl rv, h c' H' l r⟩ | exact h.elim
theorem t_val (ha : PE X A (tE p n W a)) (hv : valA A = true) : PT X A (tB p n W a) :=
  PTimp (pt_val ha (truth_plain hv X.env)) fun σ H Q ⟨g, c, sl, mm, r, h⟩ => ⟨g, c, sl, mm, r, h.val⟩
/-- first a test, then whatever hangs on it -/
theorem PostE.test {g : Gh} {cc : Cf} {sl : Sl} {σ : L2.St} {H : Hp} {Q : VK} {Q' : Bool → Hp → Prop} {r : Option RE} {f : D → Mm → Option RE} (hf : ∀ d mm, (∀ b, d ≠ .bl b) → f d mm = none)
    (h : PostE p g cc sl σ H W Q (bindE r f)) (i : ∀ c1 b mm1 H1, cc.Le H c1 H1 → Rep p.K g c1 sl mm1 σ H1 → PostE p g c1 sl σ H1 W Q (f (.bl b) mm1) → Q' b H1) : PostB p g cc sl σ H W Q' r := by
  cases r with
  | none => exact h
  | some r =>
    cases r with
    | ex x mm => exact h
    | ok d mm =>
      simp only [bindE] at h
      by_cases hb : ∃ b, d = .bl b
      · obtain ⟨b, rfl⟩ := hb
        exact fun c' H' le r' => i c' b mm H' le r' (PostE.from h le)
      · rw [hf d mm fun b e => hb ⟨b, e⟩] at h
        exact h.elim
theorem PostB.test {g : Gh} {cc : Cf} {sl : Sl} {σ : L2.St} {H : Hp} {Q : Bool → Hp → Prop} {Q' : Bool → Hp → Prop} {r : Option RE} {f : D → Mm → Option RE} (hf : ∀ d mm, (∀ b, d ≠ .bl b) → f d mm = none)
    (h : PostB p g cc sl σ H W Q (bindE r f)) (i : ∀ c1 b mm1 H1, cc.Le H c1 H1 → Rep p.K g c1 sl mm1 σ H1 → PostB p g c1 sl σ H1 W Q (f (.bl b) mm1) → Q' b H1) : PostB p g cc sl σ H W Q' r := by
  cases r with
  | none => exact h
  | some r =>
    cases r with
    | ex x mm => exact h
    | ok d mm =>
      simp only [bindE] at h
      by_cases hb : ∃ b, d = .bl b
      · obtain ⟨b, rfl⟩ := hb
        exact fun c' H' le r' => i c' b mm H' le r' (PostB.from h le)
      · rw [hf d mm fun b e => hb ⟨b, e⟩] at h
        exact h.elim
theorem s_not (ha : PE X A (tE p n W a)) : PE X (.UnaryOp .Not A pos) (tE p n W (.not a)) :=
  PEimp (pe_not ha) fun σ H Q ⟨g, cc, sl, mm, r, h⟩ => by
    simp only [semE] at h
    refine ⟨g, cc, sl, mm, r, PostE.bind h fun c1 d mm1 v H1 l1 r1 rv h1 => ?_⟩
    cases d <;> try exact h1.elim
    exact ⟨_, repV_bl rv, PostE.ok0 h1 r1 okB⟩
theorem t_not (ha : PT X A (tB p n W a)) : PT X (.UnaryOp .Not A pos) (tB p n W (.not a)) :=
  PTimp (pt_not ha) fun σ H Q ⟨g, cc, sl, mm, r, h⟩ => by
    simp only [semE] at h
    refine ⟨g, cc, sl, mm, r, PostB.test (fun d mm hd => by cases d <;> first | rfl | exact (hd _ rfl).elim) h fun c1 b mm1 H1 l1 r1 h1 => ?_⟩
    exact h1 c1 H1 .refl r1
theorem s_one {op : BoolOp} (ha : PE X A (tE p n W a)) : PE X (.BoolOp op [A] pos) (tE p n W a) := pe_one ha
theorem s_and {R : List Expr} (ha : PE X A (tE p n W a)) (hb : PE X (.BoolOp .And (B :: R) pos) (tE p n W b)) : PE X (.BoolOp .And (A :: B :: R) pos) (tE p n W (.and a b)) :=
  PEimp (pe_and ha hb) fun σ H Q ⟨g, cc, sl, mm, r, h⟩ => by
    simp only [semE] at h
    refine ⟨g, cc, sl, mm, r, PostE.bind h fun c1 d mm1 v H1 l1 r1 rv h1 => ?_⟩
    cases d <;> try exact h1.elim
    rename_i k
    refine ⟨k, repV_bl rv, ?_⟩
    cases k
    · exact PostE.ok0 h1 r1 okB
    · exact ⟨g, c1, sl, mm1, r1, h1⟩
theorem s_or {R : List Expr} (ha : PE X A (tE p n W a)) (hb : PE X (.BoolOp .Or (B :: R) pos) (tE p n W b)) : PE X (.BoolOp .Or (A :: B :: R) pos) (tE p n W (.or a b)) :=
  PEimp (pe_or ha hb) fun σ H Q ⟨g, cc, sl, mm, r, h⟩ => by
    simp only [semE] at h
    refine ⟨g, cc, sl, mm, r, PostE.bind h fun c1 d mm1 v H1 l1 r1 rv h1 => ?_⟩
    cases d <;> try exact h1.elim
    rename_i k
    refine ⟨k, repV_bl rv, ?_⟩
    cases k
    · exact ⟨g, c1, sl, mm1, r1, h1⟩
    · exact PostE.ok0 h1 r1 okB
theorem w_and {R : List Expr} (ha : PT X A (tB p n W a)) (hb : PW X (.BoolOp .And (B :: R) pos) (tB p n W b)) : PW X (.BoolOp .And (A :: B :: R) pos) (tB p n W (.and a b)) :=
  PWimp (pw_and ha hb) fun σ H Q ⟨g, cc, sl, mm, r, h⟩ => by
    simp only [semE] at h
    refine ⟨g, cc, sl, mm, r, PostB.test (fun d mm hd => by cases d <;> first | rfl | exact (hd _ rfl).elim) h fun c1 b mm1 H1 l1 r1 h1 => ?_⟩
    cases b
    · exact h1 c1 H1 .refl r1
    · exact ⟨g, c1, sl, mm1, r1, h1⟩
theorem w_or {R : List Expr} (ha : PT X A (tB p n W a)) (hb : PW X (.BoolOp .Or (B :: R) pos) (tB p n W b)) : PW X (.BoolOp .Or (A :: B :: R) pos) (tB p n W (.or a b)) :=
  PWimp (pw_or ha hb) fun σ H Q ⟨g, cc, sl, mm, r, h⟩ => by
    simp only [semE] at h
    refine ⟨g, cc, sl, mm, r, PostB.test (fun d mm hd => by cases d <;> first | rfl | exact (hd _ rfl).elim) h fun c1 b mm1 H1 l1 r1 h1 => ?_⟩
    cases b
    · exact ⟨g, c1, sl, mm1, r1, h1⟩
    · exact h1 c1 H1 .refl r1
theorem s_ite (ht : PT X C (tB p n W c)) (ha : PE X A (tE p n W a)) (hb : PE X B (tE p n W b)) : PE X (.IfExp C A B pos) (tE p n W (.ite c a b)) :=
  PEimp (pe_ifExp ht ha hb) fun σ H Q ⟨g, cc, sl, mm, r, h⟩ => by
    simp only [semE] at h
    refine ⟨g, cc, sl, mm, r, PostE.test (fun d mm hd => by cases d <;> first | rfl | exact (hd _ rfl).elim) h fun c1 b mm1 H1 l1 r1 h1 => ?_⟩
    cases b
    · exact ⟨g, c1, sl, mm1, r1, h1⟩
    · exact ⟨g, c1, sl, mm1, r1, h1⟩
/-- a comparison as a value, as a test -/
theorem s_cmp {op : CmpOp} (h : PC X op A B (tE p n W a)) (pb : plainA B = true) : PE X (.Compare A [op] [B] pos) (tE p n W a) := pe_cmp h (mark_plain pb _)
theorem t_cmp {op : CmpOp} (h : PC X op A B (tE p n W a)) (pb : plainA B = true) : PT X (.Compare A [op] [B] pos) (tB p n W a) :=
  PTimp (pt_cmp h (mark_plain pb _)) fun σ H Q ⟨g, c, sl, mm, r, h⟩ => ⟨g, c, sl, mm, r, h.val⟩
/-- a < b < c of ints -/
def cmpO : B2 → Option CmpOp
  | .lt => some .Lt
  | .le => some .LtE
  | .gt => some .Gt
  | .ge => some .GtE
  | _ => none
def cmpF : B2 → Int → Int → Bool
  | .lt => fun i j => decide (i < j)
  | .le => fun i j => decide (i ≤ j)
  | .gt => fun i j => decide (j < i)
  | .ge => fun i j => decide (j ≤ i)
  | _ => fun _ _ => false
theorem cmpO_op {o2 : B2} {op : CmpOp} (h : cmpO o2 = some op) : OpR X (compareOp op) (rI0 fun i j => .bl (cmpF o2 i j)) ∧ ∀ x y mm, binS o2 x y mm = cmpI x y (cmpF o2) mm := by
  cases o2 <;> simp only [cmpO, Option.some.injEq, reduceCtorEq] at h <;> subst h
  · exact ⟨op_lt, fun _ _ _ => rfl⟩
  · exact ⟨op_le, fun _ _ _ => rfl⟩
  · exact ⟨op_gt, fun _ _ _ => rfl⟩
  · exact ⟨op_ge, fun _ _ _ => rfl⟩
theorem cmpO_eq {o2 : B2} {op : CmpOp} (h : cmpO o2 = some op) : ∀ x y mm, binS o2 x y mm = cmpI x y (cmpF o2) mm := by
  cases o2 <;> simp only [cmpO, reduceCtorEq] at h <;> exact fun _ _ _ => rfl
theorem chain_ok {o1 o2 : B2} {g : Gh} {cc : Cf} {sl : Sl} {mm : Mm} {σ : L2.St} {H : Hp} {Q : VK} {op1 op2 : CmpOp} (h1 : cmpO o1 = some op1) (h2 : cmpO o2 = some op2) (r : Rep p.K g cc sl mm σ H)
    (h : PostE p g cc sl σ H W Q (semE p.gv (p.cf n) (.chn o1 o2 a b c) sl mm)) : tChain (rI0 fun i j => .bl (cmpF o1 i j)) (rI0 fun i j => .bl (cmpF o2 i j)) (tE p n W a) (tE p n W b) (tE p n W c) σ H Q := by
  have e1 := cmpO_eq h1
  have e2 := cmpO_eq h2
  simp only [semE] at h
  refine ⟨g, cc, sl, mm, r, PostE.bind h fun c1 x mm1 v H1 l1 r1 rv k1 => ⟨g, c1, sl, mm1, r1, PostE.bind k1 fun c2 y mm2 u H2 l2 r2 ru k2 => ?_⟩⟩
  have rv2 := RepV.le l2 _ _ rv
  rw [e1] at k2
  cases x <;> try exact k2.elim
  cases y <;> try exact k2.elim
  rename_i i j
  rw [repV_int rv2, repV_int ru]
  simp only [cmpI, okE, bindE] at k2
  refine ⟨i, j, rfl, rfl, cmpF o1 i j, rfl, ?_⟩
  cases z : cmpF o1 i j with
  | false =>
    simp only [z] at k2
    exact PostE.ok0 (mm := mm2) k2 r2 okB
  | true =>
    simp only [z] at k2
    refine ⟨g, c2, sl, mm2, r2, PostE.bind k2 fun c3 w mm3 q H3 l3 r3 rq k3 => ?_⟩
    have ru3 := RepV.le l3 _ _ ru
    rw [e2] at k3
    cases w <;> try exact k3.elim
    rename_i k
    rw [repV_int rq]
    exact ⟨j, k, rfl, rfl, PostE.ok0 k3 r3 okB⟩
theorem s_chn {o1 o2 : B2} {op1 op2 : CmpOp} (h1 : cmpO o1 = some op1) (h2 : cmpO o2 = some op2) (ha : PE X A (tE p n W a)) (hb : PE X B (tE p n W b)) (hc : PE X C (tE p n W c)) (pc : plainA C = true) : PE X (.Compare A [op1, op2] [B, C] pos) (tE p n W (.chn o1 o2 a b c)) :=
  PEimp (pe_chain (cmpO_op h1).1 (cmpO_op h2).1 ha hb hc (mark_plain pc _)) fun σ H Q ⟨g, cc, sl, mm, r, h⟩ => chain_ok h1 h2 r h
theorem t_chn {o1 o2 : B2} {op1 op2 : CmpOp} (h1 : cmpO o1 = some op1) (h2 : cmpO o2 = some op2) (ha : PE X A (tE p n W a)) (hb : PE X B (tE p n W b)) (hc : PE X C (tE p n W c)) (pc : plainA C = true) : PT X (.Compare A [op1, op2] [B, C] pos) (tB p n W (.chn o1 o2 a b c)) :=
  PTimp (pt_chain (cmpO_op h1).1 (cmpO_op h2).1 ha hb hc (mark_plain pc _)) fun σ H Q ⟨g, cc, sl, mm, r, h⟩ => chain_ok h1 h2 r h.val
end
end Mp
/-! Mp7: calls. -/
namespace Mp
open PySem PySem.Spec
open PyProof.Rows L2
/-- the addresses of what is lent -/
def lentA (ad : List Addr) (ks : List Nat) : List Addr := ks.map fun k => (ad[k]?).getD 0
theorem takeMu_len : ∀ {ks : List Nat} {mm bs : Mm}, takeMu mm ks = some bs → bs.length = ks.length
  | [], _, _, h => by simp only [takeMu, Option.some.injEq] at h; subst h; rfl
  | k :: ks, mm, bs, h => by
    simp only [takeMu] at h
    split at h
    · cases q : takeMu mm ks with
      | none => rw [q] at h; simp at h
      | some cs =>
        rw [q] at h
        simp only [Option.map_some, Option.some.injEq] at h
        subst h
        simp [takeMu_len q]
    · cases h
theorem takeMu_at : ∀ {ks : List Nat} {mm bs : Mm} {j k : Nat}, takeMu mm ks = some bs → ks[j]? = some k → ∃ c, mm[k]? = some (.mu c) ∧ bs[j]? = some (.mu c)
  | [], _, _, _, _, _, e => by simp at e
  | k0 :: ks, mm, bs, j, k, h, e => by
    simp only [takeMu] at h
    split at h
    · rename_i c0 e0
      cases q : takeMu mm ks with
      | none => rw [q] at h; simp at h
      | some cs =>
        rw [q] at h
        simp only [Option.map_some, Option.some.injEq] at h
        subst h
        cases j with
        | zero =>
          simp at e; subst e
          exact ⟨c0, e0, rfl⟩
        | succ j =>
          obtain ⟨c, h1, h2⟩ := takeMu_at q (by simpa using e)
          exact ⟨c, h1, by simpa using h2⟩
    · cases h
theorem takeMu_mu {mm : Mm} : ∀ {ks : List Nat} {bs : Mm}, takeMu mm ks = some bs → bs.all M.isMu = true
  | [], _, h => by simp only [takeMu, Option.some.injEq] at h; subst h; rfl
  | k :: ks, bs, h => by
    simp only [takeMu] at h
    split at h
    · cases q : takeMu mm ks with
      | none => rw [q] at h; simp at h
      | some cs =>
        rw [q] at h
        simp only [Option.map_some, Option.some.injEq] at h
        subst h
        rw [List.all_cons, takeMu_mu q]; rfl
    · cases h
theorem putMu_len : ∀ {ks : List Nat} {mm bs : Mm}, (putMu mm ks bs).length = mm.length
  | [], _, _ => by simp only [putMu]
  | k :: ks, mm, bs => by
    cases bs with
    | nil => simp only [putMu]
    | cons b bs => simp only [putMu]; rw [putMu_len]; simp
theorem putMu_out : ∀ {ks : List Nat} {mm bs : Mm} {i : Nat}, i ∉ ks → (putMu mm ks bs)[i]? = mm[i]?
  | [], _, _, _, _ => by simp only [putMu]
  | k :: ks, mm, bs, i, h => by
    cases bs with
    | nil => simp only [putMu]
    | cons b bs =>
      simp only [putMu]
      rw [putMu_out (fun z => h (List.mem_cons_of_mem _ z)), List.getElem?_set_ne (fun z => h (by simp [z]))]
theorem putMu_in : ∀ {ks : List Nat} {mm bs : Mm} {j k : Nat}, ks.Nodup → (∀ k ∈ ks, k < mm.length) → bs.length = ks.length → ks[j]? = some k → (putMu mm ks bs)[k]? = bs[j]?
  | [], _, _, _, _, _, _, _, e => by simp at e
  | k0 :: ks, mm, bs, j, k, hn, hl, hb, e => by
    cases bs with
    | nil => simp at hb
    | cons b bs =>
      simp only [putMu]
      rw [List.nodup_cons] at hn
      cases j with
      | zero =>
        simp at e; subst e
        rw [putMu_out hn.1, List.getElem?_set_self (hl _ (by simp))]; rfl
      | succ j =>
        have := putMu_in (mm := mm.set k0 b) (bs := bs) hn.2 (fun k hk => by simpa using hl k (by simp [hk])) (by simpa using hb) (show ks[j]? = some k by simpa using e)
        rw [this]; simp
section
variable {K : Kx} {ad : List Addr} {Z : Addr → Prop} {H : Hp}
theorem argsOf_rep : ∀ {ds : List D} {vs : List V} (pre : List Addr) (L : List Addr), RepL K ad Z H ds vs → ds.all okArg = true → L = pre ++ lentA ad (lentOf ds) → RepL K L Z H (argsOf pre.length ds) vs
  | [], _, pre, L, h, _, _ => by simp only [RepL] at h; subst h; exact RepL.nil
  | d :: ds, _, pre, L, h, ok, e => by
    simp only [RepL] at h
    obtain ⟨v, r, rfl, h1, h2⟩ := h
    rw [List.all_cons, Bool.and_eq_true] at ok
    by_cases hm : ∃ k, d = .m k
    · obtain ⟨k, rfl⟩ := hm
      have ea : argsOf pre.length (.m k :: ds) = .m pre.length :: argsOf (pre.length + 1) ds := rfl
      have el : lentOf (.m k :: ds) = k :: lentOf ds := rfl
      rw [ea]
      rw [el] at e
      simp only [RepV] at h1
      obtain ⟨a, ha, rfl⟩ := h1
      have e2 : L = (pre ++ [a]) ++ lentA ad (lentOf ds) := by rw [e]; simp [lentA, ha]
      refine RepL.cons ?_ ?_
      · simp only [RepV]
        exact ⟨a, by rw [e2]; simp, rfl⟩
      · have := argsOf_rep (pre ++ [a]) L h2 ok.2 e2
        simpa using this
    · have hp : pureD d = true := by
        cases d <;> first | exact ok.1 | exact (hm ⟨_, rfl⟩).elim
      have ea : argsOf pre.length (d :: ds) = d :: argsOf pre.length ds := by
        cases d <;> first | rfl | exact (hm ⟨_, rfl⟩).elim
      have el : lentOf (d :: ds) = lentOf ds := by
        cases d <;> first | rfl | exact (hm ⟨_, rfl⟩).elim
      rw [ea]
      rw [el] at e
      exact RepL.cons (RepV.pure L d v hp h1) (argsOf_rep pre L h2 ok.2 e)
theorem lent_at : ∀ {ds : List D} {vs : List V} {k : Nat}, RepL K ad Z H ds vs → k ∈ lentOf ds → ∃ a, ad[k]? = some a
  | [], _, _, _, e => by simp [lentOf] at e
  | d :: ds, _, k, h, e => by
    simp only [RepL] at h
    obtain ⟨v, r, rfl, h1, h2⟩ := h
    by_cases hm : ∃ k, d = .m k
    · obtain ⟨j, rfl⟩ := hm
      rcases List.mem_cons.mp (show k ∈ j :: lentOf ds from e) with q | q
      · subst q
        simp only [RepV] at h1
        obtain ⟨a, ha, _⟩ := h1
        exact ⟨a, ha⟩
      · exact lent_at h2 q
    · have el : lentOf (d :: ds) = lentOf ds := by
        cases d <;> first | rfl | exact (hm ⟨_, rfl⟩).elim
      rw [el] at e
      exact lent_at h2 e
theorem lentA_at {ks : List Nat} {j k : Nat} {a : Addr} (h : ks[j]? = some k) (ha : ad[k]? = some a) : (lentA ad ks)[j]? = some a := by
  unfold lentA
  rw [List.getElem?_map, h]
  simp [ha]
theorem lentA_of {ks : List Nat} {j : Nat} {a : Addr} (hk : ∀ k ∈ ks, ∃ a, ad[k]? = some a) (h : (lentA ad ks)[j]? = some a) : ∃ k, ks[j]? = some k ∧ ad[k]? = some a := by
  unfold lentA at h
  rw [List.getElem?_map] at h
  cases q : ks[j]? with
  | none => rw [q] at h; simp at h
  | some k =>
    rw [q] at h
    obtain ⟨b, hb⟩ := hk k (List.mem_of_getElem? q)
    simp only [Option.map_some, Option.some.injEq, hb, Option.getD_some] at h
    subst h
    exact ⟨k, rfl, hb⟩
theorem lentA_nodup : ∀ {ks : List Nat}, ad.Nodup → ks.Nodup → (∀ k ∈ ks, ∃ a, ad[k]? = some a) → (lentA ad ks).Nodup
  | [], _, _, _ => List.nodup_nil
  | k :: ks, ha, hn, hk => by
    rw [List.nodup_cons] at hn
    show ((ad[k]?).getD 0 :: lentA ad ks).Nodup
    obtain ⟨a, e⟩ := hk k (by simp)
    rw [e, Option.getD_some, List.nodup_cons]
    refine ⟨fun z => ?_, lentA_nodup ha hn.2 fun j hj => hk j (by simp [hj])⟩
    obtain ⟨j, hj⟩ := List.mem_iff_getElem?.mp z
    obtain ⟨k2, h1, h2⟩ := lentA_of (fun j hj => hk j (by simp [hj])) hj
    have := nd_ix ha e h2
    subst this
    exact hn.1 (List.mem_of_getElem? h1)
theorem RepM.pure {ad' : List Addr} {d : D} {a : Addr} (hp : pureD d = true) (h : RepM K ad Z H d a) : RepM K ad' Z H d a := by
  cases d <;> simp only [RepM] at h ⊢ <;> try exact h
  · obtain ⟨vs, e, r⟩ := h
    exact ⟨vs, e, RepL.pure _ _ _ (by simpa [pureD] using hp) r⟩
  · obtain ⟨kvs, e, h1, h2, r1, r, nd⟩ := h
    simp only [pureD, Bool.and_eq_true] at hp
    exact ⟨kvs, e, h1, h2, RepL.pure _ _ _ hp.1 r1, RepL.pure _ _ _ hp.2 r, nd⟩
  · obtain ⟨o, kvs, e, h1, h2, r1, r, nd⟩ := h
    simp only [pureD, Bool.and_eq_true] at hp
    exact ⟨o, kvs, e, h1, h2, RepL.pure _ _ _ hp.1 r1, RepL.pure _ _ _ hp.2 r, nd⟩
theorem ObjR.pure {ad' : List Addr} {a : Addr} {x : M} (h : ObjR K ⟨ad, Z⟩ H a x) : ObjR K ⟨ad', Z⟩ H a x := by
  cases x with
  | mu d => exact ⟨h.1, h.2.1, RepM.pure h.2.1 h.2.2⟩
  | fz d => exact ⟨h.1, h.2.1, RepV.pure _ _ _ h.2.1 h.2.2⟩
end
section
variable {K : Kx} {g : Gh} {c : Cf} {sl : Sl} {mm bs : Mm} {σ : L2.St} {H : Hp} {ds : List D} {vs : List V}
/-- what a callee sees -/
theorem Rep.lend (r : Rep K g c sl mm σ H) (rl : RepL K c.ad c.Z H ds vs) (hn : (lentOf ds).Nodup) (ht : takeMu mm (lentOf ds) = some bs) :
    Rep K ⟨H, c.Z, lentA c.ad (lentOf ds)⟩ ⟨lentA c.ad (lentOf ds), c.Z⟩ [] bs [] H := by
  have hk : ∀ k ∈ lentOf ds, ∃ a, c.ad[k]? = some a := fun k hk => lent_at rl hk
  refine ⟨rfl, by rw [takeMu_len ht]; simp [lentA], fun i d e => by simp at e, fun j a x e1 e2 => ?_, lentA_nodup r.nd hn hk, fun b o e _ => e, fun a z => .inl z, r.trk, ⟨[], by simp⟩, fun a ha => .inl ha⟩
  obtain ⟨k, h1, h2⟩ := lentA_of hk e1
  obtain ⟨d, h3, h4⟩ := takeMu_at ht h1
  rw [e2] at h4; cases h4
  exact ObjR.pure (r.obj k a _ h2 h3)
/-- behind a call: what the callee did, at the caller -/
theorem Rep.back {c' : Cf} {H' : Hp} {bs' new : Mm} (r : Rep K g c sl mm σ H) (hk : ∀ k ∈ lentOf ds, ∃ a, c.ad[k]? = some a) (hn : (lentOf ds).Nodup) (hb : bs'.length = (lentOf ds).length)
    (l : Le (lentA c.ad (lentOf ds)) c.Z H c'.ad c'.Z H') (r' : Rep K ⟨H, c.Z, lentA c.ad (lentOf ds)⟩ c' [] (bs' ++ new) [] H') :
    ∃ c2 : Cf, c.Le H c2 H' ∧ Rep K g c2 sl (putMu mm (lentOf ds) bs' ++ new) σ H' ∧ c2.Z = c'.Z ∧ ∀ (d : D) (v : V), RepV K c'.ad c'.Z H' d v → ∀ d', backD (lentOf ds) mm.length d = some d' → RepV K c2.ad c2.Z H' d' v := by
  obtain ⟨ext, he⟩ := l.ad
  have hL : (lentA c.ad (lentOf ds)).length = (lentOf ds).length := by simp [lentA]
  have le2 : c.Le H ⟨c.ad ++ ext, c'.Z⟩ H' := ⟨⟨ext, rfl⟩, l.z, l.rd⟩
  have klt : ∀ k ∈ lentOf ds, k < mm.length := fun k h => by
    obtain ⟨a, ha⟩ := hk k h
    rw [← r.lenA]; exact (List.getElem?_eq_some_iff.mp ha).1
  have extA : ∀ a ∈ ext, H a = none ∨ a ∈ lentA c.ad (lentOf ds) := fun a ha => (r'.adn a (by rw [he]; exact List.mem_append_right _ ha)).elim .inr .inl
  have nd' := r'.nd
  rw [he] at nd'
  have extN : ∀ a ∈ ext, H a = none := fun a ha => (extA a ha).elim id fun z => ((List.nodup_append.mp nd').2.2 a z a ha rfl).elim
  have lc : ∀ a ∈ lentA c.ad (lentOf ds), a ∈ c.ad := fun a ha => by
    obtain ⟨j, hj⟩ := List.mem_iff_getElem?.mp ha
    obtain ⟨k, _, h2⟩ := lentA_of hk hj
    exact List.mem_of_getElem? h2
  have lenE : ext.length = new.length := by
    have h1 := r'.lenA
    rw [he, List.length_append, List.length_append, hL] at h1
    omega
  have inExt : ∀ a ∈ c'.ad, a ∈ lentA c.ad (lentOf ds) ∨ a ∈ ext := fun a ha => by rw [he] at ha; exact List.mem_append.mp ha
  have back : ∀ (j : Nat) (v : V), RepV K c'.ad c'.Z H' (.m j) v → RepV K (c.ad ++ ext) c'.Z H' (backM (lentOf ds) mm.length j) v := fun j v rv => by
    simp only [RepV] at rv
    obtain ⟨a, ha, rfl⟩ := rv
    rw [he] at ha
    unfold backM
    by_cases hj : j < (lentOf ds).length
    · have q : (lentOf ds)[j]? = some (lentOf ds)[j] := List.getElem?_eq_getElem hj
      rw [List.getElem?_append_left (by rw [hL]; exact hj)] at ha
      obtain ⟨k, h1, h2⟩ := lentA_of hk ha
      rw [h1]
      simp only [RepV]
      exact ⟨a, by rw [List.getElem?_append_left (List.getElem?_eq_some_iff.mp h2).1]; exact h2, rfl⟩
    · have q : (lentOf ds)[j]? = none := List.getElem?_eq_none_iff.mpr (by omega)
      rw [q]
      rw [List.getElem?_append_right (by rw [hL]; omega), hL] at ha
      simp only [RepV]
      refine ⟨a, ?_, rfl⟩
      rw [List.getElem?_append_right (by rw [r.lenA]; omega), r.lenA]
      rw [← ha]; congr 1; omega
  refine ⟨⟨c.ad ++ ext, c'.Z⟩, le2, ⟨r.lenS, ?_, fun i d e => ?_, fun i a x e1 e2 => ?_, ?_, fun b o e1 e2 => ?_, fun a z => ?_, r'.trk, ?_, fun a ha => ?_⟩, rfl, fun d v rv d' e => ?_⟩
  · simp [putMu_len, r.lenA, lenE]
  · obtain ⟨v, q, rv⟩ := r.slot i d e
    exact ⟨v, q, RepV.le le2 d v rv⟩
  · by_cases hi : i < c.ad.length
    · have e1' : c.ad[i]? = some a := by rw [← e1]; exact (List.getElem?_append_left hi).symm
      have e2' : (putMu mm (lentOf ds) bs')[i]? = some x := by rw [← e2]; exact (List.getElem?_append_left (by rw [putMu_len, ← r.lenA]; exact hi)).symm
      by_cases hm : i ∈ lentOf ds
      · obtain ⟨j, hj⟩ := List.mem_iff_getElem?.mp hm
        rw [putMu_in hn klt hb hj] at e2'
        have ha := lentA_at hj e1'
        have h1 : c'.ad[j]? = some a := by rw [he, List.getElem?_append_left (List.getElem?_eq_some_iff.mp ha).1]; exact ha
        have h2 : (bs' ++ new)[j]? = some x := by rw [List.getElem?_append_left (List.getElem?_eq_some_iff.mp e2').1]; exact e2'
        exact ObjR.pure (r'.obj j a x h1 h2)
      · rw [putMu_out hm] at e2'
        have na : a ∉ lentA c.ad (lentOf ds) := fun z => by
          obtain ⟨j, hj⟩ := List.mem_iff_getElem?.mp z
          obtain ⟨k, h1, h2⟩ := lentA_of hk hj
          have := nd_ix r.nd e1' h2
          subst this
          exact hm (List.mem_of_getElem? h1)
        have hth : H a ≠ none := r.adTrk (List.mem_of_getElem? e1')
        have nc : a ∉ c'.ad := fun z => (inExt a z).elim na fun q => hth (extN a q)
        have ob := r.obj i a x e1' e2'
        cases x with
        | mu d =>
          refine ⟨fun z => ?_, ob.2.1, ?_⟩
          · rcases r'.zin a z with q | q | q
            · exact ob.1 q
            · exact hth q
            · exact na q
          · refine RepM.le le2 ?_ ob.2.2
            cases q : H a with
            | none => exact (hth q).elim
            | some o => exact r'.frm a o q nc
        | fz d => exact ⟨l.z _ ob.1, ob.2.1, RepV.le le2 _ _ ob.2.2⟩
    · have e1' : ext[i - c.ad.length]? = some a := by rw [← e1]; exact (List.getElem?_append_right (by omega)).symm
      have e2' : new[i - mm.length]? = some x := by
        rw [← e2, List.getElem?_append_right (by rw [putMu_len, ← r.lenA]; omega), putMu_len]
      have h1 : c'.ad[(lentOf ds).length + (i - c.ad.length)]? = some a := by
        rw [he, List.getElem?_append_right (by rw [hL]; omega), hL, ← e1']; congr 1; omega
      have h2 : (bs' ++ new)[(lentOf ds).length + (i - c.ad.length)]? = some x := by
        rw [List.getElem?_append_right (by omega), ← e2', r.lenA]; congr 1; omega
      exact ObjR.pure (r'.obj _ a x h1 h2)
  · exact List.nodup_append.mpr ⟨r.nd, (List.nodup_append.mp nd').2.1, fun a ha b hb e => by subst e; exact r.adTrk ha (extN a hb)⟩
  · have hb0 : b ∉ c.ad := fun z => e2 (List.mem_append_left _ z)
    have hb := r.frm b o e1 hb0
    exact r'.frm b o hb fun z => (inExt b z).elim (fun q => hb0 (lc b q)) fun q => by rw [extN b q] at hb; cases hb
  · rcases r'.zin a z with q | q | q
    · exact r.zin a q
    · exact .inr (.inl (r.fresh0 q))
    · exact (r.adn a (lc a q)).elim (fun w => .inr (.inr w)) fun w => .inr (.inl w)
  · obtain ⟨l0, e⟩ := r.pre
    exact ⟨l0 ++ ext, by rw [e, List.append_assoc]⟩
  · rcases List.mem_append.mp ha with ha | ha
    · exact r.adn a ha
    · exact .inr (r.fresh0 (extN a ha))
  · unfold backD at e
    cases hp : pureD d with
    | true =>
      simp only [hp, Option.some.injEq] at e
      subst e
      exact RepV.pure _ _ _ hp rv
    | false =>
      simp only [hp] at e
      split at e
      · rename_i j
        simp only [Option.some.injEq] at e
        subst e
        exact back j v rv
      · rename_i x j
        split at e
        · rename_i hx
          simp only [Option.some.injEq] at e
          subst e
          simp only [RepV] at rv
          obtain ⟨a, vs, rfl, t, rl⟩ := rv
          simp only [RepL] at rl
          obtain ⟨v1, r1, rfl, h1, v2, r2, rfl, h2, rfl⟩ := rl
          simp only [RepV]
          refine ⟨a, [v1, v2], rfl, t, RepL.cons (RepV.pure _ _ _ hx h1) (RepL.one ?_)⟩
          exact back j v2 (by simp only [RepV]; exact h2)
        · cases e
      · cases e
end
section
variable {p : Pg} {n : Nat} {N : List Str} {sc : Scope} {W : WX} {X : Cx} {pos : Pos}
theorem call_ok {g : Gh} {c : Cf} {sl : Sl} {mm : Mm} {σ : L2.St} {H : Hp} {Q : VK} {f : Nat} {ds : List D} {vs : List V} {E : XK} (r : Rep p.K g c sl mm σ H) (rl : RepL p.K c.ad c.Z H ds vs) (hl : vs.length = (p.T f).np)
    (h : PostE p g c sl σ H W Q (callS (p.cf n f) ds mm)) (hE : ∀ (x : Ex) (dd : Option Addr) (H' : Hp), (∃ mm', callS (p.cf n f) ds mm = some (.ex x mm')) → W (.ref (p.ea x.cls)) dd σ H' → E (.ref (p.ea x.cls)) dd H') :
    ∃ c ds bs, Rep p.K ⟨H, c.Z, c.ad⟩ c [] bs [] H ∧ bs.all M.isMu = true ∧ RepL p.K c.ad c.Z H ds vs ∧ vs.length = (p.T f).np ∧
      (match p.cf n f ds bs with
      | none => False
      | some (.rt d bs' new) => ∀ c' v H', c.Le H c' H' → Rep p.K ⟨H, c.Z, c.ad⟩ c' [] (bs' ++ new) [] H' → RepV p.K c'.ad c'.Z H' d v → Q v H'
      | some (.ex x bs') => ∀ c' dd H', c.Le H c' H' → Rep p.K ⟨H, c.Z, c.ad⟩ c' [] bs' [] H' → RepX x dd → E (.ref (p.ea x.cls)) dd H') := by
  unfold callS at h hE
  cases q0 : (ds.all okArg && decide (lentOf ds).Nodup) with
  | false => simp only [q0] at h; exact h.elim
  | true =>
    simp only [q0, if_true] at h hE
    rw [Bool.and_eq_true] at q0
    have hn := of_decide_eq_true q0.2
    cases q1 : takeMu mm (lentOf ds) with
    | none => simp only [q1] at h; exact h.elim
    | some bs =>
      simp only [q1] at h hE
      have hk : ∀ k ∈ lentOf ds, ∃ a, c.ad[k]? = some a := fun k hk => lent_at rl hk
      refine ⟨⟨lentA c.ad (lentOf ds), c.Z⟩, argsOf 0 ds, bs, r.lend rl hn q1, takeMu_mu q1, argsOf_rep [] _ rl q0.1 rfl, hl, ?_⟩
      cases q2 : p.cf n f (argsOf 0 ds) bs with
      | none => simp only [q2] at h; exact h.elim
      | some fr =>
        simp only [q2] at h hE
        cases fr with
        | rt d bs' new =>
          intro c' v H' l' r' rv
          by_cases hb : bs'.length = (lentOf ds).length
          · simp only [hb, if_true] at h
            obtain ⟨c2, l2, r2, _, hv⟩ := r.back hk hn hb l' r'
            cases q3 : backD (lentOf ds) mm.length d with
            | none => simp only [q3] at h; exact h.elim
            | some d' =>
              simp only [q3] at h
              exact h c2 v H' l2 r2 (hv d v rv d' q3)
          · simp only [hb, if_false] at h; exact h.elim
        | ex x bs' =>
          intro c' dd H' l' r' rx
          by_cases hb : bs'.length = (lentOf ds).length
          · simp only [hb, if_true] at h hE
            obtain ⟨c2, l2, r2, _, _⟩ := r.back (new := []) hk hn hb l' (by simpa using r')
            exact hE x dd H' ⟨_, rfl⟩ (h c2 dd H' l2 (by simpa using r2) rx)
          · simp only [hb, if_false] at h; exact h.elim
def Es.len : Es → Nat
  | .nil => 0
  | .cons _ es => es.len + 1
theorem semEs_len : ∀ {es : Es} {sl : Sl} {mm mm' : Mm} {ds : List D}, semEs p.gv (p.cf n) es sl mm = some (.ok ds mm') → ds.length = es.len
  | .nil, sl, mm, mm', ds, h => by
    simp only [semEs, Option.some.injEq, RL.ok.injEq] at h
    rw [← h.1]; rfl
  | .cons e es, sl, mm, mm', ds, h => by
    simp only [semEs] at h
    split at h
    · rename_i d mm1 q
      split at h
      · rename_i ds' mm2 q2
        simp only [Option.some.injEq, RL.ok.injEq] at h
        rw [← h.1, List.length_cons, semEs_len q2]; rfl
      · rename_i q2
        exact (q2 _ _ h).elim
    · cases h
    · cases h
/-- f(e, ..) -/
theorem s_call (o : XOk p n N sc W X) {a : Expr} {as : List Expr} {f : Nat} {es : Es} {p0 : Pos} (hd : p.dom f = true) (hg : glB sc (p.fn f) = true) (hl : es.len = (p.T f).np) (ha : PA X (a :: as) (tEs p n W es)) (pl : (a :: as).all plainA = true) : PE X (.Call (.Name (p.fn f) p0) (a :: as) [] pos) (tE p n W (.call f es)) := by
  obtain ⟨hm, hk, fd, ps, hps, hb, F⟩ := o.fns f hd
  rw [List.all_cons, Bool.and_eq_true] at pl
  have hK := o.K
  have hM := o.mg
  refine PEimp (pe_callS (E := WE W) (by rw [hK, hM]; exact F) o.room (o.gl hg) (by rw [hM]; exact hm) (by rw [hK]; exact hk) (by rw [hK]; exact hb) (fun σ => passAt o.takes σ) ha (nm_deb (gl_nm hg)) (star_plain pl.1 _ _) (star_none pl.2 _ _)) fun σ H Q ⟨g, c, sl, mm, r, h⟩ => ?_
  simp only [semE] at h
  refine ⟨g, c, sl, mm, r, ?_⟩
  cases q : semEs p.gv (p.cf n) es sl mm with
  | none => rw [q] at h; exact h.elim
  | some x =>
    rw [q] at h
    cases x with
    | ex x mm1 => exact h
    | ok ds mm1 => exact fun c1 vs H1 l1 r1 rl => call_ok r1 rl (by rw [rl.len, semEs_len q]; exact hl) (PostE.from h l1) fun x dd H' _ hw => hw
theorem pass_no {X : Cx} : Passes (L2.CX X.prog X.w) X (fun _ _ _ => False) := fun pins σ H s e s' I hc => by
  obtain ⟨_, _, _, _, _, _, _, _, _, _, _, _, z⟩ := hc
  exact z.elim
/-- f() -/
theorem s_call0 (o : XOk p n N sc W X) {f : Nat} {p0 : Pos} (hd : p.dom f = true) (hg : glB sc (p.fn f) = true) (hl : (p.T f).np = 0) : PE X (.Call (.Name (p.fn f) p0) [] [] pos) (tE p n W (.call0 f)) := by
  obtain ⟨hm, hk, fd, ps, hps, hb, F⟩ := o.fns f hd
  have hK := o.K
  have hM := o.mg
  refine PEimp (pe_call0 (E := fun _ _ _ => False) (dvs := []) (by rw [hK, hM]; exact F) o.room (o.gl hg) (by rw [hM]; exact hm) (by rw [hK]; exact hk) (by rw [hK]; exact hb) .nil pass_no (nm_deb (gl_nm hg))) fun σ H Q ⟨g, c, sl, mm, r, h⟩ => ?_
  simp only [semE] at h
  have h' : PostE p g c sl σ H (fun _ _ _ _ => False) Q (callS (p.cf n f) [] mm) := by
    split at h
    · rename_i q; rw [q]; exact h
    · exact h.elim
  exact call_ok (E := fun _ _ _ => False) r RepL.nil (by rw [hl]; rfl) h' fun x dd H' ⟨mm', q⟩ _ => by simp only [q] at h; exact h.elim
end
end Mp
/-! Mz: zip of a tuple with a list. -/
namespace Mp
open PySem PySem.Spec
open PyProof.Rows L2
/-- the tuple at a, the list at b, as they stand at each turn -/
def ItzM (K : PySem.W.Frag) (a b : Addr) : L2.It :=
  ⟨fun i H => ∃ (xs ys : List V) (x y : V), SqT K H a xs ∧ SqL K H b ys ∧ xs[i]? = some x ∧ ys[i]? = some y,
    fun i H v H' => ∃ T x y, v = .ref T ∧ H T = none ∧ H' = upd H T (.tup [x, y]) ∧ (∀ xs, SqT K H a xs → xs[i]? = some x) ∧ ∀ ys, SqL K H b ys → ys[i]? = some y,
    fun i H => ∃ xs ys : List V, SqT K H a xs ∧ SqL K H b ys ∧ i = min xs.length ys.length⟩
theorem sepM {z TI TO i1 i2 a b : Addr} (D : ZipApart z TI TO i1 i2 a b) : ZipSep2 z TI TO i1 i2 [i1, a] [i2, b] where
  TIz := D.TIz
  TOz := D.TOz
  TITO := D.TITO
  TIi1 := D.TIi1
  mem1 := by simp
  zf1 := by simp [D.i1z.symm, D.l1z.symm]
  Tf1 := by simp [D.TOi1, D.l1TO.symm]
  TIi2 := D.TIi2
  mem2 := by simp
  zf2 := by simp [D.i2z.symm, D.l2z.symm]
  Tf2 := by simp [D.TOi2, D.l2TO.symm]
  sep1_2 := by simp [D.i12, D.l2i1.symm]
  sep2_1 := by simp [D.i12.symm, D.l1i2.symm]
theorem turn_zipM {P : Program} {w : World} {K : PySem.W.Frag} {elts : List Expr} {kk : Nat} {tpos : Pos} {a b z TI TO i1 i2 : Addr} (D : ZipApart z TI TO i1 i2 a b) :
    Turn P w K (.Tuple elts kk tpos) (ItzM K a b) [z, TI, TO, i1, i2] z (fun i h => IsZip h z TI TO .none ∧ IsPair h TI (.ref i1) (.ref i2) ∧ (∃ x y, IsPair h TO x y) ∧ h.IsTupleIter i1 a i ∧ h.IsListIter i2 b i) where
  mem := by simp
  obj := fun i h st c hc => by
    obtain ⟨hz, hTI, ⟨x, y, hTO⟩, ⟨o1, e1, _, d1⟩, ⟨o2, e2, _, d2⟩⟩ := st
    simp only [List.mem_cons, List.not_mem_nil, or_false] at hc
    rcases hc with rfl | rfl | rfl | rfl | rfl
    · exact ⟨_, hz, fun v q => nomatch q⟩
    · exact ⟨_, hTI, fun v q => nomatch q⟩
    · exact ⟨_, hTO, fun v q => nomatch q⟩
    · exact ⟨o1, e1, fun v q => by rw [d1] at q; cases q⟩
    · exact ⟨o2, e2, fun v q => by rw [d2] at q; cases q⟩
  keep := fun i h h' ⟨hz, hTI, ⟨x, y, hTO⟩, h1, h2⟩ k =>
    ⟨k z (by simp) _ hz, k TI (by simp) _ hTI, ⟨x, y, k TO (by simp) _ hTO⟩, h1.at fun o q => k i1 (by simp) o q, h2.at fun o q => k i2 (by simp) o q⟩
  item := by
    intro X hP hw hK hc i pins s σ H E I hf st hg
    subst hP hw hK
    obtain ⟨hz, hTI, ⟨x0, y0, hTO⟩, h1, h2⟩ := st
    obtain ⟨xs, ys, x, y, hqx, hqy, hx, hy⟩ := hg
    obtain ⟨its, rv, p, _⟩ := I.tuple hqx
    obtain ⟨its2, rv2, p2, _⟩ := I.list hqy
    obtain ⟨u, hu, ru⟩ := rv.get hx
    obtain ⟨u2, hu2, ru2⟩ := rv2.get hy
    have hh : X.A.in1.handled = none := I.ok.hd hc
    have n1 : i < its.toArray.size := by have := (List.getElem?_eq_some_iff.mp hu).1; simpa using this
    have n2 : i < its2.toArray.size := by have := (List.getElem?_eq_some_iff.mp hu2).1; simpa using this
    have hzl : z < s.heap.objs.size := Heap.lt_size hz
    refine wpAny_pyNext_zipD2_item (sepM D) (Draws.tuple hh i1 a D.l1i1 its.toArray) (Draws.list hh i2 b D.l2i2 its2.toArray) hz hTI hTO ⟨h1, p⟩ ⟨h2, p2.isList⟩ n1 n2 fun x1 x2 h' tk y1 y2 z' TO' s1 s2 hT hsz hk => ?_
    have e1 : x1 = u := by have q : its.toArray[i]? = some u := by simpa using hu
                           have y1 : its.toArray[i]? = some x1 := y1
                           rw [q] at y1; exact (Option.some.inj y1).symm
    have e2 : x2 = u2 := by have q : its2.toArray[i]? = some u2 := by simpa using hu2
                            have y2 : its2.toArray[i]? = some x2 := y2
                            rw [q] at y2; exact (Option.some.inj y2).symm
    subst e1; subst e2
    refine ⟨_, rfl, wpAny_letOwnedTupleGo_zip (s := { s with heap := h', toks := tk }) z' fun h'' z'' sb => ?_⟩
    have hT2 : h''.get? s.heap.objs.size = some { cls := .type "tuple", data := .seq #[x1, x2] } := (sb.2 _ (Nat.ne_of_gt hzl)).trans hT
    have new : ObjOk X.prog X.w (upd H s.heap.objs.size (.tup [x, y])) h'' s.heap.objs.size (.tup [x, y]) :=
      ⟨by show 2 ≤ sizeLine; decide, [x1, x2], .cons ru (.cons ru2 .nil), ⟨_, hT2, rfl, _, rfl⟩⟩
    have I1 : Inv X pins σ (upd H s.heap.objs.size (.tup [x, y])) { s with heap := h'', toks := tk } :=
      I.turnedNew (t' := tk) (ch := [z, TI, TO, i1, i2]) (fun c o hb q => by
        simp only [List.mem_cons, List.not_mem_nil, or_false, not_or] at hb
        exact (sb.2 c hb.1).trans (hk c o hb.1 hb.2.2.1 hb.2.2.2.1 hb.2.2.2.2 q)) hf (Nat.le_refl _) new
    refine ⟨.ref s.heap.objs.size, _, I1, rfl, ⟨_, x, y, rfl, I.hok.fresh (Nat.le_refl _), rfl, fun l hl => by rw [I.tuple_inj hl hqx]; exact hx, fun l hl => by rw [I.list_inj hl hqy]; exact hy⟩, ⟨z'', ?_, ⟨x1, x2, ?_⟩, ?_, ?_⟩, fun c hcm => ?_⟩
    · exact (sb.2 _ D.TIz).trans (hk _ _ D.TIz D.TITO D.TIi1 D.TIi2 hTI)
    · exact (sb.2 _ D.TOz).trans TO'
    · exact s1.1.at fun o q => (sb.2 _ D.i1z).trans q
    · exact s2.1.at fun o q => (sb.2 _ D.i2z).trans q
    · have hlt : c < s.heap.objs.size := by
        simp only [List.mem_cons, List.not_mem_nil, or_false] at hcm
        rcases hcm with rfl | rfl | rfl | rfl | rfl
        · exact hzl
        · exact Heap.lt_size hTI
        · exact Heap.lt_size hTO
        · obtain ⟨_, e1, _⟩ := h1; exact Heap.lt_size e1
        · obtain ⟨_, e2, _⟩ := h2; exact Heap.lt_size e2
      rw [upd_ne (Nat.ne_of_lt hlt)]
      exact (hf c hcm).1
  done := by
    intro X hP hw hK hc i pins s σ H E I hf st hg
    subst hP hw hK
    obtain ⟨hz, hTI, ⟨x0, y0, hTO⟩, h1, h2⟩ := st
    obtain ⟨xs, ys, hqx, hqy, hend⟩ := hg
    obtain ⟨its, rv, p, _⟩ := I.tuple hqx
    obtain ⟨its2, rv2, p2, _⟩ := I.list hqy
    have l1 := rv.length
    have l2 := rv2.length
    have hh : X.A.in1.handled = none := I.ok.hd hc
    refine wpAny_pyNext_zipD2_end (sepM D) (Draws.tuple hh i1 a D.l1i1 its.toArray) (Draws.list hh i2 b D.l2i2 its2.toArray) hz hTI hTO ⟨h1, p⟩ ⟨h2, p2.isList⟩ (by simp; omega) (by simp; omega) (by simp; omega) fun h' tk hk => ⟨rfl, ?_⟩
    exact I.turnedL (t' := tk) (ch := [z, TI, TO, i1, i2]) (fun c o hb q => by
      simp only [List.mem_cons, List.not_mem_nil, or_false, not_or] at hb
      exact hk c o hb.1 hb.2.2.1 hb.2.2.2.1 hb.2.2.2.2 q) hf
  self := fun A i s Q E st h => wpAny_pyIter_zip st.1 h
theorem pi_zipM {X : Cx} {e e2 : Expr} {ta : TA} {p pos tpos : Pos} {elts : List Expr} {kk : Nat} (hg : Gl X "zip") (hm : X.mg "zip" = none) (ha : PA X [e, e2] ta)
    (hs : starEach [e, e2] X.env = (false, eval e X.env) :: starEach [e2] X.env := by rfl) (hpl : (backTo pos (starEach [e2] X.env)).any (·.1) = false := by rfl) :
    PI X (.Tuple elts kk tpos) (.Call (.Name "zip" p) [e, e2] [] pos) (fun σ H R => ta σ H fun vs H1 => ∃ a b xs ys, vs = [.ref a, .ref b] ∧ SqT X.K H1 a xs ∧ SqL X.K H1 b ys ∧ R (ItzM X.K a b) H1) := by
  refine ⟨fun pins s σ H R I h => Call_ (ld_blt I hg hm PyProof.Rows.boot_zip (PyProof.Rows.callWith_type1 (thn (ha.run pos pins s σ H _ I h) fun us s1 ⟨vs, H1, I1, r1, q1⟩ => ?_) hs hpl))⟩
  obtain ⟨a, b, xs, ys, ex, hqx, hqy, q⟩ := q1
  subst ex
  obtain ⟨u1, u2, rfl, r, r'⟩ : ∃ u1 u2, us = [u1, u2] ∧ RelV (.ref a) u1 ∧ RelV (.ref b) u2 := by
    cases r1 with
    | cons r rr =>
      cases rr with
      | cons r' rr =>
        cases rr
        exact ⟨_, _, rfl, r, r'⟩
  obtain rfl : u1 = Value.ref a := r
  obtain rfl : u2 = Value.ref b := r'
  obtain ⟨its, rv, p1, _⟩ := I1.tuple hqx
  obtain ⟨its2, rv2, p2, _⟩ := I1.list hqy
  obtain ⟨o1, ho1, _⟩ := id p1
  refine zip_begins2 (begins_tuple a its.toArray) (begins_list b its2.toArray) p1 p2.isList fun h' hz hTI hTO h1 h2 hsz hk => wpAny_pyIter_zip hz ?_
  have I2 : Inv X pins σ H1 { s1 with heap := h' } := I1.kept (t' := s1.toks) hk
  refine ⟨s1.heap.objs.size + 4, [s1.heap.objs.size + 4, s1.heap.objs.size + 2, s1.heap.objs.size + 3, s1.heap.objs.size, s1.heap.objs.size + 1], _, _, H1, rfl, I2, turn_zipM (PySem.W.ktu_apart s1.heap.objs.size a b (Heap.lt_size ho1) p2.lt), ⟨hz, hTI, ⟨_, _, hTO⟩, ⟨_, h1, rfl, rfl⟩, ⟨_, h2, rfl, rfl⟩⟩, fun c hcm => ?_, q⟩
  have hle : s1.heap.objs.size ≤ c := by
    simp only [List.mem_cons, List.not_mem_nil, or_false] at hcm
    rcases hcm with rfl | rfl | rfl | rfl | rfl <;> first | exact Nat.le_add_right _ _ | exact Nat.le_refl _
  exact I1.fpOk hle (I1.hok.fresh hle)
end Mp
/-! Mp8: targets, what is walked, comprehensions. -/
namespace Mp
open PySem PySem.Spec
open PyProof.Rows L2
section
variable {K : Kx} {g g' : Gh} {c c2 : Cf} {sl sl2 : Sl} {mm mm2 : Mm} {σ σ2 : L2.St} {H H2 : Hp}
/-- from an inner ghost back to the outer one -/
theorem Rep.outer (r : Rep K g c sl mm σ H) (r2 : Rep K ⟨H, c.Z, c.ad⟩ c2 sl2 mm2 σ2 H2) : Rep K g c2 sl2 mm2 σ2 H2 := by
  obtain ⟨l, e⟩ := r2.pre
  refine ⟨r2.lenS, r2.lenA, r2.slot, r2.obj, r2.nd, fun b o e1 e2 => ?_, fun a z => ?_, r2.trk, ?_, fun a ha => ?_⟩
  · exact r2.frm b o (r.frm b o e1 fun q => e2 (by rw [e]; exact List.mem_append_left _ q)) e2
  · rcases r2.zin a z with q | q | q
    · exact r.zin a q
    · exact .inr (.inl (r.fresh0 q))
    · exact (r.adn a q).elim (fun w => .inr (.inr w)) fun w => .inr (.inl w)
  · obtain ⟨l0, e0⟩ := r.pre
    exact ⟨l0 ++ l, by rw [e, e0, List.append_assoc]⟩
  · rcases r2.adn a ha with q | q
    · exact r.adn a q
    · exact .inr (r.fresh0 q)
/-- as it stands, for an inner ghost -/
theorem Rep.inner (r : Rep K g c sl mm σ H) : Rep K ⟨H, c.Z, c.ad⟩ c sl mm σ H :=
  ⟨r.lenS, r.lenA, r.slot, r.obj, r.nd, fun _ _ e _ => e, fun _ z => .inl z, r.trk, ⟨[], by simp⟩, fun _ h => .inl h⟩
/-- something else is laid beside, or changed beside -/
theorem Rep.beside (r : Rep K g c sl mm σ H) {q : Addr} {o : HO} (nz : ¬ c.Z q) (na : q ∉ c.ad) (h0 : g.H0 q = none) : c.Le H c (upd H q o) ∧ Rep K g c sl mm σ (upd H q o) := by
  have l : c.Le H c (upd H q o) := ⟨⟨[], by simp⟩, fun _ z => z, fun b u z w => rd_upd (fun e => nz (e ▸ z)) w⟩
  refine ⟨l, r.lenS, r.lenA, fun i d e => ?_, fun k a x e1 e2 => ?_, r.nd, fun b u e1 e2 => ?_, r.zin, fun b z => ?_, r.pre, r.adn⟩
  · obtain ⟨v, w, rv⟩ := r.slot i d e
    exact ⟨v, w, RepV.le l d v rv⟩
  · have ha : a ≠ q := fun e => na (e ▸ List.mem_of_getElem? e1)
    have := r.obj k a x e1 e2
    cases x with
    | mu d => exact ⟨this.1, this.2.1, RepM.le l (upd_ne ha) this.2.2⟩
    | fz d => exact ⟨this.1, this.2.1, RepV.le l _ _ this.2.2⟩
  · rw [upd_ne (show b ≠ q from fun e => by rw [e, h0] at e1; cases e1)]
    exact r.frm b u e1 e2
  · rw [upd_ne (show b ≠ q from fun e => nz (e ▸ z))]
    exact r.trk b z
/-- slots forgotten -/
theorem wipeS_len (sl : Sl) : ∀ is : List Nat, (wipeS sl is).length = sl.length
  | [] => rfl
  | i :: is => by simp only [wipeS]; rw [List.length_set, wipeS_len sl is]
theorem wipeS_get {sl : Sl} {i : Nat} {d : D} : ∀ {is : List Nat}, (wipeS sl is)[i]? = some (some d) → i ∉ is ∧ sl[i]? = some (some d)
  | [], h => ⟨by simp, h⟩
  | j :: is, h => by
    simp only [wipeS] at h
    by_cases e : i = j
    · subst e
      rw [List.getElem?_set] at h
      simp only [if_true] at h
      split at h <;> simp at h
    · rw [List.getElem?_set_ne (Ne.symm e)] at h
      obtain ⟨h1, h2⟩ := wipeS_get h
      exact ⟨by simp [e, h1], h2⟩
theorem Rep.wipe (r : Rep K g c sl mm σ H) (is : List Nat) : Rep K g c (wipeS sl is) mm (L2.wipe σ is) H :=
  ⟨by rw [wipeS_len, L2.wipe_length, r.lenS], r.lenA, fun i d e => by
    obtain ⟨h1, h2⟩ := wipeS_get e
    rw [L2.wipe_out h1]
    exact r.slot i d h2, r.obj, r.nd, r.frm, r.zin, r.trk, r.pre, r.adn⟩
theorem wipe_get (σ : L2.St) {i : Nat} : ∀ {is : List Nat}, i ∈ is → (L2.wipe σ is)[i]? = if i < σ.length then some none else none
  | j :: is, h => by
    show ((L2.wipe σ is).set j none)[i]? = _
    by_cases e : i = j
    · subst e
      rw [List.getElem?_set]
      simp [L2.wipe_length]
    · rw [List.getElem?_set_ne (Ne.symm e)]
      exact wipe_get σ (by simpa [e] using h)
theorem wipe_set (σ : L2.St) {i : Nat} {is : List Nat} (v : Option V) (h : i ∈ is) : L2.wipe (σ.set i v) is = L2.wipe σ is := by
  apply List.ext_getElem?
  intro k
  by_cases hk : k ∈ is
  · rw [wipe_get _ hk, wipe_get _ hk]; simp
  · rw [L2.wipe_out hk, L2.wipe_out hk, List.getElem?_set_ne (fun e => hk (by rw [← e]; exact h))]
end
/-! ### targets -/
def tG (p : Pg) (tg : Tg) : TG := fun v σ H Q => ∃ g c sl mm d sl', Rep p.K g c sl mm σ H ∧ RepV p.K c.ad c.Z H d v ∧ bindT tg d sl = some sl' ∧ ∀ σ', Rep p.K g c sl' mm σ' H → L2.wipe σ' (tgIx tg) = L2.wipe σ (tgIx tg) → Q σ' H
def tgNames : List Expr → Option (List Str)
  | [] => some []
  | .Name x _ :: r => (tgNames r).map (x :: ·)
  | _ :: _ => none
section
variable {p : Pg} {X : Cx} {N : List Str} {sc : Scope}
theorem PGimp {A : Expr} {t t' : TG} (h : PG X A t) (i : ∀ v σ H Q, t' v σ H Q → t v σ H Q) : PG X A t' := ⟨fun pins s σ H v u Q I r q => h.run pins s σ H v u Q I r (i v σ H Q q)⟩
theorem g_nm {i : Nat} {x : Str} {pos : Pos} (hN : X.N.Nodup) (hi : X.N[i]? = some x) (hx : L2.Loc X.env.scope x) (hf : X.fn x = true ∨ X.env.scope.names.lookup x = some .local) : PG X (.Name x pos) (tG p (.nm i)) :=
  PGimp (pg_name hN hi hx hf) fun v σ H Q ⟨g, c, sl, mm, d, sl', r, rv, e, h⟩ => by
    simp only [bindT, Option.some.injEq] at e
    subst e
    exact h _ (r.set rv) (wipe_set σ _ (by simp [tgIx]))
def tSetAll (is : List Nat) : TGs := fun vs σ H Q => vs.length = is.length ∧ Q ((is.zip vs).foldl (fun s q => s.set q.1 (some q.2)) σ) H
/-- each name of a target -/
def NamesOk (X : Cx) (xs : List Str) (is : List Nat) : Prop := xs.length = is.length ∧ ∀ (k : Nat) (x : Str) (i : Nat), xs[k]? = some x → is[k]? = some i → X.N[i]? = some x ∧ L2.Loc X.env.scope x ∧ (X.fn x = true ∨ X.env.scope.names.lookup x = some .local)
theorem gs_names (hN : X.N.Nodup) : ∀ {es : List Expr} {xs : List Str} {is : List Nat}, tgNames es = some xs → NamesOk X xs is → PGs X es (tSetAll is) ∧ (assignEach es X.env).length = is.length ∧ (assignEach es X.env).findIdx? (·.1) = none
  | [], xs, is, h, ok => by
    simp only [tgNames, Option.some.injEq] at h
    subst h
    cases is with
    | cons i is => exact absurd ok.1 (by simp)
    | nil => exact ⟨⟨fun pins s σ H vs us Q I r q => pgs_nil.run pins s σ H vs us Q I r ⟨List.eq_nil_of_length_eq_zero q.1, by have := List.eq_nil_of_length_eq_zero q.1; subst this; exact q.2⟩⟩, rfl, rfl⟩
  | e :: es, xs, is, h, ok => by
    cases e <;> simp only [tgNames, reduceCtorEq] at h
    rename_i x pos
    cases q : tgNames es with
    | none => rw [q] at h; simp at h
    | some ys =>
      rw [q] at h
      simp only [Option.map_some, Option.some.injEq] at h
      subst h
      cases is with
      | nil => exact absurd ok.1 (by simp)
      | cons i is =>
        obtain ⟨h1, h2, h3⟩ := gs_names (is := is) hN q ⟨by simpa using ok.1, fun k y j a b => ok.2 (k + 1) y j (by simpa using a) (by simpa using b)⟩
        obtain ⟨a1, a2, a3⟩ := ok.2 0 x i rfl rfl
        refine ⟨⟨fun pins s σ H vs us Q I r w => (pgs_cons (pg_name (i := i) hN a1 a2 a3) h1 rfl).run pins s σ H vs us Q I r ?_⟩, by
          show (assignEach es X.env).length + 1 = is.length + 1
          rw [h2], by
          show ((false, assign (.Name x pos) X.env) :: assignEach es X.env).findIdx? (·.1) = none
          rw [List.findIdx?_cons, h3]; rfl⟩
        obtain ⟨w1, w2⟩ := w
        cases vs with
        | nil => exact absurd w1 (by simp)
        | cons v vs => exact ⟨v, vs, rfl, by simpa using w1, w2⟩
theorem setAll_rep {K : Kx} {g : Gh} {c : Cf} {mm : Mm} {H : Hp} : ∀ {is : List Nat} {xs : List D} {vs : List V} {sl : Sl} {σ : L2.St}, Rep K g c sl mm σ H → RepL K c.ad c.Z H xs vs → xs.length = is.length → Rep K g c ((is.zip xs).foldl (fun sl q => sl.set q.1 (some q.2)) sl) mm ((is.zip vs).foldl (fun s q => s.set q.1 (some q.2)) σ) H
  | [], _, _, _, _, r, _, _ => r
  | i :: is, xs, vs, sl, σ, r, rl, e => by
    cases xs with
    | nil => exact absurd e (by simp)
    | cons x xs =>
      simp only [RepL] at rl
      obtain ⟨v, t, rfl, h1, h2⟩ := rl
      show Rep K g c ((is.zip xs).foldl (fun sl q => sl.set q.1 (some q.2)) (sl.set i (some x))) mm ((is.zip t).foldl (fun s q => s.set q.1 (some q.2)) (σ.set i (some v))) H
      exact setAll_rep (r.set h1) h2 (by simpa using e)
theorem wipe_setAll {js : List Nat} : ∀ {is : List Nat} {vs : List V} {σ : L2.St}, (∀ i ∈ is, i ∈ js) → L2.wipe ((is.zip vs).foldl (fun s q => s.set q.1 (some q.2)) σ) js = L2.wipe σ js
  | [], _, _, _ => rfl
  | i :: is, vs, σ, h => by
    cases vs with
    | nil => rfl
    | cons v vs =>
      show L2.wipe ((is.zip vs).foldl (fun s q => s.set q.1 (some q.2)) (σ.set i (some v))) js = _
      rw [wipe_setAll (fun k hk => h k (by simp [hk])), wipe_set σ _ (h i (by simp))]
theorem tup_ref {K : Kx} {ad : List Addr} {Z : Addr → Prop} {H : Hp} {xs : List D} {v : V} (h : RepV K ad Z H (.tup xs) v) : ∃ a vs, v = .ref a ∧ SqT K H a vs ∧ RepL K ad Z H xs vs := by
  simp only [RepV] at h
  obtain ⟨a, vs, e, t, r⟩ := h
  exact ⟨a, vs, e, t.sq, r⟩
theorem g_tp {es : List Expr} {k : Nat} {pos : Pos} {xs : List Str} {is : List Nat} (hK : X.K = p.K) (hc : X.calm = true) (hN : X.N.Nodup) (h : tgNames es = some xs) (ok : NamesOk X xs is) : PG X (.Tuple es k pos) (tG p (.tp is)) := by
  obtain ⟨h1, h2, h3⟩ := gs_names hN h ok
  refine PGimp (pg_tup hc h1 h2 h3) fun v σ H Q ⟨g, c, sl, mm, d, sl', r, rv, e, hQ⟩ => ?_
  simp only [bindT] at e
  split at e
  · rename_i ds
    split at e
    · rename_i hl
      have hl' : ds.length = is.length := by simpa using hl
      simp only [Option.some.injEq] at e
      subst e
      obtain ⟨a, vs, rfl, t, rl⟩ := tup_ref rv
      rw [hK]
      exact ⟨a, vs, rfl, t, by rw [rl.len]; exact hl', by rw [rl.len]; exact hl', hQ _ (setAll_rep r rl hl') (wipe_setAll fun i hi => hi)⟩
    · cases e
  · cases e
end
/-! ### what is walked -/
structure Walks (p : Pg) (J : L2.It) (c0 : Cf) (H0 : Hp) (ds : List D) : Prop where
  step : ∀ (i : Nat) (d : D), ds[i]? = some d → ∀ g c sl mm σ H, c0.Le H0 c H → Rep p.K g c sl mm σ H → J.go i H ∧ ∀ x H', J.yld i H x H' → ∃ c', c.Le H c' H' ∧ Rep p.K g c' sl mm σ H' ∧ RepV p.K c'.ad c'.Z H' d x ∧ (∀ b o, H b = some o → H' b = some o) ∧ c'.ad = c.ad ∧ ∀ b, c'.Z b → c.Z b ∨ H b = none
  stop : ∀ g c sl mm σ H, c0.Le H0 c H → Rep p.K g c sl mm σ H → J.stop ds.length H
def PostI (p : Pg) (g : Gh) (c : Cf) (sl : Sl) (σ : L2.St) (H : Hp) (W : WX) (R : L2.It → Hp → Prop) : Option RI → Prop
  | none => False
  | some (.ok ds mm) => ∀ c' H' J, c.Le H c' H' → Rep p.K g c' sl mm σ H' → Walks p J c' H' ds → R J H'
  | some (.ex x mm) => ∀ c' dd H', c.Le H c' H' → Rep p.K g c' sl mm σ H' → RepX x dd → W (.ref (p.ea x.cls)) dd σ H'
def tI (p : Pg) (n : Nat) (W : WX) (it : It) : TI := fun σ H R => ∃ g c sl mm, Rep p.K g c sl mm σ H ∧ PostI p g c sl σ H W R (semI p.gv (p.cf n) it sl mm)
theorem le_addr {c : Cf} {H H' : Hp} {c' : Cf} (l : c.Le H c' H') : True := trivial
theorem getElem_len {α β : Type} {xs : List α} {ys : List β} (h : xs.length = ys.length) {i : Nat} {x : α} (e : xs[i]? = some x) : ∃ y, ys[i]? = some y := by
  have hi : i < xs.length := (List.getElem?_eq_some_iff.mp e).1
  exact ⟨ys[i], List.getElem?_eq_getElem (by omega)⟩
section
variable {p : Pg} {c0 : Cf} {H0 : Hp} {a b : Addr} {vs ws : List V} {ds es : List D}
theorem walks_list (hz : c0.Z a) (hr : Rd H0 a (.lst vs)) (rl : RepL p.K c0.ad c0.Z H0 ds vs) : Walks p (Itl p.K a) c0 H0 ds where
  step := fun i d e g c sl mm σ H l r => by
    obtain ⟨v, hv, rv⟩ := rl.get e
    have rd := l.rd a _ hz hr
    refine ⟨⟨vs, v, .inl rd, hv⟩, fun x H' ⟨eH, hx⟩ => ?_⟩
    subst eH
    have := hx vs (.inl rd)
    rw [hv] at this; cases this
    exact ⟨c, .refl, r, RepV.le l _ _ rv, fun _ _ e => e, rfl, fun _ z => .inl z⟩
  stop := fun g c sl mm σ H l r => ⟨vs, .inl (l.rd a _ hz hr), by rw [rl.len]; exact Nat.le_refl _⟩
theorem tupZ_keep {c c' : Cf} {H H' : Hp} (l : c.Le H c' H') {K : Kx} (t : TupZ K c.Z H a vs) : SqT K H' a vs := (t.le l).sq
theorem walks_tup (ht : TupZ p.K c0.Z H0 a vs) (rl : RepL p.K c0.ad c0.Z H0 ds vs) : Walks p (Itt p.K a) c0 H0 ds where
  step := fun i d e g c sl mm σ H l r => by
    obtain ⟨v, hv, rv⟩ := rl.get e
    have rd := tupZ_keep l ht
    refine ⟨⟨vs, v, rd, hv⟩, fun x H' ⟨eH, hx⟩ => ?_⟩
    subst eH
    have := hx vs rd
    rw [hv] at this; cases this
    exact ⟨c, .refl, r, RepV.le l _ _ rv, fun _ _ e => e, rfl, fun _ z => .inl z⟩
  stop := fun g c sl mm σ H l r => ⟨vs, tupZ_keep l ht, by rw [rl.len]; exact Nat.le_refl _⟩
theorem walks_rng (lo : Int) (k : Nat) : Walks p (Itr lo k) c0 H0 (rngL lo k) where
  step := fun i d e g c sl mm σ H l r => by
    unfold rngL at e
    rw [List.getElem?_map] at e
    have hi : i < k := by
      cases q : (List.range k)[i]? with
      | none => rw [q] at e; simp at e
      | some j => simpa using (List.getElem?_eq_some_iff.mp q).1
    rw [List.getElem?_range hi] at e
    simp only [Option.map_some, Option.some.injEq] at e
    subst e
    refine ⟨hi, fun x H' ⟨eH, hx⟩ => ?_⟩
    subst eH; subst hx
    exact ⟨c, .refl, r, okI, fun _ _ e => e, rfl, fun _ z => .inl z⟩
  stop := fun g c sl mm σ H l r => by
    show k ≤ (rngL lo k).length
    unfold rngL; simp
theorem pair_step {g : Gh} {c : Cf} {sl : Sl} {mm : Mm} {σ : L2.St} {H : Hp} {T : Addr} {x y : V} {d e : D} (r : Rep p.K g c sl mm σ H) (rx : RepV p.K c.ad c.Z H d x) (ry : RepV p.K c.ad c.Z H e y) (hT : H T = none) :
    ∃ c', c.Le H c' (upd H T (.tup [x, y])) ∧ Rep p.K g c' sl mm σ (upd H T (.tup [x, y])) ∧ RepV p.K c'.ad c'.Z (upd H T (.tup [x, y])) (.tup [d, e]) (.ref T) ∧ (∀ b o, H b = some o → upd H T (.tup [x, y]) b = some o) ∧ c'.ad = c.ad ∧ ∀ b, c'.Z b → c.Z b ∨ H b = none := by
  have l : c.Le H (c.add T) (upd H T (.tup [x, y])) := le_fresh r.trk hT
  refine ⟨c.add T, l, r.fresh hT, ?_, fun b o e => by rw [upd_ne (ne_of_none e hT)]; exact e, rfl, fun b z => z.imp id fun q => by rw [q]; exact hT⟩
  simp only [RepV]
  exact ⟨T, [x, y], rfl, .inl ⟨.inr rfl, .inl upd_same⟩, RepL.le l _ _ (RepL.cons rx (RepL.one ry))⟩
theorem zipD_get : ∀ {xs ys : List D} {i : Nat} {d : D}, (zipD xs ys)[i]? = some d → ∃ x y, xs[i]? = some x ∧ ys[i]? = some y ∧ d = .tup [x, y]
  | [], _, _, _, e => by simp [zipD] at e
  | _ :: _, [], _, _, e => by simp [zipD] at e
  | x :: xs, y :: ys, 0, d, e => by
    simp only [zipD, List.getElem?_cons_zero, Option.some.injEq] at e
    exact ⟨x, y, rfl, rfl, e.symm⟩
  | x :: xs, y :: ys, i + 1, d, e => by
    simp only [zipD, List.getElem?_cons_succ] at e
    obtain ⟨u, w, h1, h2, h3⟩ := zipD_get e
    exact ⟨u, w, by simpa using h1, by simpa using h2, h3⟩
theorem zipD_len : ∀ xs ys : List D, (zipD xs ys).length = min xs.length ys.length
  | [], _ => by simp [zipD]
  | _ :: _, [] => by simp [zipD]
  | x :: xs, y :: ys => by simp only [zipD, List.length_cons, zipD_len xs ys]; omega
theorem walks_zipT (ha : TupZ p.K c0.Z H0 a vs) (hb : TupZ p.K c0.Z H0 b ws) (ra : RepL p.K c0.ad c0.Z H0 ds vs) (rb : RepL p.K c0.ad c0.Z H0 es ws) : Walks p (RZ.ItzT p.K a b) c0 H0 (zipD ds es) where
  step := fun i d e g c sl mm σ H l r => by
    obtain ⟨x, y, h1, h2, rfl⟩ := zipD_get e
    obtain ⟨v, hv, rv⟩ := ra.get h1
    obtain ⟨w, hw, rw'⟩ := rb.get h2
    have qa := tupZ_keep l ha
    have qb := tupZ_keep l hb
    refine ⟨⟨vs, ws, v, w, qa, qb, hv, hw⟩, fun z H' ⟨T, x1, y1, ez, hT, eH, f1, f2⟩ => ?_⟩
    subst ez; subst eH
    have e1 := f1 vs qa
    rw [hv] at e1; cases e1
    have e2 := f2 ws qb
    rw [hw] at e2; cases e2
    exact pair_step r (RepV.le l _ _ rv) (RepV.le l _ _ rw') hT
  stop := fun g c sl mm σ H l r => ⟨vs, ws, tupZ_keep l ha, tupZ_keep l hb, by rw [zipD_len, ra.len, rb.len]; omega⟩
theorem walks_zipM (ha : TupZ p.K c0.Z H0 a vs) (zb : c0.Z b) (hb : Rd H0 b (.lst ws)) (ra : RepL p.K c0.ad c0.Z H0 ds vs) (rb : RepL p.K c0.ad c0.Z H0 es ws) : Walks p (ItzM p.K a b) c0 H0 (zipD ds es) where
  step := fun i d e g c sl mm σ H l r => by
    obtain ⟨x, y, h1, h2, rfl⟩ := zipD_get e
    obtain ⟨v, hv, rv⟩ := ra.get h1
    obtain ⟨w, hw, rw'⟩ := rb.get h2
    have qa : SqT p.K H a vs := tupZ_keep l ha
    have qb : SqL p.K H b ws := .inl (l.rd b _ zb hb)
    refine ⟨⟨vs, ws, v, w, qa, qb, hv, hw⟩, fun z H' ⟨T, x1, y1, ez, hT, eH, f1, f2⟩ => ?_⟩
    subst ez; subst eH
    have e1 := f1 vs qa
    rw [hv] at e1; cases e1
    have e2 := f2 ws qb
    rw [hw] at e2; cases e2
    exact pair_step r (RepV.le l _ _ rv) (RepV.le l _ _ rw') hT
  stop := fun g c sl mm σ H l r => ⟨vs, ws, tupZ_keep l ha, .inl (l.rd b _ zb hb), by rw [zipD_len, ra.len, rb.len]⟩
theorem walks_zipL (za : c0.Z a) (ha : Rd H0 a (.lst vs)) (zb : c0.Z b) (hb : Rd H0 b (.lst ws)) (ra : RepL p.K c0.ad c0.Z H0 ds vs) (rb : RepL p.K c0.ad c0.Z H0 es ws) : Walks p (Itz p.K a b) c0 H0 (zipD ds es) where
  step := fun i d e g c sl mm σ H l r => by
    obtain ⟨x, y, h1, h2, rfl⟩ := zipD_get e
    obtain ⟨v, hv, rv⟩ := ra.get h1
    obtain ⟨w, hw, rw'⟩ := rb.get h2
    have qa : SqL p.K H a vs := .inl (l.rd a _ za ha)
    have qb : SqL p.K H b ws := .inl (l.rd b _ zb hb)
    refine ⟨⟨vs, ws, v, w, qa, qb, hv, hw⟩, fun z H' ⟨T, x1, y1, ez, hT, eH, f1, f2⟩ => ?_⟩
    subst ez; subst eH
    have e1 := f1 vs qa
    rw [hv] at e1; cases e1
    have e2 := f2 ws qb
    rw [hw] at e2; cases e2
    exact pair_step r (RepV.le l _ _ rv) (RepV.le l _ _ rw') hT
  stop := fun g c sl mm σ H l r => ⟨vs, ws, .inl (l.rd a _ za ha), .inl (l.rd b _ zb hb), by rw [zipD_len, ra.len, rb.len]; omega⟩
theorem enmD_get : ∀ {xs : List D} {n i : Nat} {d : D}, (enmD n xs)[i]? = some d → ∃ x, xs[i]? = some x ∧ d = .tup [.int ((n + i : Nat) : Int), x]
  | [], _, _, _, e => by simp [enmD] at e
  | x :: xs, n, 0, d, e => by
    simp only [enmD, List.getElem?_cons_zero, Option.some.injEq] at e
    exact ⟨x, rfl, e.symm⟩
  | x :: xs, n, i + 1, d, e => by
    simp only [enmD, List.getElem?_cons_succ] at e
    obtain ⟨w, h2, h3⟩ := enmD_get e
    exact ⟨w, by simpa using h2, by rw [h3]; congr 3; omega⟩
theorem enmD_len : ∀ (n : Nat) (xs : List D), (enmD n xs).length = xs.length
  | _, [] => rfl
  | n, x :: xs => by simp only [enmD, List.length_cons, enmD_len]
theorem walks_enm (za : c0.Z a) (ha : Rd H0 a (.lst vs)) (ra : RepL p.K c0.ad c0.Z H0 ds vs) : Walks p (Ite p.K a) c0 H0 (enmD 0 ds) where
  step := fun i d e g c sl mm σ H l r => by
    obtain ⟨x, h1, rfl⟩ := enmD_get e
    obtain ⟨v, hv, rv⟩ := ra.get h1
    have qa : SqL p.K H a vs := .inl (l.rd a _ za ha)
    refine ⟨⟨vs, v, qa, hv⟩, fun z H' ⟨T, x1, ez, hT, eH, f1⟩ => ?_⟩
    subst ez; subst eH
    have e1 := f1 vs qa
    rw [hv] at e1; cases e1
    have e0 : ((0 + i : Nat) : Int) = (i : Int) := by omega
    rw [e0]
    exact pair_step r okI (RepV.le l _ _ rv) hT
  stop := fun g c sl mm σ H l r => ⟨vs, .inl (l.rd a _ za ha), by rw [enmD_len, ra.len]; exact Nat.le_refl _⟩
end
section
variable {p : Pg} {n : Nat} {N : List Str} {sc : Scope} {W : WX} {X : Cx} {A B tgE : Expr} {a b : E} {pos : Pos}
theorem PIimp {i i' : TI} (h : PI X tgE A i) (j : ∀ σ H R, i' σ H R → i σ H R) : PI X tgE A i' := ⟨fun pins s σ H R I q => h.run pins s σ H R I (j σ H R q)⟩
theorem PIor {i i' : TI} (h : PI X tgE A i) (h' : PI X tgE A i') : PI X tgE A (fun σ H R => i σ H R ∨ i' σ H R) := ⟨fun pins s σ H R I q => q.elim (h.run pins s σ H R I) (h'.run pins s σ H R I)⟩
theorem lst_ref {K : Kx} {ad : List Addr} {Z : Addr → Prop} {H : Hp} {xs : List D} {v : V} (h : RepV K ad Z H (.lst xs) v) : ∃ a vs, v = .ref a ∧ Z a ∧ Rd H a (.lst vs) ∧ RepL K ad Z H xs vs := by
  simp only [RepV] at h
  obtain ⟨a, vs, e, t, r⟩ := h
  exact ⟨a, vs, e, t.1, t.2, r⟩
theorem tupz_ref {K : Kx} {ad : List Addr} {Z : Addr → Prop} {H : Hp} {xs : List D} {v : V} (h : RepV K ad Z H (.tup xs) v) : ∃ a vs, v = .ref a ∧ TupZ K Z H a vs ∧ RepL K ad Z H xs vs := by
  simp only [RepV] at h
  obtain ⟨a, vs, e, t, r⟩ := h
  exact ⟨a, vs, e, t, r⟩
theorem walks_keysN {P : Program} {w : World} {c0 : Cf} {H0 : Hp} {d : Addr} {ob : Obj} {kvs : Nkv} {ks : List D} (hd : p.K.dn = dN P w) (hz : c0.Z d) (ht : Rd H0 d (dN P w d ob kvs)) (rk : RepL p.K c0.ad c0.Z H0 ks (kvs.map fun q => V.ref q.2.1)) :
    Walks p (ItN P w d ob kvs) c0 H0 ks where
  step := fun i x e g c sl mm σ H l r => by
    obtain ⟨v, hv, rv⟩ := rk.get e
    rw [List.getElem?_map] at hv
    obtain ⟨q, hq, rfl⟩ := Option.map_eq_some_iff.mp hv
    have hi : i < kvs.length := (List.getElem?_eq_some_iff.mp hq).1
    refine ⟨⟨l.rd d _ hz ht, hi⟩, fun y H' ⟨eH, q', hq', ey⟩ => ?_⟩
    subst eH; subst ey
    rw [hq] at hq'
    cases hq'
    exact ⟨c, .refl, r, RepV.le l _ _ rv, fun _ _ e => e, rfl, fun _ z => .inl z⟩
  stop := fun g c sl mm σ H l r => ⟨l.rd d _ hz ht, by
    have := rk.len
    rw [List.length_map] at this
    omega⟩
theorem i_seq (o : XOk p n N sc W X) (ha : PE X A (tE p n W a)) : PI X tgE A (tI p n W (.seq a)) := by
  have hf := s_frz ha
  refine PIimp (PIor (PIor (pi_list hf) (pi_tup hf)) (pi_keysN hf)) fun σ H R ⟨g, c, sl, mm, r, h⟩ => ?_
  simp only [semI] at h
  have eq : semE p.gv (p.cf n) (.un .frz a) sl mm = bindE (semE p.gv (p.cf n) a sl mm) frzS := by simp only [semE]; rfl
  rw [o.K]
  cases q : bindE (semE p.gv (p.cf n) a sl mm) frzS with
  | none => rw [q] at h; exact h.elim
  | some x =>
    rw [q] at h eq
    cases x with
    | ex x mm1 =>
      left; left
      refine ⟨g, c, sl, mm, r, ?_⟩
      rw [eq]; exact h
    | ok d mm1 =>
      cases d <;> simp only [listItems] at h <;> try exact h.elim
      · left; right
        refine ⟨g, c, sl, mm, r, ?_⟩
        rw [eq]
        intro c1 v H1 l1 r1 rv
        obtain ⟨q, vs, rfl, t, rl⟩ := tupz_ref rv
        exact ⟨q, rfl, ⟨vs, t.sq⟩, h c1 H1 _ l1 r1 (walks_tup t rl)⟩
      · left; left
        refine ⟨g, c, sl, mm, r, ?_⟩
        rw [eq]
        intro c1 v H1 l1 r1 rv
        obtain ⟨q, vs, rfl, z, t, rl⟩ := lst_ref rv
        exact ⟨q, rfl, ⟨vs, .inl t⟩, h c1 H1 _ l1 r1 (walks_list z t rl)⟩
      · right
        refine ⟨g, c, sl, mm, r, ?_⟩
        rw [eq]
        intro c1 v H1 l1 r1 rv
        simp only [RepV] at rv
        obtain ⟨q, ob, kvs, rfl, z, t, e1, _, rk, _⟩ := rv
        rw [o.dn] at t
        refine ⟨q, ob, kvs, rfl, t, h c1 H1 _ l1 r1 (walks_keysN (by rw [o.dn]) z t rk)⟩
theorem i_rng (o : XOk p n N sc W X) {p0 : Pos} {x : Str} (hx : x = "range") (hg : glB sc x = true) (hm : p.mg x = none) (ha : PE X A (tE p n W a)) (pa : plainA A = true) : PI X tgE (.Call (.Name x p0) [A] [] pos) (tI p n W (.rng a)) := by
  subst hx
  refine PIimp (pi_range1 (o.gl hg) (by rw [o.mg]; exact hm) (pa_cons ha pa_nil (star_plain pa _ _)) (star_plain pa _ _)) fun σ H R ⟨g, c, sl, mm, r, h⟩ => ?_
  simp only [semI] at h
  refine ⟨g, c, sl, mm, r, ?_⟩
  cases q : semE p.gv (p.cf n) a sl mm with
  | none => rw [q] at h; exact h.elim
  | some y =>
    rw [q] at h
    cases y with
    | ex x mm1 => exact h
    | ok d mm1 =>
      cases d <;> try exact h.elim
      rename_i k
      simp only [] at h
      cases z : small64 (4 * k) with
      | false => simp only [z] at h; exact h.elim
      | true =>
        simp only [z, if_true] at h
        simp only [small64, Bool.and_eq_true, decide_eq_true_eq] at z
        exact fun c1 v H1 l1 r1 rv => ⟨k, by rw [repV_int rv], by omega, by omega, h c1 H1 _ l1 r1 (walks_rng 0 _)⟩
theorem i_rng2 (o : XOk p n N sc W X) {p0 : Pos} {x : Str} (hx : x = "range") (hg : glB sc x = true) (hm : p.mg x = none) (ha : PE X A (tE p n W a)) (hb : PE X B (tE p n W b)) (pa : plainA A = true) (pb : plainA B = true) : PI X tgE (.Call (.Name x p0) [A, B] [] pos) (tI p n W (.rng2 a b)) := by
  subst hx
  refine PIimp (pi_range2 (o.gl hg) (by rw [o.mg]; exact hm) (pa_cons ha (pa_cons hb pa_nil (star_plain pb _ _)) (star_plain pa _ _)) (by rw [star_plain pa, star_plain pb]; rfl) (star_plain pb _ _)) fun σ H R ⟨g, c, sl, mm, r, h⟩ => ?_
  simp only [semI] at h
  refine ⟨g, c, sl, mm, r, ?_⟩
  cases q : semE p.gv (p.cf n) a sl mm with
  | none => rw [q] at h; exact h.elim
  | some y =>
    rw [q] at h
    cases y with
    | ex x mm1 => exact h
    | ok d mm1 =>
      cases d <;> try exact h.elim
      rename_i k
      simp only [] at h
      intro c1 v H1 l1 r1 rv
      refine ⟨g, c1, sl, mm1, r1, ?_⟩
      cases q2 : semE p.gv (p.cf n) b sl mm1 with
      | none => rw [q2] at h; exact h.elim
      | some y =>
        rw [q2] at h
        cases y with
        | ex x mm2 => exact fun c2 dd H2 l2 r2 w => h c2 dd H2 (l1.trans l2) r2 w
        | ok d mm2 =>
          cases d <;> try exact h.elim
          rename_i j
          simp only [] at h
          cases z : (small64 (4 * k) && small64 (4 * j)) with
          | false => simp only [z] at h; exact h.elim
          | true =>
            simp only [z, if_true] at h
            simp only [small64, Bool.and_eq_true, decide_eq_true_eq] at z
            exact fun c2 u H2 l2 r2 ru => ⟨k, j, by rw [repV_int rv, repV_int ru], ⟨by omega, by omega, by omega, by omega⟩, h c2 H2 _ (l1.trans l2) r2 (walks_rng k _)⟩
theorem i_zip (o : XOk p n N sc W X) {p0 tpos : Pos} {x : Str} {elts : List Expr} {kk : Nat} (hx : x = "zip") (hg : glB sc x = true) (hm : p.mg x = none) (ha : PE X A (tE p n W a)) (hb : PE X B (tE p n W b)) (pa : plainA A = true) (pb : plainA B = true) : PI X (.Tuple elts kk tpos) (.Call (.Name x p0) [A, B] [] pos) (tI p n W (.zip a b)) := by
  subst hx
  have fa := s_frz ha
  have fb := s_frz hb
  refine PIimp (PIor (RZ.pi_zipA (o.gl hg) (by rw [o.mg]; exact hm) (pa_cons fa (pa_cons fb pa_nil (star_plain pb _ _)) (star_plain pa _ _)) (star_plain pa _ _) (star_none (by simp [pb]) _ _)) (pi_zipM (o.gl hg) (by rw [o.mg]; exact hm) (pa_cons fa (pa_cons fb pa_nil (star_plain pb _ _)) (star_plain pa _ _)) (star_plain pa _ _) (star_none (by simp [pb]) _ _))) fun σ H R ⟨g, c, sl, mm, r, h⟩ => ?_
  simp only [semI] at h
  have eqa : ∀ sl mm, semE p.gv (p.cf n) (.un .frz a) sl mm = bindE (semE p.gv (p.cf n) a sl mm) frzS := fun sl mm => by simp only [semE]; rfl
  have eqb : ∀ sl mm, semE p.gv (p.cf n) (.un .frz b) sl mm = bindE (semE p.gv (p.cf n) b sl mm) frzS := fun sl mm => by simp only [semE]; rfl
  cases q : bindE (semE p.gv (p.cf n) a sl mm) frzS with
  | none => rw [q] at h; exact h.elim
  | some y =>
    rw [q] at h
    cases y with
    | ex x mm1 =>
      left
      refine ⟨g, c, sl, mm, r, ?_⟩
      rw [eqa, q]
      exact h
    | ok d mm1 =>
      simp only [] at h
      cases q2 : bindE (semE p.gv (p.cf n) b sl mm1) frzS with
      | none => rw [q2] at h; exact h.elim
      | some y =>
        rw [q2] at h
        cases y with
        | ex x mm2 =>
          left
          refine ⟨g, c, sl, mm, r, ?_⟩
          rw [eqa, q]
          intro c1 v H1 l1 r1 rv
          refine ⟨g, c1, sl, mm1, r1, ?_⟩
          rw [eqb, q2]
          exact fun c2 dd H2 l2 r2 w => h c2 dd H2 (l1.trans l2) r2 w
        | ok e mm2 =>
          rw [o.K]
          cases d <;> (try exact h.elim) <;> cases e <;> try exact h.elim
          · left
            refine ⟨g, c, sl, mm, r, ?_⟩
            rw [eqa, q]
            intro c1 v H1 l1 r1 rv
            refine ⟨g, c1, sl, mm1, r1, ?_⟩
            rw [eqb, q2]
            intro c2 u H2 l2 r2 ru
            have rv2 := RepV.le l2 _ _ rv
            obtain ⟨q1, vs, rfl, t1, rl1⟩ := tupz_ref rv2
            obtain ⟨q3, ws, rfl, t2, rl2⟩ := tupz_ref ru
            exact ⟨q1, q3, vs, ws, rfl, .inr ⟨t1.sq, t2.sq, h c2 H2 _ (l1.trans l2) r2 (walks_zipT t1 t2 rl1 rl2)⟩⟩
          · right
            refine ⟨g, c, sl, mm, r, ?_⟩
            rw [eqa, q]
            intro c1 v H1 l1 r1 rv
            refine ⟨g, c1, sl, mm1, r1, ?_⟩
            rw [eqb, q2]
            intro c2 u H2 l2 r2 ru
            have rv2 := RepV.le l2 _ _ rv
            obtain ⟨q1, vs, rfl, t1, rl1⟩ := tupz_ref rv2
            obtain ⟨q3, ws, rfl, z2, t2, rl2⟩ := lst_ref ru
            exact ⟨q1, q3, vs, ws, rfl, t1.sq, .inl t2, h c2 H2 _ (l1.trans l2) r2 (walks_zipM t1 z2 t2 rl1 rl2)⟩
          · left
            refine ⟨g, c, sl, mm, r, ?_⟩
            rw [eqa, q]
            intro c1 v H1 l1 r1 rv
            refine ⟨g, c1, sl, mm1, r1, ?_⟩
            rw [eqb, q2]
            intro c2 u H2 l2 r2 ru
            have rv2 := RepV.le l2 _ _ rv
            obtain ⟨q1, vs, rfl, z1, t1, rl1⟩ := lst_ref rv2
            obtain ⟨q3, ws, rfl, z2, t2, rl2⟩ := lst_ref ru
            exact ⟨q1, q3, vs, ws, rfl, .inl ⟨.inl t1, .inl t2, h c2 H2 _ (l1.trans l2) r2 (walks_zipL z1 t1 z2 t2 rl1 rl2)⟩⟩
end
end Mp
/-! Mp9: comprehensions. -/
namespace Mp
open PySem PySem.Spec
open PyProof.Rows L2
abbrev W0 : WX := fun _ _ _ _ => False
theorem wipe_wipe (σ : L2.St) (is : List Nat) : L2.wipe (L2.wipe σ is) is = L2.wipe σ is := by
  apply List.ext_getElem?
  intro k
  by_cases hk : k ∈ is
  · rw [wipe_get _ hk, wipe_get _ hk, L2.wipe_length]
  · rw [L2.wipe_out hk, L2.wipe_out hk]
section
variable {K : Kx} {g : Gh} {c c2 : Cf} {sl sl2 : Sl} {mm mm2 : Mm} {σ σ2 : L2.St} {H H2 : Hp} {q : Addr}
/-- the slots as they were, all else as it is now -/
theorem Rep.slots (r : Rep K g c sl mm σ H) (l : c.Le H c2 H2) (r2 : Rep K g c2 sl2 mm2 σ2 H2) : Rep K g c2 sl mm2 σ H2 :=
  ⟨r.lenS, r2.lenA, fun i d e => by
    obtain ⟨v, w, rv⟩ := r.slot i d e
    exact ⟨v, w, RepV.le l d v rv⟩, r2.obj, r2.nd, r2.frm, r2.zin, r2.trk, r2.pre, r2.adn⟩
/-- what stands beside, over an inner ghost -/
theorem Rep.keepD {o : HO} (r : Rep K ⟨H, c.Z, c.ad⟩ c2 sl2 mm2 σ2 H2) (hq : H q = some o) (na : q ∉ c.ad) (nz : ¬ c.Z q) : H2 q = some o ∧ q ∉ c2.ad ∧ ¬ c2.Z q := by
  have n2 : q ∉ c2.ad := fun z => (r.adn q z).elim na fun w => by
    have w' : H q = none := w
    rw [hq] at w'; cases w'
  refine ⟨r.frm q o hq n2, n2, fun z => ?_⟩
  rcases r.zin q z with w | w | w
  · exact nz w
  · have w' : H q = none := w
    rw [hq] at w'; cases w'
  · exact na w
def hid (H : Hp) (q : Addr) : Hp := fun b => if b = q then none else H b
theorem hid_upd {o : HO} (h : H q = some o) : upd (hid H q) q o = H := by
  funext b
  unfold upd hid
  by_cases e : b = q
  · subst e; simp [h]
  · simp [e]
theorem Rep.without (r : Rep K g c sl mm σ H) (nz : ¬ c.Z q) (na : q ∉ c.ad) (h0 : g.H0 q = none) : Rep K g c sl mm σ (hid H q) := by
  have hne : ∀ b, b ≠ q → hid H q b = H b := fun b e => by unfold hid; rw [if_neg e]
  have l : c.Le H c (hid H q) := ⟨⟨[], by simp⟩, fun _ z => z, fun b u z w => by
    have e : b ≠ q := fun e => nz (e ▸ z)
    unfold Rd at w ⊢
    rw [hne b e]; exact w⟩
  refine ⟨r.lenS, r.lenA, fun i d e => ?_, fun k a x e1 e2 => ?_, r.nd, fun b u e1 e2 => ?_, r.zin, fun b z => ?_, r.pre, r.adn⟩
  · obtain ⟨v, w, rv⟩ := r.slot i d e
    exact ⟨v, w, RepV.le l d v rv⟩
  · have ha : a ≠ q := fun e => na (e ▸ List.mem_of_getElem? e1)
    have := r.obj k a x e1 e2
    cases x with
    | mu d => exact ⟨this.1, this.2.1, RepM.le l (hne a ha) this.2.2⟩
    | fz d => exact ⟨this.1, this.2.1, RepV.le l _ _ this.2.2⟩
  · rw [hne b (fun e => by rw [e, h0] at e1; cases e1)]
    exact r.frm b u e1 e2
  · rw [hne b (fun e => nz (e ▸ z))]
    exact r.trk b z
/-- a thing that stood beside is settled, is taken over -/
theorem Rep.settle {o : HO} (r : Rep K g c sl mm σ H) (nz : ¬ c.Z q) (na : q ∉ c.ad) (h0 : g.H0 q = none) (hq : H q = some o) : c.Le H (c.add q) H ∧ Rep K g (c.add q) sl mm σ H := by
  refine ⟨⟨⟨[], by simp [Cf.add]⟩, fun a z => .inl z, fun _ _ _ w => w⟩, ?_⟩
  have := (r.without nz na h0).fresh (p := q) (o := o) (by unfold hid; simp)
  rw [hid_upd hq] at this
  exact this
theorem Rep.take {vs : List V} {ds : List D} (r : Rep K g c sl mm σ H) (nz : ¬ c.Z q) (na : q ∉ c.ad) (h0 : g.H0 q = none) (hq : H q = some (.lst vs)) (hp : pureDs ds = true) (rl : RepL K c.ad c.Z H ds vs) :
    c.Le H (c.own q) H ∧ Rep K g (c.own q) sl (mm ++ [.mu (.lst ds)]) σ H := by
  refine ⟨⟨⟨[q], rfl⟩, fun a z => z, fun _ _ _ w => w⟩, ?_⟩
  have hne : ∀ b, b ≠ q → hid H q b = H b := fun b e => by unfold hid; rw [if_neg e]
  have l : c.Le H c (hid H q) := ⟨⟨[], by simp⟩, fun _ z => z, fun b u z w => by
    have e : b ≠ q := fun e => nz (e ▸ z)
    unfold Rd at w ⊢
    rw [hne b e]; exact w⟩
  have := (r.without nz na h0).own (p := q) (vs := vs) (by unfold hid; simp) hp (RepL.le l _ _ rl)
  rw [hid_upd hq] at this
  exact this
end
section
variable {p : Pg} {n : Nat} {N : List Str} {sc : Scope} {W : WX} {X : Cx} {pos : Pos}
theorem drop_at {α : Type} {xs : List α} {i : Nat} {x : α} (e : xs[i]? = some x) : xs.drop i = x :: xs.drop (i + 1) := by
  have hi : i < xs.length := (List.getElem?_eq_some_iff.mp e).1
  rw [List.drop_eq_getElem_cons hi]
  have := (List.getElem?_eq_some_iff.mp e).2
  rw [this]
/-- what a comprehension's turns need -/
structure LcInv (p : Pg) (n : Nat) (W : WX) (g : Gh) (c1 : Cf) (H1 : Hp) (sl : Sl) (σ : L2.St) (q : Addr) (Q : VK) (k : D → Mm → Option RE) (tg : Tg) (cnd elt : E) (xs : List D) (H : Hp) : Prop where
  ex : ∃ c2 mm2 acc vs, c1.Le H1 c2 H ∧ Rep p.K g c2 sl mm2 σ H ∧ H q = some (.lst vs) ∧ q ∉ c2.ad ∧ ¬ c2.Z q ∧ RepL p.K c2.ad c2.Z H acc vs ∧ pureDs acc = true ∧
    PostE p g c2 sl σ H W Q (bindE (lcS tg (semE p.gv (p.cf n) cnd) (semE p.gv (p.cf n) elt) sl xs acc mm2) k)
theorem lc_turn {g : Gh} {c1 : Cf} {H1 H : Hp} {sl : Sl} {σ : L2.St} {q : Addr} {Q : VK} {k : D → Mm → Option RE} {tg : Tg} {cnd elt : E} {x : D} {xs : List D} (h0 : g.H0 q = none)
    (hI : LcInv p n W g c1 H1 sl σ q Q k tg cnd elt (x :: xs) H) : ∃ c2 mm2, c1.Le H1 c2 H ∧ Rep p.K g c2 sl mm2 σ H ∧ ∀ v H', (∃ c', c2.Le H c' H' ∧ Rep p.K g c' sl mm2 σ H' ∧ RepV p.K c'.ad c'.Z H' x v ∧ (∀ b o, H b = some o → H' b = some o) ∧ c'.ad = c2.ad ∧ ∀ b, c'.Z b → c2.Z b ∨ H b = none) →
      tG p tg v (L2.wipe σ (tgIx tg)) H' fun σ2 H2 => L2.wipe σ2 (tgIx tg) = L2.wipe σ (tgIx tg) ∧ tB p n W0 cnd σ2 H2 fun b H3 =>
        if b = true then tE p n W0 elt σ2 H3 fun y H4 => ∃ acc, H4 q = some (.lst acc) ∧ acc.length < sizeLine ∧ LcInv p n W g c1 H1 sl σ q Q k tg cnd elt xs (upd H4 q (.lst (acc ++ [y]))) else LcInv p n W g c1 H1 sl σ q Q k tg cnd elt xs H3 := by
  obtain ⟨c2, mm2, acc, vs, l2, r2, hq, na, nz, rl, pl, h⟩ := hI.ex
  refine ⟨c2, mm2, l2, r2, fun v H' ⟨c3, l3, r3, rv, keep, ead, ez⟩ => ?_⟩
  have hq3 := keep q _ hq
  have na3 : q ∉ c3.ad := by rw [ead]; exact na
  have nz3 : ¬ c3.Z q := fun z => (ez q z).elim nz fun w => by rw [hq] at w; cases w
  simp only [lcS] at h
  cases e1 : bindT tg x (wipeS sl (tgIx tg)) with
  | none => simp only [e1] at h; exact h.elim
  | some sl' =>
    simp only [e1] at h
    refine ⟨g, c3, wipeS sl (tgIx tg), mm2, x, sl', r3.wipe _, rv, e1, fun σ2 r4 hw => ⟨by rw [hw, wipe_wipe], ⟨H', c3.Z, c3.ad⟩, c3, sl', mm2, r4.inner, ?_⟩⟩
    cases e2 : semE p.gv (p.cf n) cnd sl' mm2 with
    | none => simp only [e2] at h; exact h.elim
    | some y =>
      cases y with
      | ex xx mm3 => simp only [e2] at h; exact h.elim
      | ok d mm3 =>
        cases d with
        | bl b =>
          intro c4 H3 l4 r5
          obtain ⟨hq4, na4, nz4⟩ := r5.keepD hq3 na3 nz3
          have r6 := r4.outer r5
          have l6 : c2.Le H c4 H3 := l3.trans l4
          cases b with
          | false =>
            simp only [e2] at h
            rw [if_neg Bool.false_ne_true]
            exact ⟨⟨c4, mm3, acc, vs, l2.trans l6, r2.slots l6 r6, hq4, na4, nz4, RepL.le l6 _ _ rl, pl, PostE.from h l6⟩⟩
          | true =>
            simp only [e2] at h
            rw [if_pos rfl]
            refine ⟨⟨H3, c4.Z, c4.ad⟩, c4, sl', mm3, r6.inner, ?_⟩
            cases e3 : semE p.gv (p.cf n) elt sl' mm3 with
            | none => simp only [e3] at h; exact h.elim
            | some y =>
              cases y with
              | ex xx mm4 => simp only [e3] at h; exact h.elim
              | ok d mm4 =>
                simp only [e3] at h
                intro c5 w H4 l7 r7 rw'
                obtain ⟨hq5, na5, nz5⟩ := r7.keepD hq4 na4 nz4
                have r8 := r6.outer r7
                have l8 : c2.Le H c5 H4 := l6.trans l7
                have rl5 := RepL.le l8 _ _ rl
                cases z : (pureD d && decide (acc.length < szl)) with
                | false => simp only [z] at h; exact h.elim
                | true =>
                  simp only [z, if_true] at h
                  rw [Bool.and_eq_true] at z
                  refine ⟨vs, hq5, by rw [rl5.len]; exact of_decide_eq_true z.2, ?_⟩
                  obtain ⟨l9, r9⟩ := (r2.slots l8 r8).beside (o := .lst (vs ++ [w])) nz5 na5 h0
                  exact ⟨⟨c5, mm4, acc ++ [d], vs ++ [w], l2.trans (l8.trans l9), r9, upd_same, na5, nz5, RepL.le l9 _ _ (rl5.app (RepL.one rw')), pureDs_app pl (pureDs_one z.1), PostE.from h (l8.trans l9)⟩⟩
        | _ => simp only [e2] at h; exact h.elim
theorem lc_end {g : Gh} {c1 : Cf} {H1 H : Hp} {sl : Sl} {σ : L2.St} {q : Addr} {Q : VK} {mu : Bool} {tg : Tg} {cnd elt : E} (h0 : g.H0 q = none)
    (hI : LcInv p n W g c1 H1 sl σ q Q (fun d mm2 => if mu then okE (.m mm2.length) (mm2 ++ [.mu d]) else okE d mm2) tg cnd elt [] H) : Q (.ref q) H := by
  obtain ⟨c2, mm2, acc, vs, l2, r2, hq, na, nz, rl, pl, h⟩ := hI.ex
  simp only [lcS, okE, bindE] at h
  cases mu with
  | false =>
    simp only [Bool.false_eq_true, if_false] at h
    obtain ⟨l3, r3⟩ := r2.settle nz na h0 hq
    refine h (c2.add q) _ H l3 r3 ?_
    simp only [RepV]
    exact ⟨q, vs, rfl, ⟨.inr rfl, .inl hq⟩, RepL.le l3 _ _ rl⟩
  | true =>
    simp only [if_true] at h
    obtain ⟨l3, r3⟩ := r2.take nz na h0 hq pl rl
    refine h (c2.own q) _ H l3 r3 ?_
    simp only [RepV]
    exact ⟨q, by rw [← r2.lenA]; simp [Cf.own], rfl⟩
/-- the reading of a comprehension -/
theorem lc_read {it : It} {mu : Bool} {tg : Tg} {cnd elt : E} {σ : L2.St} {H : Hp} {Q : VK} (h : tE p n W (.lc mu tg elt it cnd) σ H Q) : tLc (tI p n W it) (tG p tg) (tB p n W0 cnd) (tE p n W0 elt) (tgIx tg) σ H Q := by
  obtain ⟨g, c, sl, mm, r, h⟩ := h
  simp only [semE] at h
  refine ⟨g, c, sl, mm, r, ?_⟩
  cases e : semI p.gv (p.cf n) it sl mm with
  | none => rw [e] at h; exact h.elim
  | some y =>
    rw [e] at h
    cases y with
    | ex x mm1 => exact h
    | ok xs mm1 =>
      intro c1 H1 J l1 r1 wk q hq
      have nz : ¬ c1.Z q := fun z => r1.trk q z hq
      have na : q ∉ c1.ad := fun z => r1.adTrk z hq
      have h0 := r1.fresh0 hq
      obtain ⟨lb, rb⟩ := r1.beside (o := .lst []) nz na h0
      refine ⟨fun i m H2 => i + m = xs.length ∧ LcInv p n W g c1 (upd H1 q (.lst [])) sl σ q Q (fun d mm2 => if mu then okE (.m mm2.length) (mm2 ++ [.mu d]) else okE d mm2) tg cnd elt (xs.drop i) H2, ⟨xs.length, by omega, ⟨c1, mm1, [], [], .refl, rb, upd_same, na, nz, RepL.nil, rfl, PostE.from h (l1.trans lb)⟩⟩, fun i m H2 ⟨em, hI⟩ => ?_⟩
      by_cases hi : i < xs.length
      · have ex : xs[i]? = some xs[i] := List.getElem?_eq_getElem hi
        rw [drop_at ex] at hI
        obtain ⟨c2, mm2, l2, r2, turn⟩ := lc_turn h0 hI
        obtain ⟨go, yl⟩ := wk.step i _ ex g c2 sl mm2 σ H2 (lb.trans l2) r2
        exact .inr ⟨go, fun H3 => LcInv p n W g c1 (upd H1 q (.lst [])) sl σ q Q (fun d mm2 => if mu then okE (.m mm2.length) (mm2 ++ [.mu d]) else okE d mm2) tg cnd elt (xs.drop (i + 1)) H3, fun H3 hN => ⟨m - 1, by omega, by omega, hN⟩, fun x H3 hy => turn x H3 (yl x H3 hy)⟩
      · have ei : i = xs.length := by omega
        rw [List.drop_eq_nil_of_le (by omega)] at hI
        obtain ⟨c2, mm2, acc, vs, l2, r2, _⟩ := hI.ex
        refine .inl ⟨by rw [ei]; exact wk.stop g c2 sl mm2 σ H2 (lb.trans l2) r2, lc_end h0 hI⟩
/-- [elt for tg in it if cnd] -/
theorem s_lc (o : XOk p n N sc W X) {it : It} {mu : Bool} {tg : Tg} {cnd elt : E} {eltE tgE iterE : Expr} {ifs : List Expr} {scope : Scope} {own : List (Str × Nat)} (hi : PI X tgE iterE (tI p n W it)) (ok : BlkOk X.N X.env.scope scope own) (ho : own.map (·.2) = tgIx tg)
    (hg : ∀ (s : Shared) (H : Hp) (C : Addr) (cl : List (Str × Addr)) (fp : List Addr), PG (X.blk s H scope (compEnvC scope cl C X.env) fp) tgE (tG p tg)) (ht : ∀ (s : Shared) (H : Hp) (C : Addr) (cl : List (Str × Addr)) (fp : List Addr), PTs (X.blk s H scope (compEnvC scope cl C X.env) fp) ifs (tB p n W0 cnd))
    (he : ∀ (s : Shared) (H : Hp) (C : Addr) (cl : List (Str × Addr)) (fp : List Addr), PE (X.blk s H scope (compEnvC scope cl C X.env) fp) eltE (tE p n W0 elt)) (pi : plainA iterE = true) : PE X (.ListComp eltE [⟨tgE, iterE, ifs, 0⟩] scope pos) (tE p n W (.lc mu tg elt it cnd)) := by
  refine PEimp (pe_lc o.calm (by rw [o.nm]; exact o.nd) hi ok hg ht he (fold_plain pi _)) fun σ H Q h => ?_
  rw [ho]
  exact lc_read h
end
end Mp
/-! Mp9b: dict displays. -/
namespace Mp
open PySem PySem.Spec
open PyProof.Rows L2
section
variable (p : Pg) (n : Nat) (W : WX)
def trsOf : List D → Es → List (TE × TE)
  | k :: ks, .cons e es => (tC (kV (keyT k)), tE p n W e) :: trsOf ks es
  | _, _ => []
end
section
variable {p : Pg} {n : Nat} {N : List Str} {sc : Scope} {W : WX} {X : Cx} {pos : Pos}
theorem pairs_ok {g : Gh} : ∀ {es : Es} {ks : List D} {c : Cf} {sl : Sl} {mm : Mm} {σ : L2.St} {H : Hp} {F : List (V × V) → Hp → Prop}, ks.length = es.len → Rep p.K g c sl mm σ H →
    PostL p g c sl σ H W (fun vs H' => F ((ks.map fun k => kV (keyT k)).zip vs) H') (semEs p.gv (p.cf n) es sl mm) → tPairs (trsOf p n W ks es) σ H F
  | .nil, ks, c, sl, mm, σ, H, F, hl, r, h => by
    have e : ks = [] := by
      cases ks with
      | nil => rfl
      | cons k ks => simp [Es.len] at hl
    subst e
    simp only [semEs] at h
    exact h c [] H .refl r RepL.nil
  | .cons e es, [], c, sl, mm, σ, H, F, hl, r, h => by simp [Es.len] at hl
  | .cons e es, k :: ks, c, sl, mm, σ, H, F, hl, r, h => by
    simp only [semEs] at h
    refine ⟨g, c, sl, mm, r, ?_⟩
    cases q : semE p.gv (p.cf n) e sl mm with
    | none => rw [q] at h; exact h.elim
    | some x =>
      rw [q] at h
      cases x with
      | ex x mm1 => exact h
      | ok d mm1 =>
        intro c1 v H1 l1 r1 rv1
        refine pairs_ok (by simpa [Es.len] using hl) r1 ?_
        simp only [] at h
        cases q2 : semEs p.gv (p.cf n) es sl mm1 with
        | none => simp only [q2] at h; exact h.elim
        | some y =>
          simp only [q2] at h
          cases y with
          | ex x mm2 => exact fun c2 dd H2 l2 r2 q => h c2 dd H2 (l1.trans l2) r2 q
          | ok ds mm2 => exact fun c2 vs H2 l2 r2 rl => h c2 (v :: vs) H2 (l1.trans l2) r2 (RepL.cons (RepV.le l2 _ _ rv1) rl)
theorem merge_new : ∀ {kvs acc : List (L2.Key × V)}, ((acc ++ kvs).map (·.1)).Nodup → mergeK acc kvs = acc ++ kvs
  | [], acc, _ => by simp [mergeK]
  | q :: kvs, acc, h => by
    have hn : valV acc q.1 = none := by
      cases e : valV acc q.1 with
      | none => rfl
      | some v =>
        exfalso
        unfold valV at e
        obtain ⟨z, hz, _⟩ := Option.map_eq_some_iff.mp e
        have h1 := List.mem_of_find?_eq_some hz
        have h3 := List.find?_some hz
        have h2 : z.1 = q.1 := of_decide_eq_true h3
        rw [List.map_append, List.nodup_append] at h
        exact h.2.2 z.1 (List.mem_map_of_mem h1) q.1 (by simp) h2
    show mergeK (putK acc q.1 q.2) kvs = _
    rw [putK_new _ hn, merge_new (by simpa [List.append_assoc] using h), List.append_assoc]; rfl
theorem memD_key {x : D} (hx : isKT x = true) : ∀ {ks : List D}, ks.all isKT = true → memD x ks = false → keyT x ∉ ks.map keyT
  | [], _, _ => by simp
  | k :: ks, hk, h => by
    rw [List.all_cons, Bool.and_eq_true] at hk
    simp only [memD, List.any_cons, Bool.or_eq_false_iff] at h
    rw [eqD_key hk.1 hx] at h
    rw [List.map_cons, List.mem_cons, not_or]
    exact ⟨fun z => of_decide_eq_false h.1 z.symm, memD_key hx hk.2 h.2⟩
theorem ndK_nodup : ∀ {ks : List D}, ks.all isKT = true → ndK ks = true → (ks.map keyT).Nodup
  | [], _, _ => by simp
  | k :: ks, hk, h => by
    rw [List.all_cons, Bool.and_eq_true] at hk
    simp only [ndK, Bool.and_eq_true, Bool.not_eq_true'] at h
    rw [List.map_cons, List.nodup_cons]
    exact ⟨memD_key hk.1 hk.2 h.1, ndK_nodup hk.2 h.2⟩
theorem pure_keys : ∀ {ks : List D}, ks.all isKT = true → pureDs ks = true
  | [], _ => rfl
  | k :: ks, h => by
    rw [List.all_cons, Bool.and_eq_true] at h
    simp only [pureDs, Bool.and_eq_true]
    refine ⟨?_, pure_keys h.2⟩
    have := h.1
    cases k <;> simp only [isKT, Bool.false_eq_true] at this <;> rfl
theorem zip_kvs : ∀ {ks : List D} {vs : List V}, ks.length = vs.length → (ks.map fun k => kV (keyT k)).zip vs = (((ks.map keyT).zip vs).map fun q => (kV q.1, q.2)) ∧ ((ks.map keyT).zip vs).map (·.1) = ks.map keyT ∧ ((ks.map keyT).zip vs).map (·.2) = vs
  | [], [], _ => ⟨rfl, rfl, rfl⟩
  | k :: ks, v :: vs, h => by
    obtain ⟨a, b, c⟩ := zip_kvs (ks := ks) (vs := vs) (by simpa using h)
    simp only [List.map_cons, List.zip_cons_cons, a, b, c, and_self]
theorem keys_kV {ks : List D} {kvs : List (L2.Key × V)} (e : kvs.map (·.1) = ks.map keyT) : (kvs.map fun q => kV q.1) = ks.map fun k => kV (keyT k) := by
  have := congrArg (List.map kV) e
  simpa [List.map_map, Function.comp_def] using this
theorem repL_keys {K : Kx} {ad : List Addr} {Z : Addr → Prop} {H : Hp} : ∀ {ks : List D}, ks.all isKT = true → ks.all okKT = true → RepL K ad Z H ks (ks.map fun k => kV (keyT k))
  | [], _, _ => RepL.nil
  | k :: ks, h1, h2 => by
    rw [List.all_cons, Bool.and_eq_true] at h1 h2
    refine RepL.cons ?_ (repL_keys h1.2 h2.2)
    have a := h1.1
    have b := h2.1
    cases k <;> simp only [isKT, Bool.false_eq_true] at a
    · simp only [RepV]; rfl
    · simp only [RepV]; exact ⟨rfl, b⟩
theorem s_dsp {keys : List (Option Expr)} {vals : List Expr} {ks : List D} {es : Es} (hp : PPs X pos keys vals (trsOf p n W ks es)) (hall : keys.all (·.isSome) = true) (hl : keys.length = vals.length) (h0 : keys ≠ []) (h15 : keys.length ≤ 15) (hks : ks.length = es.len) :
    PE X (.Dict keys vals pos) (tE p n W (.dsp ks es)) :=
  PEimp (pe_disp hp hall hl h0 h15) fun σ H Q ⟨g, c, sl, mm, r, h⟩ => by
    simp only [semE] at h
    intro q hq
    have nz : ¬ c.Z q := fun z => r.trk q z hq
    have na : q ∉ c.ad := fun z => r.adTrk z hq
    have h0' := r.fresh0 hq
    obtain ⟨lb, rb⟩ := r.beside (o := .dK []) nz na h0'
    refine pairs_ok (g := ⟨upd H q (.dK []), c.Z, c.ad⟩) hks rb.inner ?_
    cases e : semEs p.gv (p.cf n) es sl mm with
    | none => rw [e] at h; exact h.elim
    | some y =>
      rw [e] at h
      cases y with
      | ex x mm1 => exact fun c2 dd H2 l2 r2 rx => h c2 dd H2 (lb.trans l2) (rb.outer r2) rx
      | ok ds mm1 =>
        intro c2 vs H2 l2 r2 rl
        obtain ⟨hq2, na2, nz2⟩ := r2.keepD upd_same na nz
        have r3 := rb.outer r2
        simp only [] at h
        cases z : (pureDs ds && decide (ks.length = ds.length) && decide (ks.length ≤ 15) && decide (0 < ks.length) && ks.all isKT && ndK ks && ks.all okKT) with
        | false => simp only [z] at h; exact h.elim
        | true =>
          simp only [z, if_true] at h
          simp only [Bool.and_eq_true, decide_eq_true_eq] at z
          obtain ⟨⟨⟨⟨⟨⟨z1, z2⟩, z3⟩, z4⟩, z5⟩, z6⟩, z7⟩ := z
          obtain ⟨e1, e2, e3⟩ := zip_kvs (ks := ks) (vs := vs) (by rw [z2, rl.len])
          refine ⟨hq2, (ks.map keyT).zip vs, e1, by rw [List.length_zip, List.length_map]; omega, ?_⟩
          rw [merge_new (by rw [List.nil_append, e2]; exact ndK_nodup z5 z6), List.nil_append]
          obtain ⟨l4, r4⟩ := r3.beside (o := .dK ((ks.map keyT).zip vs)) nz2 na2 h0'
          obtain ⟨l5, r5⟩ := r4.settle nz2 na2 h0' upd_same
          refine h (c2.add q) _ _ (lb.trans (l2.trans (l4.trans l5))) r5 ?_
          simp only [RepV]
          exact ⟨q, _, rfl, .inr rfl, .inl upd_same, e2, z5, by rw [keys_kV e2]; exact repL_keys z5 z7, by rw [e3]; exact RepL.le (l4.trans l5) _ _ rl⟩
end
end Mp
/-! Mp10: statements. -/
namespace Mp
open PySem PySem.Spec
open PyProof.Rows L2
def PostS (p : Pg) (g : Gh) (c : Cf) (H : Hp) (D : Ends) (W : WX) : Option RS → Prop
  | none => False
  | some (.nx sl mm) => ∀ c' σ' H', c.Le H c' H' → Rep p.K g c' sl mm σ' H' → D.nx σ' H'
  | some (.bk sl mm) => ∀ c' σ' H', c.Le H c' H' → Rep p.K g c' sl mm σ' H' → D.bk σ' H'
  | some (.ct sl mm) => ∀ c' σ' H', c.Le H c' H' → Rep p.K g c' sl mm σ' H' → D.ct σ' H'
  | some (.rt d mm) => ∀ c' sl' σ' v H', c.Le H c' H' → Rep p.K g c' sl' mm σ' H' → RepV p.K c'.ad c'.Z H' d v → D.rt v H'
  | some (.ex x sl mm) => ∀ c' dd σ' H', c.Le H c' H' → Rep p.K g c' sl mm σ' H' → RepX x dd → W (.ref (p.ea x.cls)) dd σ' H'
def tS (p : Pg) (n : Nat) (W : WX) (s : S) : TS := fun D σ H => ∃ g c sl mm, Rep p.K g c sl mm σ H ∧ PostS p g c H D W (semS p.sub p.gv (p.cf n) s sl mm)
def tBk (p : Pg) (n : Nat) (W : WX) (b : B) : TS := fun D σ H => ∃ g c sl mm, Rep p.K g c sl mm σ H ∧ PostS p g c H D W (semB p.sub p.gv (p.cf n) b sl mm)
/-- where a statement stands -/
structure SOk (p : Pg) (n : Nat) (N : List Str) (sc : Scope) (W : WX) (X : Cx) : Prop extends XOk p n N sc W X where
  kind : X.env.scope.kind = .function
  stk : X.stack = X.env :: X.outer
  frm : X.env.frame = some X.env.locals
  fnA : ∀ x, X.fn x = true
  own : PassesOwn (model X.prog X.w) X.A X.env X.xe
  exc : ∀ c, p.edom c = true → p.mg (p.en c) = some (.ref (p.ea c)) ∧ PySem.W.excIn p.K (p.ea c) He.veBase "ValueError.__new__" = true ∧ PySem.W.keepIn p.K (.ref (p.ea c)) = true ∧ PySem.W.subIn p.K (.ref (p.ea c)) (.type "BaseException") = some true ∧ PySem.W.typeIn p.K (.ref (p.ea c)) = some (.type "type")
  exm : ∀ x c b, p.sub x c = some b → PySem.W.exmOne p.K (.ref (p.ea x)) (.ref (p.ea c)) = some b
section
variable {p : Pg} {n : Nat} {N : List Str} {sc : Scope} {W : WX} {X : Cx} {pos : Pos} {g : Gh} {c c' : Cf} {sl : Sl} {mm : Mm} {σ : L2.St} {H H' : Hp} {D D' : Ends}
theorem PSimp {st : Stmt} {t t' : TS} (h : PS X st t) (i : ∀ D σ H, t' D σ H → t D σ H) : PS X st t' := ⟨fun pins s σ H D I q => h.run pins s σ H D I (i D σ H q)⟩
theorem PSsimp {st : List Stmt} {t t' : TS} (h : PSs X st t) (i : ∀ D σ H, t' D σ H → t D σ H) : PSs X st t' := ⟨fun pins s σ H D I q => h.run pins s σ H D I (i D σ H q)⟩
theorem PostS.from {r : Option RS} (h : PostS p g c H D W r) (l : c.Le H c' H') : PostS p g c' H' D W r := by
  cases r with
  | none => exact h
  | some r =>
    cases r with
    | nx sl mm => exact fun c2 σ' H2 l2 r => h c2 σ' H2 (l.trans l2) r
    | bk sl mm => exact fun c2 σ' H2 l2 r => h c2 σ' H2 (l.trans l2) r
    | ct sl mm => exact fun c2 σ' H2 l2 r => h c2 σ' H2 (l.trans l2) r
    | rt d mm => exact fun c2 sl' σ' v H2 l2 r => h c2 sl' σ' v H2 (l.trans l2) r
    | ex x sl mm => exact fun c2 dd σ' H2 l2 r => h c2 dd σ' H2 (l.trans l2) r
/-- a statement's expression -/
def exprS (r : Option RE) (sl : Sl) (f : Mp.D → Mm → Option RS) : Option RS := match r with
  | some (.ok d mm) => f d mm
  | some (.ex x mm) => some (.ex x sl mm)
  | none => none
theorem PostS.expr {r : Option RE} {f : Mp.D → Mm → Option RS} {Q : VK} (h : PostS p g c H D W (exprS r sl f)) (i : ∀ c1 d mm1 v H1, c.Le H c1 H1 → Rep p.K g c1 sl mm1 σ H1 → RepV p.K c1.ad c1.Z H1 d v → PostS p g c1 H1 D W (f d mm1) → Q v H1) : PostE p g c sl σ H W Q r := by
  cases r with
  | none => exact h
  | some r =>
    cases r with
    | ok d mm => exact fun c1 v H1 l r rv => i c1 d mm v H1 l r rv (PostS.from h l)
    | ex x mm => exact fun c1 dd H1 l r rx => h c1 dd σ H1 l r rx
/-- .. as a test -/
theorem PostS.test {r : Option RE} {f : Mp.D → Mm → Option RS} {Q : Bool → Hp → Prop} (hf : ∀ d mm, (∀ b, d ≠ .bl b) → f d mm = none) (h : PostS p g c H D W (exprS r sl f)) (i : ∀ c1 b mm1 H1, c.Le H c1 H1 → Rep p.K g c1 sl mm1 σ H1 → PostS p g c1 H1 D W (f (.bl b) mm1) → Q b H1) : PostB p g c sl σ H W Q r := by
  cases r with
  | none => exact h
  | some r =>
    cases r with
    | ex x mm => exact fun c1 dd H1 l r rx => h c1 dd σ H1 l r rx
    | ok d mm =>
      by_cases hb : ∃ b, d = .bl b
      · obtain ⟨b, rfl⟩ := hb
        exact fun c1 H1 l r => i c1 b mm H1 l r (PostS.from h l)
      · have h' : PostS p g c H D W (f d mm) := h
        rw [hf d mm fun b e => hb ⟨b, e⟩] at h'
        exact h'.elim
/-! ### assignments -/
theorem b_nil : PSs X [] (tBk p n W .nil) := PSsimp pss_nil fun D σ H ⟨g, c, sl, mm, r, h⟩ => by
  simp only [semB] at h
  exact h c σ H .refl r
theorem b_cons {s : S} {b : B} {st : Stmt} {sts : List Stmt} (h1 : PS X st (tS p n W s)) (h2 : PSs X sts (tBk p n W b)) : PSs X (st :: sts) (tBk p n W (.cons s b)) :=
  PSsimp (pss_cons h1 h2) fun D σ H ⟨g, c, sl, mm, r, h⟩ => by
    simp only [semB] at h
    refine ⟨g, c, sl, mm, r, ?_⟩
    cases q : semS p.sub p.gv (p.cf n) s sl mm with
    | none => rw [q] at h; exact h.elim
    | some y =>
      rw [q] at h
      cases y with
      | nx sl1 mm1 => exact fun c1 σ1 H1 l r1 => ⟨g, c1, sl1, mm1, r1, PostS.from h l⟩
      | bk sl1 mm1 => exact h
      | ct sl1 mm1 => exact h
      | rt d mm1 => exact h
      | ex x sl1 mm1 => exact h
theorem s_asg (o : SOk p n N sc W X) {i : Nat} {x : Str} {p1 : Pos} {A : Expr} {a : E} (hi : N[i]? = some x) (hx : locB sc x = true) (ha : PE X A (tE p n W a)) (hs : swapsWith A (some (.Name x p1)) pos.line X.env = pure false) : PS X (.Assign [.Name x p1] A pos) (tS p n W (.asg i a)) :=
  PSimp (ps_set (i := i) (by rw [o.nm]; exact o.nd) (by rw [o.nm]; exact hi) (by rw [o.sc]; exact loc_of hx) ha hs (.inl (o.fnA x))) fun D σ H ⟨g, c, sl, mm, r, h⟩ => by
    have h' : PostS p g c H D W (exprS (semE p.gv (p.cf n) a sl mm) sl fun d mm1 => some (.nx (sl.set i (some d)) mm1)) := by
      simp only [semS] at h; exact h
    exact ⟨g, c, sl, mm, r, PostS.expr h' fun c1 d mm1 v H1 l r1 rv h1 => h1 c1 _ H1 .refl (r1.set rv)⟩
/-- name = [..] on one line, the name a local -/
theorem s_asgL (o : SOk p n N sc W X) {i : Nat} {x : Str} {p1 : Pos} {it : It} {mu : Bool} {tg : Tg} {cnd elt : E} {eltE tgE iterE : Expr} {ifs : List Expr} {scope : Scope} {own : List (Str × Nat)} {lpos : Pos} (hi0 : N[i]? = some x) (hx : sc.names.lookup x = some .local)
    (hsw : swapsWith (.ListComp eltE [⟨tgE, iterE, ifs, 0⟩] scope lpos) (some (.Name x p1)) pos.line X.env = pure true) (hi : PI X tgE iterE (tI p n W it)) (ok : BlkOk X.N X.env.scope scope own) (ho : own.map (·.2) = tgIx tg)
    (hg : ∀ (s : Shared) (H : Hp) (C : Addr) (cl : List (Str × Addr)) (fp : List Addr), PG (X.blk s H scope (compEnvC scope cl C X.env) fp) tgE (tG p tg)) (ht : ∀ (s : Shared) (H : Hp) (C : Addr) (cl : List (Str × Addr)) (fp : List Addr), PTs (X.blk s H scope (compEnvC scope cl C X.env) fp) ifs (tB p n W0 cnd))
    (he : ∀ (s : Shared) (H : Hp) (C : Addr) (cl : List (Str × Addr)) (fp : List Addr), PE (X.blk s H scope (compEnvC scope cl C X.env) fp) eltE (tE p n W0 elt)) (pi : plainA iterE = true) : PS X (.Assign [.Name x p1] (.ListComp eltE [⟨tgE, iterE, ifs, 0⟩] scope lpos) pos) (tS p n W (.asg i (.lc mu tg elt it cnd))) :=
  PSimp (ps_setLc (i := i) o.calm (by rw [o.nm]; exact o.nd) (by rw [o.nm]; exact hi0) (by rw [o.sc]; exact hx) hsw hi ok hg ht he (fold_plain pi _)) fun D σ H ⟨g, c, sl, mm, r, h⟩ => by
    have h' : PostS p g c H D W (exprS (semE p.gv (p.cf n) (.lc mu tg elt it cnd) sl mm) sl fun d mm1 => some (.nx (sl.set i (some d)) mm1)) := by
      simp only [semS] at h; exact h
    rw [ho]
    exact lc_read ⟨g, c, sl, mm, r, PostS.expr h' fun c1 d mm1 v H1 l r1 rv h1 => h1 c1 _ H1 .refl (r1.set rv)⟩
theorem namesOk_of {xs : List Str} {is : List Nat} (o : SOk p n N sc W X) (h : (xs.length == is.length && (xs.zip is).all fun q => decide (N[q.2]? = some q.1) && locB sc q.1) = true) : NamesOk X xs is := by
  rw [Bool.and_eq_true] at h
  refine ⟨by simpa using h.1, fun k x i e1 e2 => ?_⟩
  have hm : (x, i) ∈ xs.zip is := List.mem_iff_getElem?.mpr ⟨k, by rw [List.getElem?_zip_eq_some]; exact ⟨e1, e2⟩⟩
  have := List.all_eq_true.mp h.2 _ hm
  simp only [Bool.and_eq_true, decide_eq_true_eq] at this
  exact ⟨by rw [o.nm]; exact this.1, by rw [o.sc]; exact loc_of this.2, .inl (o.fnA x)⟩
theorem s_unp (o : SOk p n N sc W X) {xs : List Str} {is : List Nat} {es : List Expr} {k : Nat} {p1 : Pos} {A : Expr} {a : E} (ht : tgNames es = some xs) (hn : (xs.length == is.length && (xs.zip is).all fun q => decide (N[q.2]? = some q.1) && locB sc q.1) = true) (ha : PE X A (tE p n W a)) (pa : plainA A = true) (nc : isComp A = false)
    (hw : swappedStores [.Tuple es k p1] A X.env = pure none) : PS X (.Assign [.Tuple es k p1] A pos) (tS p n W (.unp is a)) :=
  PSimp (ps_asg ha (g_tp (p := p) o.K o.calm (by rw [o.nm]; exact o.nd) ht (namesOk_of o hn)) (by exact swap_plain pa nc (some (.Tuple es k p1)) pos.line X.env) hw) fun D σ H ⟨g, c, sl, mm, r, h⟩ => by
    have h' : PostS p g c H D W (exprS (semE p.gv (p.cf n) a sl mm) sl fun d mm1 => (match bindT (.tp is) d sl with | some sl1 => some (.nx sl1 mm1) | none => none)) := by
      simp only [semS] at h; exact h
    refine ⟨g, c, sl, mm, r, PostS.expr h' fun c1 d mm1 v H1 l r1 rv h1 => ?_⟩
    cases e : bindT (.tp is) d sl with
    | none => simp only [e] at h1; exact h1.elim
    | some sl1 =>
      simp only [e] at h1
      exact ⟨g, c1, sl, mm1, d, sl1, r1, rv, e, fun σ' r2 _ => h1 c1 σ' H1 .refl r2⟩
def notTupA : Expr → Bool
  | .Tuple _ _ _ => false
  | _ => true
theorem not_swapped {es : List Expr} {k : Nat} {p1 : Pos} {A : Expr} {env : Env} (h : plainA A = true) (h2 : notTupA A = true) : swappedStores [.Tuple es k p1] A env = pure none := by
  cases A <;> first | rfl | cases h2 | cases h
theorem s_par (o : SOk p n N sc W X) {x y : Str} {i j : Nat} {A B : Expr} {a b : E} {px py pt pt2 : Pos} {kt k2 : Nat} (hi : N[i]? = some x) (hj : N[j]? = some y) (hij : i ≠ j) (hx : sc.names.lookup x = some .local) (hy : sc.names.lookup y = some .local)
    (ha : PE X A (tE p n W a)) (hb : PE X B (tE p n W b)) (pa : plainA A = true) (pb : plainA B = true) (hw : swappedStores [.Tuple [.Name x px, .Name y py] kt pt] (.Tuple [A, B] k2 pt2) X.env = pure (some [x, y])) :
    PS X (.Assign [.Tuple [.Name x px, .Name y py] kt pt] (.Tuple [A, B] k2 pt2) pos) (tS p n W (.par i j a b)) :=
  PSimp (ps_par o.calm (by rw [o.nm]; exact o.nd) (by rw [o.nm]; exact hi) (by rw [o.nm]; exact hj) hij (by rw [o.sc]; exact hx) (by rw [o.sc]; exact hy) (pa_cons ha (pa_cons hb pa_nil (star_plain pb _ _)) (star_plain pa _ _)) hw) fun D σ H ⟨g, c, sl, mm, r, h⟩ => by
    have h' : PostS p g c H D W (exprS (semE p.gv (p.cf n) a sl mm) sl fun d mm1 => exprS (semE p.gv (p.cf n) b sl mm1) sl fun e mm2 => some (.nx ((sl.set i (some d)).set j (some e)) mm2)) := by
      simp only [semS] at h; exact h
    refine ⟨g, c, sl, mm, r, PostS.expr h' fun c1 d mm1 v H1 l r1 rv h1 => ⟨g, c1, sl, mm1, r1, PostS.expr h1 fun c2 e mm2 u H2 l2 r2 ru h2 => ?_⟩⟩
    exact ⟨v, u, rfl, h2 c2 _ H2 .refl ((r2.set (RepV.le l2 _ _ rv)).set ru)⟩
theorem swap_par {x y : Str} {px py pt pt2 : Pos} {kt k2 : Nat} {A B : Expr} {env : Env} (hk : env.scope.kind = .function) (hx : env.scope.names.lookup x = some .local) (hy : env.scope.names.lookup y = some .local) (hl : (py.line == px.line) = true) (hne : (x == y) = false)
    (pa : plainA A = true) (pb : plainA B = true) (hf : (foldedForSure 8 A && foldedForSure 8 B) = false) (hc : (constantsAlone 8 A && constantsAlone 8 B) = false) :
    swappedStores [.Tuple [.Name x px, .Name y py] kt pt] (.Tuple [A, B] k2 pt2) env = pure (some [x, y]) := by
  have hb : env.blockKind = .function := by unfold Env.blockKind; rw [hk]; rfl
  have kx : env.kindOf x = some .local := hx
  have ky : env.kindOf y = some .local := hy
  have hyx : (y == x) = false := by
    rw [beq_eq_false_iff_ne] at hne ⊢
    exact fun e => hne e.symm
  have hs : ([A, B].any fun | .Starred .. => true | _ => false) = false := by
    rw [List.any_eq_false]
    intro e he
    have pe : plainA e = true := by
      rcases List.mem_cons.mp he with rfl | he
      · exact pa
      · rcases List.mem_cons.mp he with rfl | he
        · exact pb
        · cases he
    cases e <;> first | (intro h; cases h; done) | cases pe
  unfold swappedStores
  simp only [hb, hs, kx, ky, List.filterMap_cons, List.filterMap_nil, List.head?_cons, Option.map_some, Option.getD_some, Expr.pos, hl, List.all_cons, List.all_nil, Bool.and_true, hf, hc, List.length_cons, List.length_nil]
  simp [List.eraseDups_cons, hyx, hf, hc]
  intro h
  exfalso
  rcases h with h | h
  · cases A <;> first | (cases pa; done) | (cases h; done)
  · cases B <;> first | (cases pb; done) | (cases h; done)
theorem s_exp (o : SOk p n N sc W X) {A : Expr} {a : E} (ha : PE X A (tE p n W a)) (pa : plainA A = true) (nc : isComp A = false) : PS X (.Expr A pos) (tS p n W (.exp a)) :=
  PSimp (ps_expr ha (swap_plain pa nc _ _ _)) fun D σ H ⟨g, c, sl, mm, r, h⟩ => by
    have h' : PostS p g c H D W (exprS (semE p.gv (p.cf n) a sl mm) sl fun d mm1 => some (.nx sl mm1)) := by
      simp only [semS] at h; exact h
    exact ⟨g, c, sl, mm, r, PostS.expr h' fun c1 d mm1 v H1 l r1 rv h1 => h1 c1 _ H1 .refl r1⟩
theorem s_ret {A : Expr} {a : E} (ha : PE X A (tE p n W a)) : PS X (.Return (some A) pos) (tS p n W (.ret a)) :=
  PSimp (ps_ret ha) fun D σ H ⟨g, c, sl, mm, r, h⟩ => by
    have h' : PostS p g c H D W (exprS (semE p.gv (p.cf n) a sl mm) sl fun d mm1 => some (.rt d mm1)) := by
      simp only [semS] at h; exact h
    exact ⟨g, c, sl, mm, r, PostS.expr h' fun c1 d mm1 v H1 l r1 rv h1 => h1 c1 sl _ _ H1 .refl r1 rv⟩
theorem s_retn : PS X (.Return none pos) (tS p n W .retn) :=
  PSimp ps_retN fun D σ H ⟨g, c, sl, mm, r, h⟩ => by
    simp only [semS] at h
    exact h c sl σ _ H .refl r okN
theorem s_pass : PS X (.Pass pos) (tS p n W .pass) := PSimp ps_pass fun D σ H ⟨g, c, sl, mm, r, h⟩ => by
  simp only [semS] at h
  exact h c σ H .refl r
theorem s_brk : PS X (.Break pos) (tS p n W .brk) := PSimp ps_break fun D σ H ⟨g, c, sl, mm, r, h⟩ => by
  simp only [semS] at h
  exact h c σ H .refl r
theorem s_cnt : PS X (.Continue pos) (tS p n W .cnt) := PSimp ps_continue fun D σ H ⟨g, c, sl, mm, r, h⟩ => by
  simp only [semS] at h
  exact h c σ H .refl r
theorem s_ifs {C : Expr} {e : E} {a b : B} {as bs : List Stmt} (hc : PT X C (tB p n W e)) (ha : PSs X as (tBk p n W a)) (hb : PSs X bs (tBk p n W b)) : PS X (.If C as bs pos) (tS p n W (.ifs e a b)) :=
  PSimp (ps_if hc ha hb) fun D σ H ⟨g, c, sl, mm, r, h⟩ => by
    have h' : PostS p g c H D W (exprS (semE p.gv (p.cf n) e sl mm) sl fun d mm1 => (match d with | .bl true => semB p.sub p.gv (p.cf n) a sl mm1 | .bl false => semB p.sub p.gv (p.cf n) b sl mm1 | _ => none)) := by
      simp only [semS] at h
      unfold exprS
      split at h
      · rename_i q; simp only [q]; exact h
      · rename_i q; simp only [q]; exact h
      · rename_i q; simp only [q]; exact h
      · exact h.elim
    refine ⟨g, c, sl, mm, r, PostS.test (fun d mm hd => by cases d <;> first | rfl | exact (hd _ rfl).elim) h' fun c1 k mm1 H1 l r1 h1 => ?_⟩
    cases k
    · exact ⟨g, c1, sl, mm1, r1, h1⟩
    · exact ⟨g, c1, sl, mm1, r1, h1⟩
/-! ### loops -/
theorem s_whl (o : SOk p n N sc W X) {C : Expr} {e : E} {b : B} {bs : List Stmt} (hc : PT X C (tB p n W e)) (hb : PSs X bs (tBk p n W b)) : PS X (.While C bs [] pos) (tS p n W (.whl e b)) :=
  PSimp (ps_while o.own hc hb) fun D σ H ⟨g, c, sl, mm, r, h⟩ => by
    simp only [semS] at h
    generalize wMost = k at h
    refine ⟨fun m σ H => ∃ c sl mm, Rep p.K g c sl mm σ H ∧ PostS p g c H D W (whlS (semE p.gv (p.cf n) e) (semB p.sub p.gv (p.cf n) b) m sl mm), ⟨k, c, sl, mm, r, h⟩, fun m σ H ⟨c, sl, mm, r, h⟩ => ?_⟩
    cases m with
    | zero => simp only [whlS] at h; exact h.elim
    | succ m =>
      have h' : PostS p g c H D W (exprS (semE p.gv (p.cf n) e sl mm) sl fun d mm1 => (match d with
        | .bl true => (match semB p.sub p.gv (p.cf n) b sl mm1 with
          | some (.nx sl2 mm2) => whlS (semE p.gv (p.cf n) e) (semB p.sub p.gv (p.cf n) b) m sl2 mm2
          | some (.ct sl2 mm2) => whlS (semE p.gv (p.cf n) e) (semB p.sub p.gv (p.cf n) b) m sl2 mm2
          | some (.bk sl2 mm2) => some (.nx sl2 mm2)
          | r => r)
        | .bl false => some (.nx sl mm1)
        | _ => none)) := by
        simp only [whlS] at h
        unfold exprS
        split at h
        · rename_i q; simp only [q]; exact h
        · rename_i q; simp only [q]; exact h
        · rename_i q; simp only [q]; exact h
        · exact h.elim
      refine ⟨g, c, sl, mm, r, PostS.test (fun d mm hd => by cases d <;> first | rfl | exact (hd _ rfl).elim) h' fun c1 k mm1 H1 l r1 h1 => ?_⟩
      cases k with
      | false => exact h1 c1 σ H1 .refl r1
      | true =>
        simp only [] at h1
        refine ⟨fun σ' H' => ∃ c2 sl2 mm2, c1.Le H1 c2 H' ∧ Rep p.K g c2 sl2 mm2 σ' H' ∧ PostS p g c2 H' D W (whlS (semE p.gv (p.cf n) e) (semB p.sub p.gv (p.cf n) b) m sl2 mm2), fun σ' H' ⟨c2, sl2, mm2, l2, r2, h2⟩ => ⟨m, Nat.lt_succ_self m, c2, sl2, mm2, r2, h2⟩, g, c1, sl, mm1, r1, ?_⟩
        cases q : semB p.sub p.gv (p.cf n) b sl mm1 with
        | none => rw [q] at h1; exact h1.elim
        | some y =>
          rw [q] at h1
          cases y with
          | nx sl2 mm2 => exact fun c2 σ2 H2 l2 r2 => ⟨c2, sl2, mm2, l2, r2, PostS.from h1 l2⟩
          | ct sl2 mm2 => exact fun c2 σ2 H2 l2 r2 => ⟨c2, sl2, mm2, l2, r2, PostS.from h1 l2⟩
          | bk sl2 mm2 => exact h1
          | rt d mm2 => exact h1
          | ex x sl2 mm2 => exact h1
theorem s_for (o : SOk p n N sc W X) {tg : Tg} {it : It} {b : B} {tgE iterE : Expr} {bs : List Stmt} (hi : PI X tgE iterE (tI p n W it)) (hg : PG X tgE (tG p tg)) (hb : PSs X bs (tBk p n W b)) (pi : plainA iterE = true) : PS X (.For tgE iterE bs [] pos) (tS p n W (.for tg it b)) :=
  PSimp (ps_for o.own o.calm hi hg hb (fold_plain pi _)) fun D σ H ⟨g, c, sl, mm, r, h⟩ => by
    simp only [semS] at h
    refine ⟨g, c, sl, mm, r, ?_⟩
    cases e : semI p.gv (p.cf n) it sl mm with
    | none => rw [e] at h; exact h.elim
    | some y =>
      rw [e] at h
      cases y with
      | ex x mm1 => exact fun c1 dd H1 l r1 rx => h c1 dd σ H1 l r1 rx
      | ok xs mm1 =>
        intro c1 H1 J l1 r1 wk
        refine ⟨fun i m σ2 H2 => i + m = xs.length ∧ ∃ c2 sl2 mm2, c1.Le H1 c2 H2 ∧ Rep p.K g c2 sl2 mm2 σ2 H2 ∧ PostS p g c2 H2 D W (forS tg (semB p.sub p.gv (p.cf n) b) (xs.drop i) sl2 mm2), ⟨xs.length, by omega, c1, sl, mm1, .refl, r1, PostS.from h l1⟩, fun i m σ2 H2 ⟨em, c2, sl2, mm2, l2, r2, h2⟩ => ?_⟩
        by_cases hi : i < xs.length
        · have ex : xs[i]? = some xs[i] := List.getElem?_eq_getElem hi
          rw [drop_at ex] at h2
          obtain ⟨go, yl⟩ := wk.step i _ ex g c2 sl2 mm2 σ2 H2 l2 r2
          refine .inr ⟨go, fun σ3 H3 => ∃ c3 sl3 mm3, c1.Le H1 c3 H3 ∧ Rep p.K g c3 sl3 mm3 σ3 H3 ∧ PostS p g c3 H3 D W (forS tg (semB p.sub p.gv (p.cf n) b) (xs.drop (i + 1)) sl3 mm3), fun σ3 H3 hN => ⟨m - 1, by omega, by omega, hN⟩, fun x H3 hy => ?_⟩
          obtain ⟨c3, l3, r3, rv, _, _, _⟩ := yl x H3 hy
          simp only [forS] at h2
          cases e1 : bindT tg xs[i] sl2 with
          | none => simp only [e1] at h2; exact h2.elim
          | some sl3 =>
            simp only [e1] at h2
            refine ⟨g, c3, sl2, mm2, xs[i], sl3, r3, rv, e1, fun σ3 r4 _ => ⟨g, c3, sl3, mm2, r4, ?_⟩⟩
            have h3 := PostS.from h2 l3
            cases q : semB p.sub p.gv (p.cf n) b sl3 mm2 with
            | none => rw [q] at h3; exact h3.elim
            | some y =>
              rw [q] at h3
              cases y with
              | nx sl4 mm4 => exact fun c4 σ4 H4 l4 r5 => ⟨c4, sl4, mm4, l2.trans (l3.trans l4), r5, PostS.from h3 l4⟩
              | ct sl4 mm4 => exact fun c4 σ4 H4 l4 r5 => ⟨c4, sl4, mm4, l2.trans (l3.trans l4), r5, PostS.from h3 l4⟩
              | bk sl4 mm4 => exact h3
              | rt d mm4 => exact h3
              | ex x sl4 mm4 => exact h3
        · rw [List.drop_eq_nil_of_le (by omega)] at h2
          have ei : i = xs.length := by omega
          exact .inl ⟨by rw [ei]; exact wk.stop g c2 sl2 mm2 σ2 H2 l2 r2, h2 c2 σ2 H2 .refl r2⟩
/-! ### errors -/
theorem s_rse (o : SOk p n N sc W X) {k : Nat} {m : Str} {j : Nat} {p1 p2 p3 : Pos} (hd : p.edom k = true) (hg : glB sc (p.en k) = true) : PS X (.Raise (some (.Call (.Name (p.en k) p1) [.Constant (.str m) j p2] [] p3)) none pos) (tS p n W (.rse k .nil)) := by
  obtain ⟨h1, h2, h3, h4, h5⟩ := o.exc k hd
  have hK := o.K
  have hM := o.mg
  refine PSimp (ps_raise o.calm o.takes (pmk_own PySem.F.excBase_ValueError (by rw [hK]; exact h2) (by rw [hM]; exact h1) (by rw [hK]; exact h3) (raises_own (by rw [hK]; exact h4) (by rw [hK]; exact h5)) (o.gl hg) (nm_deb (gl_nm hg)))) fun D σ H ⟨g, c, sl, mm, r, h⟩ => ?_
  simp only [semS, semEs] at h
  exact h c none σ H .refl r ⟨rfl, rfl⟩
/-- o[i] = e of a list of the activation's own -/
theorem s_sto (o : SOk p n N sc W X) {i : Nat} {x : Str} {p1 p2 : Pos} {I A : Expr} {ix a : E} (hi : N[i]? = some x) (hv : visB sc x = true) (hn : nmB x = true) (hI : PE X I (tE p n W ix)) (pI : plainA I = true) (ha : PE X A (tE p n W a)) (pa : plainA A = true) (nc : isComp A = false) :
    PS X (.Assign [.Subscript (.Name x p1) I p2] A pos) (tS p n W (.sto i ix a)) := by
  have hx : PE X (.Name x p1) (tE p n W (.var i)) := s_var o.toXOk hi hv hn
  have hg : PG X (.Subscript (.Name x p1) I p2) (gSub (tE p n W (.var i)) (tE p n W ix) rSetL) := pg_sub hx hI set_list (by
    intro v
    cases I <;> first | rfl | exact nomatch pI)
  refine PSimp (ps_asg ha hg (by exact swap_plain pa nc (some (.Subscript (.Name x p1) I p2)) pos.line X.env) (by cases A <;> first | rfl | exact nomatch pa)) fun D σ H ⟨g, c, sl, mm, r, h⟩ => ?_
  have h' : PostS p g c H D W (exprS (semE p.gv (p.cf n) a sl mm) sl fun d mm1 => (match sl[i]? with
      | some (some (.m k)) => (match semE p.gv (p.cf n) ix sl mm1 with
        | some (.ok (.int j) mm2) => (match mm2[k]? with
          | some (.mu (.lst xs)) => (match ixP xs.length j with
            | some q => if pureD d then some (.nx sl (mm2.set k (.mu (.lst (xs.set q d))))) else none
            | none => none)
          | _ => none)
        | some (.ex x mm1) => some (.ex x sl mm1)
        | _ => none)
      | _ => none)) := by
    simp only [semS] at h; exact h
  refine ⟨g, c, sl, mm, r, PostS.expr h' fun c1 d mm1 v H1 l1 r1 rv h1 => ?_⟩
  refine ⟨g, c1, sl, mm1, r1, ?_⟩
  simp only [semE]
  cases e1 : sl[i]? with
  | none => simp only [e1] at h1; exact h1.elim
  | some ov =>
    cases ov with
    | none => simp only [e1] at h1; exact h1.elim
    | some dv =>
      cases dv with
      | m k =>
        simp only [e1] at h1
        intro c2 w H2 l2 r2 rw'
        refine ⟨g, c2, sl, mm1, r2, ?_⟩
        have h2 := PostS.from h1 l2
        cases e2 : semE p.gv (p.cf n) ix sl mm1 with
        | none => simp only [e2] at h2; exact h2.elim
        | some y =>
          cases y with
          | ex x mm2 =>
            simp only [e2] at h2
            exact fun c3 dd H3 l3 r3 rx => h2 c3 dd σ H3 l3 r3 rx
          | ok di mm2 =>
            cases di <;> simp only [e2] at h2 <;> try exact h2.elim
            rename_i j
            intro c3 u H3 l3 r3 ru
            have h3 := PostS.from h2 l3
            have rw3 := RepV.le l3 _ _ rw'
            have rv3 := RepV.le (l2.trans l3) _ _ rv
            split at h3
            · rename_i xs e3
              obtain ⟨q, vs, hq, rfl, hH, rl, pl⟩ := r3.own_at rw3 e3
              split at h3
              · rename_i qi e4
                cases z : pureD d with
                | false => simp only [z] at h3; exact h3.elim
                | true =>
                  simp only [z, if_true] at h3
                  rw [repV_int ru]
                  refine ⟨q, vs, j, qi, rfl, rfl, hH, by rw [rl.len]; exact e4, ?_⟩
                  obtain ⟨l4, r4⟩ := r3.write (vs := vs.set qi v) (ds := xs.set qi d) hq e3 (pureDs_set qi pl z) (rl.set qi rv3)
                  exact h3 c3 σ _ l4 r4
              · exact h3.elim
            · exact h3.elim
      | _ => simp only [e1] at h1; exact h1.elim
/-! ### try -/
/-- a written value -/
def litB : Expr → Mp.D → Bool
  | .Constant .none _ _, .non => true
  | .Constant (.bool b) _ _, .bl b' => b == b'
  | .Constant (.int i) _ _, .int i' => decide (i = i')
  | .Constant (.str s) _ _, .str t => decide (s = toS t) && okT t
  | _, _ => false
theorem lit_ok {A : Expr} {d : Mp.D} (h : litB A d = true) : ∃ v, (∀ Y : Cx, PE Y A (tC v)) ∧ plainA A = true ∧ valA A = true ∧ ∀ K ad Z H, RepV K ad Z H d v := by
  unfold litB at h
  split at h
  · exact ⟨.non, fun _ => pe_non, rfl, rfl, fun _ _ _ _ => okN⟩
  · rename_i b _ _ b'
    have e : b = b' := by simpa using h
    subst e
    exact ⟨.bl b, fun _ => pe_bl, rfl, rfl, fun _ _ _ _ => okB⟩
  · rename_i i _ _ i'
    have e : i = i' := by simpa using h
    subst e
    exact ⟨.int i, fun _ => pe_int, rfl, rfl, fun _ _ _ _ => okI⟩
  · rename_i s _ _ t
    rw [Bool.and_eq_true] at h
    have e : s = toS t := of_decide_eq_true h.1
    subst e
    exact ⟨.str (toS t), fun _ => pe_str, rfl, rfl, fun _ _ _ _ => okS h.2⟩
  · cases h
theorem lit_key {A : Expr} {d : Mp.D} (h : litB A d = true) (k : isKT d = true) (Y : Cx) : PE Y A (tC (kV (keyT d))) := by
  unfold litB at h
  split at h
  · cases k
  · cases k
  · rename_i i _ _ i'
    have e : i = i' := by simpa using h
    subst e
    exact pe_int
  · rename_i s _ _ t
    rw [Bool.and_eq_true] at h
    have e : s = toS t := of_decide_eq_true h.1
    subst e
    exact pe_str
  · cases h
def chkH1 (p : Pg) (sc : Scope) (c : Nat) (d : Mp.D) : ExceptHandler → Bool
  | .ExceptHandler (some (.Name x _)) none [.Return (some A) _] _ => p.edom c && decide (x = p.en c) && glB sc x && litB A d
  | _ => false
theorem chkH1_of {c : Nat} {d : Mp.D} {h : ExceptHandler} (e : chkH1 p sc c d h = true) : ∃ p1 A p2 p3, h = .ExceptHandler (some (.Name (p.en c) p1)) none [.Return (some A) p2] p3 ∧ p.edom c = true ∧ glB sc (p.en c) = true ∧ litB A d = true := by
  unfold chkH1 at e
  split at e
  · simp only [Bool.and_eq_true, decide_eq_true_eq] at e
    obtain ⟨⟨⟨h1, rfl⟩, h3⟩, h4⟩ := e
    exact ⟨_, _, _, _, rfl, h1, h3, h4⟩
  · cases e
def chkHs (p : Pg) (sc : Scope) : Hs → List ExceptHandler → Bool
  | .nil, hds => (match hds with | [] => true | _ :: _ => false)
  | .cons c d hs, hds => (match hds with | h :: r => chkH1 p sc c d h && chkHs p sc hs r | [] => false)
theorem hs_ok (o : SOk p n N sc W X) : ∀ {hs : Hs} {hds : List ExceptHandler}, chkHs p sc hs hds = true → ∃ l, HdsOk X hds l ∧ ∀ (g : Gh) (c : Cf) (H : Hp) (D : Ends) (σ : L2.St) (x : Ex) (dd : Option Addr) (sl : Sl) (mm : Mm) (r : Option (Option Mp.D)),
      hsS p.sub hs x = r → Rep p.K g c sl mm σ H → (match r with | none => False | some (some d) => ∀ v, RepV p.K c.ad c.Z H d v → D.rt v H | some none => W (.ref (p.ea x.cls)) dd σ H) → wMany X.K W D l (.ref (p.ea x.cls)) dd σ H
  | .nil, [], _ => ⟨[], .nil, fun g c H D σ x dd sl mm r e _ h => by
    simp only [hsS] at e
    subst e
    exact h⟩
  | .nil, _ :: _, h => by simp only [chkHs, Bool.false_eq_true] at h
  | .cons c d hs, [], h => by simp only [chkHs, Bool.false_eq_true] at h
  | .cons c d hs, h0 :: r1, h => by
    simp only [chkHs, Bool.and_eq_true] at h
    obtain ⟨p1, A, p2, p3, rfl, h1, h3, h4⟩ := chkH1_of h.1
    obtain ⟨l, hl, hw⟩ := hs_ok o h.2
    obtain ⟨v, hv, _, _, rv⟩ := lit_ok h4
    obtain ⟨m1, _, _, _, _⟩ := o.exc c h1
    refine ⟨(.ref (p.ea c), fun a cls dd => tRet (tC v)) :: l, .cons ⟨o.gl h3, nm_deb (gl_nm h3), .inl (by rw [o.mg]; exact m1)⟩ (fun a oe cls dd pn _ _ => pss_one (ps_ret (hv _))) hl, fun g c' H D σ x dd sl mm r e rp h => ?_⟩
    simp only [hsS] at e
    cases q : p.sub x.cls c with
    | none => simp only [q] at e; subst e; exact h.elim
    | some b =>
      simp only [q] at e
      refine ⟨b, by rw [o.K]; exact o.exm _ _ _ q, fun hb a ha => ?_, fun hb => ?_⟩
      · subst hb
        simp only [] at e
        subst e
        exact h v (rv _ _ _ _)
      · subst hb
        exact hw g c' H D σ x dd sl mm r e rp h
theorem s_try {hs : Hs} {h₀ : ExceptHandler} {hds : List ExceptHandler} {b : B} {bs : List Stmt} (o : SOk p n N sc W X) (hh : chkHs p sc hs (h₀ :: hds) = true) (hb : ∀ (W' : WX) (pn : List (Addr × Obj)) (xe : Value → Shared → Prop), SOk p n N sc W' (X.tr pn xe) → PSs (X.tr pn xe) bs (tBk p n W' b)) :
    PS X (.Try bs (h₀ :: hds) [] [] pos) (tS p n W (.try b hs)) := by
  obtain ⟨l, hl, hw⟩ := hs_ok o hh
  refine PSimp (ps_try_many o.stk o.frm o.takes (fun W' pn xe tk ow => hb W' pn xe ⟨⟨o.K, o.dn, o.mg, o.nm, o.sc, o.nd, o.calm, o.room, tk, o.fns, o.blt, o.gls⟩, o.kind, o.stk, o.frm, o.fnA, ow, o.exc, o.exm⟩) hl) fun D σ H ⟨g, c, sl, mm, r, h⟩ => ?_
  refine ⟨g, c, sl, mm, r, ?_⟩
  simp only [semS] at h
  cases q : semB p.sub p.gv (p.cf n) b sl mm with
  | none => rw [q] at h; exact h.elim
  | some y =>
    rw [q] at h
    cases y with
    | nx sl1 mm1 => exact h
    | bk sl1 mm1 => exact h
    | ct sl1 mm1 => exact h
    | rt d mm1 => exact h
    | ex x sl1 mm1 =>
      intro c1 dd σ1 H1 l1 r1 rx
      refine hw g c1 H1 D σ1 x dd sl1 mm1 _ rfl r1 ?_
      simp only [] at h
      cases e : hsS p.sub hs x with
      | none => simp only [e] at h; exact h.elim
      | some od =>
        cases od with
        | none =>
          simp only [e] at h
          exact h c1 dd σ1 H1 l1 r1 rx
        | some d =>
          simp only [e] at h
          exact fun v rv => h c1 sl1 σ1 v H1 l1 r1 rv
end
end Mp
/-! Mp10b: dicts that change, lists repeated, three names at once, what is never reached. -/
namespace Mp
open PySem PySem.Spec
open PyProof.Rows L2
mutual
theorem keyD_pure : ∀ (d : D) (n : Nat), keyD d n = true → pureD d = true
  | .non, _, _ => rfl
  | .int _, _, _ => rfl
  | .str _, _, _ => rfl
  | .tup xs, n, k => by
    cases n with
    | zero => simp only [keyD, Bool.false_eq_true] at k
    | succ n =>
      simp only [keyD] at k
      simp only [pureD]; exact keyDs_pure xs n k
  | .bl _, _, k => by simp only [keyD, Bool.false_eq_true] at k
  | .lst _, _, k => by simp only [keyD, Bool.false_eq_true] at k
  | .dct _ _, _, k => by simp only [keyD, Bool.false_eq_true] at k
  | .dtu _ _, _, k => by simp only [keyD, Bool.false_eq_true] at k
  | .obj _ _, _, k => by simp only [keyD, Bool.false_eq_true] at k
  | .m _, _, k => by simp only [keyD, Bool.false_eq_true] at k
theorem keyDs_pure : ∀ (ds : List D) (n : Nat), keyDs ds n = true → pureDs ds = true
  | [], _, _ => rfl
  | x :: xs, n, k => by
    simp only [keyDs, Bool.and_eq_true] at k
    simp only [pureDs, keyD_pure x n k.1, keyDs_pure xs n k.2, Bool.and_self]
end
theorem isKD_pure {d : D} (h : isKD d = true) : pureD d = true := keyD_pure d 7 (isKD_key h)
/-- a store in a dict of numbers and texts -/
theorem putK_spec {b : D} {v : V} (hb : isKT b = true) : ∀ {ks : List D} {kvs : List (L2.Key × V)}, ks.all isKT = true → kvs.map (·.1) = ks.map keyT → (ks.map keyT).Nodup →
    (∀ j, idxOfD b ks = some j → (putK kvs (keyT b) v).map (·.1) = ks.map keyT ∧ (putK kvs (keyT b) v).map (·.2) = (kvs.map (·.2)).set j v) ∧
    (idxOfD b ks = none → putK kvs (keyT b) v = kvs ++ [(keyT b, v)] ∧ keyT b ∉ ks.map keyT) := by
  intro ks kvs hk h nd
  have hs := isSome_key hb hk h
  refine ⟨fun j e => ?_, fun e => ?_⟩
  · have hm : (kvs.any fun kv => decide (kv.1 = keyT b)) = true := by rw [valV_any, hs, ← idxOfD_mem, e]; rfl
    unfold putK
    rw [if_pos hm]
    have m1 : ∀ {kvs : List (L2.Key × V)}, (kvs.map (fun q => if q.1 = keyT b then (q.1, v) else q)).map (·.1) = kvs.map (·.1) := by
      intro kvs
      induction kvs with
      | nil => rfl
      | cons q kvs ih =>
        simp only [List.map_cons, ih]
        by_cases z : q.1 = keyT b <;> simp [z]
    refine ⟨by rw [m1, h], ?_⟩
    clear hm hs m1
    induction ks generalizing kvs j with
    | nil => simp [idxOfD] at e
    | cons k ks ih =>
      cases kvs with
      | nil => simp at h
      | cons q kvs =>
        simp only [List.map_cons, List.cons.injEq] at h
        rw [List.all_cons, Bool.and_eq_true] at hk
        rw [List.map_cons, List.nodup_cons] at nd
        simp only [idxOfD] at e
        rw [eqD_key hk.1 hb] at e
        by_cases z : keyT k = keyT b
        · simp only [z, decide_true, if_true, Option.some.injEq] at e
          subst e
          have z2 : q.1 = keyT b := by rw [h.1]; exact z
          simp only [List.map_cons, z2, if_true, List.set_cons_zero]
          congr 1
          have : ∀ q' ∈ kvs, ¬ q'.1 = keyT b := fun q' hq e' => by
            have hm : q'.1 ∈ kvs.map (·.1) := List.mem_map_of_mem hq
            rw [h.2, e', ← z] at hm
            exact nd.1 hm
          clear ih nd h z2
          induction kvs with
          | nil => rfl
          | cons q' kvs ih2 =>
            simp only [List.map_cons, this q' (by simp), if_false]
            rw [ih2 fun q'' hq => this q'' (by simp [hq])]
        · have z2 : ¬ q.1 = keyT b := by rw [h.1]; exact z
          simp only [z, decide_false, Bool.false_eq_true, if_false, Option.map_eq_some_iff] at e
          obtain ⟨j', e', rfl⟩ := e
          simp only [List.map_cons, z2, if_false, List.set_cons_succ]
          rw [ih hk.2 h.2 nd.2 j' e']
  · have hm : valV kvs (keyT b) = none := by
      have : (valV kvs (keyT b)).isSome = false := by rw [hs, ← idxOfD_mem, e]; rfl
      exact Option.isNone_iff_eq_none.mp (by simpa using this)
    exact ⟨putK_new v hm, memD_key hb hk (by rw [← idxOfD_mem, e]; rfl)⟩
section
variable {K : Kx} {g : Gh} {c : Cf} {sl : Sl} {mm : Mm} {σ : L2.St} {H : Hp} {q : Addr}
theorem Rep.takeG {o : HO} {e : D} (r : Rep K g c sl mm σ H) (nz : ¬ c.Z q) (na : q ∉ c.ad) (h0 : g.H0 q = none) (hq : H q = some o) (hp : pureD e = true) (hm : RepM K (c.own q).ad (c.own q).Z H e q) :
    c.Le H (c.own q) H ∧ Rep K g (c.own q) sl (mm ++ [.mu e]) σ H := by
  refine ⟨⟨⟨[q], rfl⟩, fun a z => z, fun _ _ _ w => w⟩, ?_⟩
  have := (r.without nz na h0).ownG (p := q) (o := o) (e := e) (by unfold hid; simp) hp (by rw [hid_upd hq]; exact hm)
  rw [hid_upd hq] at this
  exact this
end
section
variable {p : Pg} {n : Nat} {N : List Str} {sc : Scope} {W : WX} {X : Cx} {A B A2 : Expr} {a b a2 : E} {pos : Pos}
theorem last_own {c : Cf} {mm : Mm} {q : Addr} (e : c.ad.length = mm.length) : (c.own q).ad[mm.length]? = some q := by
  rw [← e]; simp [Cf.own]
theorem s_dn (o : XOk p n N sc W X) (tk : Bool) : PE X (.Dict [] [] pos) (tE p n W (.dn tk)) := by
  cases tk with
  | true =>
    refine PEimp pe_dnewN fun σ H Q ⟨g, c, sl, mm, r, h⟩ => ?_
    simp only [semE, if_true] at h
    intro q ob hq
    refine h (c.own q) (.ref q) _ (le_own r.trk hq) (r.ownG hq rfl ?_) ?_
    · simp only [RepM]
      exact ⟨ob, [], by rw [o.dn]; exact upd_same, rfl, rfl, RepL.nil, RepL.nil, by simp⟩
    · simp only [RepV]
      exact ⟨q, last_own r.lenA, rfl⟩
  | false =>
    refine PEimp pe_dnewK fun σ H Q ⟨g, c, sl, mm, r, h⟩ => ?_
    simp only [semE, Bool.false_eq_true, if_false] at h
    intro q hq
    refine h (c.own q) (.ref q) _ (le_own r.trk hq) (r.ownG hq rfl ?_) ?_
    · simp only [RepM]
      exact ⟨[], upd_same, rfl, rfl, RepL.nil, RepL.nil, by simp⟩
    · simp only [RepV]
      exact ⟨q, last_own r.lenA, rfl⟩
theorem s_d1 (o : XOk p n N sc W X) (ha : PE X A (tE p n W a)) (hb : PE X B (tE p n W b)) : PE X (.Dict [some A] [B] pos) (tE p n W (.d1 a b)) := by
  refine PEimp (pe_disp1N (room_u9 o.room) ha hb) fun σ H Q ⟨g, c, sl, mm, r, h⟩ => ?_
  simp only [semE] at h
  intro q ob hq
  have nz : ¬ c.Z q := fun z => r.trk q z hq
  have na : q ∉ c.ad := fun z => r.adTrk z hq
  have h0' := r.fresh0 hq
  obtain ⟨lb, rb⟩ := r.beside (o := dN X.prog X.w q ob []) nz na h0'
  refine ⟨⟨upd H q (dN X.prog X.w q ob []), c.Z, c.ad⟩, c, sl, mm, rb.inner, ?_⟩
  cases q1 : semE p.gv (p.cf n) a sl mm with
  | none => rw [q1] at h; exact h.elim
  | some y =>
    rw [q1] at h
    cases y with
    | ex x mm1 => exact fun c2 dd H2 l2 r2 rx => h c2 dd H2 (lb.trans l2) (rb.outer r2) rx
    | ok d mm1 =>
      intro c1 v H1 l1 r1 rv1
      refine ⟨⟨upd H q (dN X.prog X.w q ob []), c.Z, c.ad⟩, c1, sl, mm1, r1, ?_⟩
      simp only [bindE] at h
      cases q2 : semE p.gv (p.cf n) b sl mm1 with
      | none => rw [q2] at h; exact h.elim
      | some y =>
        rw [q2] at h
        cases y with
        | ex x mm2 => exact fun c2 dd H2 l2 r2 rx => h c2 dd H2 (lb.trans (l1.trans l2)) (rb.outer r2) rx
        | ok e mm2 =>
          intro c2 u H2 l2 r2 ru
          obtain ⟨hq2, na2, nz2⟩ := r2.keepD upd_same na nz
          have r3 := rb.outer r2
          cases z : (isKD d && pureD e) with
          | false => simp only [z] at h; exact h.elim
          | true =>
            simp only [z, if_true] at h
            rw [Bool.and_eq_true] at z
            have rv2 := RepV.le l2 _ _ rv1
            obtain ⟨b', rfl⟩ := repV_kd z.1 rv2
            refine ⟨hq2, nkT d, b', rfl, by rw [o.K]; exact keyA_of z.1 rv2, fun o' => ?_⟩
            obtain ⟨l4, r4⟩ := r3.beside (o := dN X.prog X.w q o' [(nkT d, b', u)]) nz2 na2 h0'
            have l6 : c2.Le H2 (c2.own q) (upd H2 q (dN X.prog X.w q o' [(nkT d, b', u)])) := l4.trans ⟨⟨[q], rfl⟩, fun a z => z, fun _ _ _ w => w⟩
            obtain ⟨l5, r5⟩ := r4.takeG (e := .dtu [d] [e]) nz2 na2 h0' upd_same (by simp only [pureD, pureDs, isKD_pure z.1, z.2, Bool.and_self]) (by
              simp only [RepM]
              exact ⟨o', [(nkT d, b', u)], by rw [o.dn]; exact upd_same, rfl, by rw [List.all_cons, z.1]; rfl, RepL.one (RepV.le l6 _ _ rv2), RepL.one (RepV.le l6 _ _ ru), by simp⟩)
            refine h (c2.own q) _ _ (lb.trans (l1.trans (l2.trans l6))) r5 ?_
            simp only [RepV]
            exact ⟨q, last_own r4.lenA, rfl⟩
theorem isDN_of (o : XOk p n N sc W X) {g : Gh} {c : Cf} {sl : Sl} {mm : Mm} {σ : L2.St} {H : Hp} {d : Mp.D} {v : V} (r : Rep p.K g c sl mm σ H) (rv : RepV p.K c.ad c.Z H d v) (h : isDct (rd mm d) = true) : ∃ q, v = .ref q ∧ IsDN X H q := by
  cases e : rd mm d <;> rw [e] at h <;> try (cases h; done)
  · obtain ⟨q, kvs, rfl, t, _⟩ := r.rdD rv e
    exact ⟨q, rfl, .inl (.inl ⟨kvs, t⟩)⟩
  · obtain ⟨q, ob, kvs, rfl, t, e1, hk, r1, _⟩ := r.rdU rv e
    exact ⟨q, rfl, .inr ⟨ob, kvs, by rw [← o.dn]; exact t, by rw [o.K]; exact keysA hk e1 r1⟩⟩
theorem get_ok (o : XOk p n N sc W X) {g : Gh} {c : Cf} {sl : Sl} {mm : Mm} {σ : L2.St} {H : Hp} {d y x : Mp.D} {q : Addr} {u w : V} {Q : VK} (r : Rep p.K g c sl mm σ H) (rv : RepV p.K c.ad c.Z H d (.ref q)) (ru : RepV p.K c.ad c.Z H y u) (rx : RepV p.K c.ad c.Z H x w)
    (h : PostE p g c sl σ H W Q (getS d y x mm)) : ∃ ov, DG X H q u ov ∧ Q (ov.getD w) H := by
  unfold getS at h
  split at h
  · rename_i ks vs e
    obtain ⟨q', kvs, eq, t, hk, rl, _, _⟩ := r.rdD rv e
    cases eq
    cases z : (isKT y && ks.all isKT) with
    | false => simp only [z] at h; exact h.elim
    | true =>
      simp only [z, if_true] at h
      rw [Bool.and_eq_true] at z
      have g1 := dg_k (X := X) (ks := ks) t ru z.1
      rw [valV_key z.1 z.2 hk] at g1
      refine ⟨_, g1, ?_⟩
      cases ej : idxOfD y ks with
      | none => rw [ej] at h; exact PostE.ok0 h r rx
      | some j =>
        rw [ej] at h
        simp only [] at h
        cases ex : vs[j]? with
        | none => rw [ex] at h; exact h.elim
        | some x' =>
          rw [ex] at h
          obtain ⟨w', hw, rw'⟩ := rl.get ex
          show Q (((kvs.map (·.2))[j]?).getD w) H
          rw [hw]
          exact PostE.ok0 h r rw'
  · rename_i ks vs e
    obtain ⟨q', ob, kvs, eq, t, hk, hd, r1, rl⟩ := r.rdU rv e
    cases eq
    cases z : (isKD y && ks.all isKD) with
    | false => simp only [z] at h; exact h.elim
    | true =>
      simp only [z, if_true] at h
      rw [Bool.and_eq_true] at z
      have g1 := dg_n o t hk hd r1 ru z.1
      rw [atN_key z.1 z.2 hk] at g1
      refine ⟨_, g1, ?_⟩
      cases ej : idxOfD y ks with
      | none => rw [ej] at h; exact PostE.ok0 h r rx
      | some j =>
        rw [ej] at h
        simp only [] at h
        cases ex : vs[j]? with
        | none => rw [ex] at h; exact h.elim
        | some x' =>
          rw [ex] at h
          obtain ⟨w', hw, rw'⟩ := rl.get ex
          show Q (((kvs.map (·.2.2))[j]?).getD w) H
          rw [hw]
          exact PostE.ok0 h r rw'
  · exact h.elim
theorem s_get1 (o : XOk p n N sc W X) {apos : Pos} (hl : (apos.endLine == pos.line) = true) (ha : PE X A (tE p n W a)) (hb : PE X B (tE p n W b)) (pa : plainA A = true) (na : notSuper A = true) (pb : plainA B = true) :
    PE X (.Call (.Attribute A "get" apos) [B] [] pos) (tE p n W (.get1 a b)) := by
  refine PEimp (pe_g1 (room_u9 o.room) ha hb ⟨base_plain pa na _ _, few_one pb _ _, hl, by rw [star_plain pb]; rfl⟩) fun σ H Q ⟨g, c, sl, mm, r, h⟩ => ?_
  simp only [semE] at h
  refine ⟨g, c, sl, mm, r, PostE.bind h fun c1 d mm1 v H1 l1 r1 rv h1 => ?_⟩
  cases e : isDct (rd mm1 d) with
  | false => simp only [e] at h1; exact h1.elim
  | true =>
    simp only [e, if_true] at h1
    obtain ⟨q, rfl, hd⟩ := isDN_of o r1 rv e
    refine ⟨q, rfl, hd, g, c1, sl, mm1, r1, PostE.bind h1 fun c2 y mm2 u H2 l2 r2 ru h2 => ?_⟩
    exact get_ok o r2 (RepV.le l2 _ _ rv) ru (x := .non) (by simp only [RepV]) h2
theorem few_two (pa : plainA A = true) (pb : plainA B = true) (env : Env) (pos : Pos) : ((backTo pos (starEach [A, B] env)).all (fun x => !x.1) && (backToKw pos (keywordEach [] env)).all (fun x => x.1.isSome)
      && decide (([A, B] : List Expr).length + ([] : List Keyword).length + (if ([] : List Keyword).isEmpty then 0 else 1) < 30)) = true := by
  rw [star_plain pa, star_plain pb]; rfl
theorem s_get2 (o : XOk p n N sc W X) {apos : Pos} (hl : (apos.endLine == pos.line) = true) (ha : PE X A (tE p n W a)) (hb : PE X B (tE p n W b)) (hc : PE X A2 (tE p n W a2)) (pa : plainA A = true) (na : notSuper A = true) (pb : plainA B = true) (pc : plainA A2 = true) :
    PE X (.Call (.Attribute A "get" apos) [B, A2] [] pos) (tE p n W (.get2 a b a2)) := by
  refine PEimp (pe_g2 (room_u9 o.room) ha hb hc ⟨base_plain pa na _ _, few_two pb pc _ _, hl, by rw [star_plain pb, star_plain pc]; rfl⟩) fun σ H Q ⟨g, c, sl, mm, r, h⟩ => ?_
  simp only [semE] at h
  refine ⟨g, c, sl, mm, r, PostE.bind h fun c1 d mm1 v H1 l1 r1 rv h1 => ?_⟩
  cases e : isDct (rd mm1 d) with
  | false => simp only [e] at h1; exact h1.elim
  | true =>
    simp only [e, if_true] at h1
    obtain ⟨q, rfl, hd⟩ := isDN_of o r1 rv e
    refine ⟨q, rfl, hd, g, c1, sl, mm1, r1, PostE.bind h1 fun c2 y mm2 u H2 l2 r2 ru h2 => ⟨g, c2, sl, mm2, r2, PostE.bind h2 fun c3 x mm3 w H3 l3 r3 rx h3 => ?_⟩⟩
    exact get_ok o r3 (RepV.le (l2.trans l3) _ _ rv) (RepV.le l3 _ _ ru) rx h3
/-! ### built-ins -/
theorem s_lenD (o : XOk p n N sc W X) {po : Pos} {x : Str} (hx : x = "len") (hg : glB sc x = true) (hm : p.mg x = none) (ha : PE X A (tE p n W a)) (pa : plainA A = true) : PE X (.Call (.Name x po) [A] [] pos) (tE p n W (.un .lenD a)) := by
  subst hx
  refine s_callB o call_lenD (by decide +kernel) hg hm ha pa fun g c sl mm σ H d v Q r rv h => ?_
  simp only [unS] at h
  split at h
  · rename_i ks vs e
    obtain ⟨q, kvs, rfl, t, hk, _⟩ := r.rdD rv e
    have hl : kvs.length = ks.length := by have := congrArg List.length hk; simpa using this
    exact ⟨q, kvs.length, rfl, .inl ⟨kvs, t, rfl⟩, by rw [hl]; exact PostE.ok0 h r okI⟩
  · rename_i ks vs e
    obtain ⟨q, ob, kvs, rfl, t, e1, hk, r1, _⟩ := r.rdU rv e
    have hl : kvs.length = ks.length := by have := congrArg List.length e1; simpa using this
    exact ⟨q, kvs.length, rfl, .inr ⟨ob, kvs, ⟨by rw [← o.dn]; exact t, by rw [o.K]; exact keysA hk e1 r1⟩, rfl⟩, by rw [hl]; exact PostE.ok0 h r okI⟩
  · exact h.elim
theorem s_listD (o : XOk p n N sc W X) {po : Pos} {x : Str} (hx : x = "list") (hg : glB sc x = true) (hm : p.mg x = none) (ha : PE X A (tE p n W a)) (pa : plainA A = true) : PE X (.Call (.Name x po) [A] [] pos) (tE p n W (.un .listD a)) := by
  subst hx
  refine s_callTy o (call_listD o.calm) (by decide +kernel) hg hm ha pa fun g c sl mm σ H d v Q r rv h => ?_
  simp only [unS] at h
  split at h
  · rename_i ks vs e
    obtain ⟨q, kvs, rfl, t, hk, _, _, r1⟩ := r.rdD rv e
    exact ⟨q, kvs, rfl, t, fun w hw => PostE.newL h r r1 hw⟩
  · exact h.elim
theorem ltCps_eq : ∀ a b : List Nat, ltCps a b = decide (a < b)
  | [], [] => rfl
  | [], _ :: _ => rfl
  | _ :: _, [] => rfl
  | x :: xs, y :: ys => by
    simp only [ltCps, ltCps_eq xs ys]
    by_cases h : x < y
    · simp [h, List.cons_lt_cons_iff]
    · by_cases e : x = y
      · subst e; simp [List.cons_lt_cons_iff]
      · simp [h, e, List.cons_lt_cons_iff]
theorem rising_pw : ∀ (p : Str) (l : List Str), risingS p l = true → List.Pairwise (fun a b : Str => ltCps b.cps.toList a.cps.toList = false) (p :: l)
  | p, [], _ => by simp
  | p, x :: r, h => by
    simp only [risingS, Bool.and_eq_true, Bool.not_eq_true'] at h
    have ih := rising_pw x r h.2
    refine List.pairwise_cons.mpr ⟨fun y hy => ?_, ih⟩
    rcases List.mem_cons.mp hy with rfl | hy
    · exact h.1
    · have h2 := (List.pairwise_cons.mp ih).1 y hy
      rw [ltCps_eq, decide_eq_false_iff_not] at h2 ⊢
      have h1 := h.1
      rw [ltCps_eq, decide_eq_false_iff_not] at h1
      exact List.le_trans (l₁ := p.cps.toList) (l₂ := x.cps.toList) (l₃ := y.cps.toList) h1 h2
theorem pw_uniq {l m : List Tx} (p : l.Perm m) (h1 : l.Pairwise fun a b => ltT b a = false) (h2 : m.Pairwise fun a b => ltT b a = false) : l = m := by
  refine List.Perm.eq_of_pairwise (le := fun a b => ltT b a = false) (fun a b _ _ x y => ?_) h1 h2 p
  have x : ¬ b < a := of_decide_eq_false x
  have y : ¬ a < b := of_decide_eq_false y
  exact List.le_antisymm x y
theorem s_sortD (o : XOk p n N sc W X) {po : Pos} {x : Str} (hx : x = "sorted") (hg : glB sc x = true) (hm : p.mg x = none) (ha : PE X A (tE p n W a)) (pa : plainA A = true) : PE X (.Call (.Name x po) [A] [] pos) (tE p n W (.un .sortD a)) := by
  subst hx
  refine s_callB o (call_sortedD o.calm) (by decide +kernel) hg hm ha pa fun g c sl mm σ H d v Q r rv h => ?_
  simp only [unS] at h
  split at h
  · rename_i ks vs e
    obtain ⟨q, kvs, rfl, t, hk, _, hd, r1⟩ := r.rdD rv e
    cases es : allStr ks with
    | none => simp only [es] at h; exact h.elim
    | some ts =>
      simp only [es] at h
      cases z : decide (ts.length < 64) with
      | false => simp only [z] at h; exact h.elim
      | true =>
        simp only [z, if_true] at h
        have ek := allStr_map es
        subst ek
        refine ⟨q, kvs, ts.map toS, rfl, t, by rw [hk, List.map_map, List.map_map]; rfl, by rw [List.length_map]; exact of_decide_eq_true z, fun ys w hp hs hw => ?_⟩
        have hperm : (ys.map fun y => y.cps.toList).Perm ts := by
          have := hp.map (fun y : Str => y.cps.toList)
          rw [List.map_map] at this
          have e2 : ts.map ((fun y : Str => y.cps.toList) ∘ toS) = ts := by
            rw [show ((fun y : Str => y.cps.toList) ∘ toS) = id from funext fun t => by simp [toS]]; simp
          rw [e2] at this; exact this
        have hpw : (ys.map fun y => y.cps.toList).Pairwise fun a b => ltT b a = false := by
          rw [List.pairwise_map]
          have : ys.Pairwise fun a b : Str => ltCps b.cps.toList a.cps.toList = false := by
            cases ys with
            | nil => simp
            | cons y ys => exact rising_pw y ys hs
          exact this.imp fun {a b} h => by rw [ltCps_eq] at h; exact h
        have hm2 : (ts.mergeSort fun x y => !ltT y x).Pairwise fun a b => ltT b a = false := by
          have := List.pairwise_mergeSort (le := fun x y : Tx => !ltT y x) (fun a b c h1 h2 => by
            simp only [ltT, Bool.not_eq_true', decide_eq_false_iff_not] at h1 h2 ⊢
            exact List.le_trans (l₁ := a) (l₂ := b) (l₃ := c) h1 h2) (fun a b => by
            simp only [ltT, Bool.or_eq_true, Bool.not_eq_true', decide_eq_false_iff_not]
            exact List.le_total a b) ts
          exact this.imp fun {a b} h => by simpa using h
        have eq := pw_uniq (hperm.trans (List.mergeSort_perm ts fun x y => !ltT y x).symm) hpw hm2
        have eys : ys = (ts.mergeSort fun x y => !ltT y x).map toS := by
          rw [← eq, List.map_map]
          rw [show (toS ∘ fun y : Str => y.cps.toList) = id from funext fun t => toS_list t]; simp
        rw [eys]
        refine PostE.newL h r ?_ hw
        have hall : ∀ t ∈ ts, okT t = true := fun t ht => by
          have hm : Mp.D.str t ∈ ts.map Mp.D.str := List.mem_map_of_mem ht
          obtain ⟨j, hj⟩ := List.mem_iff_getElem?.mp hm
          obtain ⟨w', _, rw'⟩ := r1.get hj
          simp only [RepV] at rw'
          exact rw'.2
        exact repL_new (List.all_eq_true.mpr fun t ht => hall t ((List.mergeSort_perm ts fun x y => !ltT y x).mem_iff.mp ht))
  · exact h.elim
theorem s_rep (ha : PE X A (tE p n W a)) (hb : PE X B (tE p n W b)) : PE X (.BinOp A .Mult B pos) (tE p n W (.bin .rep a b)) :=
  s_bin (pe_op op_rep ha hb) fun g c sl mm σ H d f v u Q r rv ru h => by
    simp only [binS] at h
    split at h
    · split at h
      · rename_i k _ xs e
        split at h
        · rename_i j
          cases z : (decide (0 ≤ j) && decide (j ≤ 1000) && decide (xs.length ≤ 1000)) with
          | false => simp only [z] at h; exact h.elim
          | true =>
            simp only [z, if_true] at h
            simp only [Bool.and_eq_true, decide_eq_true_eq] at z
            obtain ⟨q, vs, hq, rfl, hH, rl, pl⟩ := r.own_at rv e
            rw [repV_int ru]
            have hl : vs.length * j.toNat ≤ 1000 * 1000 := Nat.mul_le_mul (by rw [rl.len]; exact z.2) (by omega)
            exact ⟨q, j, vs, rfl, rfl, hH, by omega, by omega, by rw [sizeLine_eq]; omega, fun w hw => PostE.newL h r (rl.rep _) hw⟩
        · exact h.elim
      · exact h.elim
    · exact h.elim
/-! ### statements -/
theorem s_dead {st : Stmt} : PS X st (tS p n W .dead) := ⟨fun pins s σ H D I ⟨g, c, sl, mm, r, h⟩ => by
  simp only [semS] at h
  exact h.elim⟩
theorem s_std (o : SOk p n N sc W X) {i : Nat} {x : Str} {p1 p2 : Pos} {I A : Expr} {ix a : E} (hi : N[i]? = some x) (hv : visB sc x = true) (hn : nmB x = true) (hI : PE X I (tE p n W ix)) (ha : PE X A (tE p n W a)) (pa : plainA A = true) (nc : isComp A = false) :
    PS X (.Assign [.Subscript (.Name x p1) I p2] A pos) (tS p n W (.std i ix a)) := by
  have hx : PE X (.Name x p1) (tE p n W (.var i)) := s_var o.toXOk hi hv hn
  refine PSimp (ps_st (room_u9 o.room) hx hI ha (by exact swap_plain pa nc (some (.Subscript (.Name x p1) I p2)) pos.line X.env)) fun D σ H ⟨g, c, sl, mm, r, h⟩ => ?_
  have h' : PostS p g c H D W (exprS (semE p.gv (p.cf n) a sl mm) sl fun d mm1 => (match sl[i]? with
      | some (some (.m k)) => (match semE p.gv (p.cf n) ix sl mm1 with
        | some (.ok y mm2) => (match mm2[k]? with
          | some (.mu c) => if pureD d then (match putD c y d with
            | some c' => some (.nx sl (mm2.set k (.mu c')))
            | none => none) else none
          | _ => none)
        | some (.ex x mm1) => some (.ex x sl mm1)
        | none => none)
      | _ => none)) := by
    simp only [semS] at h; exact h
  refine ⟨g, c, sl, mm, r, PostS.expr h' fun c1 d mm1 v H1 l1 r1 rv h1 => ?_⟩
  refine ⟨g, c1, sl, mm1, r1, ?_⟩
  simp only [semE]
  cases e1 : sl[i]? with
  | none => simp only [e1] at h1; exact h1.elim
  | some ov =>
    cases ov with
    | none => simp only [e1] at h1; exact h1.elim
    | some dv =>
      cases dv with
      | m k =>
        simp only [e1] at h1
        intro c2 w H2 l2 r2 rw'
        refine ⟨g, c2, sl, mm1, r2, ?_⟩
        have h2 := PostS.from h1 l2
        cases e2 : semE p.gv (p.cf n) ix sl mm1 with
        | none => simp only [e2] at h2; exact h2.elim
        | some y =>
          cases y with
          | ex x mm2 =>
            simp only [e2] at h2
            exact fun c3 dd H3 l3 r3 rx => h2 c3 dd σ H3 l3 r3 rx
          | ok y mm2 =>
            simp only [e2] at h2
            intro c3 u H3 l3 r3 ru
            have h3 := PostS.from h2 l3
            have rw3 := RepV.le l3 _ _ rw'
            have rv3 := RepV.le (l2.trans l3) _ _ rv
            split at h3
            · rename_i cc e3
              cases zp : pureD d with
              | false => simp only [zp] at h3; exact h3.elim
              | true =>
                simp only [zp, if_true] at h3
                split at h3
                · rename_i c' e4
                  simp only [RepV] at rw3
                  obtain ⟨q, hq, rfl⟩ := rw3
                  have ob := r3.obj k q _ hq e3
                  have nz : ¬ c3.Z q := ob.1
                  have pc := ob.2.1
                  have lw : ∀ o, c3.Le H3 c3 (upd H3 q o) := fun o => ⟨⟨[], by simp⟩, fun _ z => z, fun b u z w => rd_upd (fun e => nz (e ▸ z)) w⟩
                  refine ⟨q, rfl, ?_⟩
                  unfold putD at e4
                  split at e4
                  · rename_i ks vs
                    have om := ob.2.2
                    simp only [RepM] at om
                    obtain ⟨kvs, hH, hk, hd, rk, rl, nd⟩ := om
                    simp only [pureD, Bool.and_eq_true] at pc
                    split at e4
                    · rename_i z
                      simp only [Bool.and_eq_true, decide_eq_true_eq] at z
                      have hl : kvs.length = ks.length := by have := congrArg List.length hk; simpa using this
                      obtain ⟨s1, s2⟩ := putK_spec (v := v) z.1.1 hd hk nd
                      have ey := repV_key ru z.1.1
                      left
                      refine ⟨upd H3 q (.dK (putK kvs (keyT y) v)), .inl ⟨kvs, keyT y, hH, ey, by rw [hl, sizeLine_eq]; have := z.2; unfold szl at this; omega, rfl⟩, ?_⟩
                      cases ej : idxOfD y ks with
                      | some j =>
                        simp only [ej, Option.some.injEq] at e4
                        subst e4
                        obtain ⟨t1, t2⟩ := s1 j ej
                        obtain ⟨l4, r4⟩ := r3.writeG (e := .dct ks (vs.set j d)) (u0 := .dK (putK kvs (keyT y) v)) hq e3 (by simp only [pureD, pc.1, pureDs_set j pc.2 zp, Bool.and_self]) (by
                          simp only [RepM]
                          refine ⟨_, upd_same, t1, hd, ?_, by rw [t2]; exact (RepL.le (lw _) _ _ rl).set j (RepV.le (lw _) _ _ rv3), nd⟩
                          rw [keys_kV t1, ← keys_kV hk]; exact RepL.le (lw _) _ _ rk)
                        exact h3 c3 σ _ l4 r4
                      | none =>
                        simp only [ej, Option.some.injEq] at e4
                        subst e4
                        obtain ⟨t1, t2⟩ := s2 ej
                        have ry : RepV p.K c3.ad c3.Z H3 y (kV (keyT y)) := by rw [← ey]; exact ru
                        have py : pureD y = true := by
                          have := z.1.1
                          cases y <;> simp only [isKT, Bool.false_eq_true] at this <;> rfl
                        obtain ⟨l4, r4⟩ := r3.writeG (e := .dct (ks ++ [y]) (vs ++ [d])) (u0 := .dK (putK kvs (keyT y) v)) hq e3 (by
                          simp only [pureD, pureDs_app pc.1 (pureDs_one py), pureDs_app pc.2 (pureDs_one zp), Bool.and_self]) (by
                          simp only [RepM]
                          refine ⟨_, upd_same, by rw [t1]; simp [hk], by rw [List.all_append, hd]; simp [z.1.1], ?_, ?_, ?_⟩
                          · rw [t1, List.map_append]
                            exact (RepL.le (lw _) _ _ rk).app (RepL.one (RepV.le (lw _) _ _ ry))
                          · rw [t1, List.map_append]
                            exact (RepL.le (lw _) _ _ rl).app (RepL.one (RepV.le (lw _) _ _ rv3))
                          · rw [List.map_append, List.nodup_append]
                            exact ⟨nd, by simp, fun a ha b hb => by simp at hb; subst hb; exact fun e => t2 (e ▸ ha)⟩)
                        exact h3 c3 σ _ l4 r4
                    · cases e4
                  · rename_i ks vs
                    have om := ob.2.2
                    simp only [RepM] at om
                    obtain ⟨oo, kvs, hH, hk, hd, rk, rl, nd⟩ := om
                    simp only [pureD, Bool.and_eq_true] at pc
                    split at e4
                    · rename_i z
                      simp only [Bool.and_eq_true, decide_eq_true_eq] at z
                      have hl : kvs.length = ks.length := by have := congrArg List.length hk; simpa using this
                      obtain ⟨b', rfl⟩ := repV_kd z.1.1 ru
                      obtain ⟨s1, s2⟩ := putN_spec (p := b') (v := v) z.1.1 hd hk nd
                      right
                      refine ⟨oo, kvs, nkT y, b', by rw [← o.dn]; exact hH, by rw [o.K]; exact keysA hd hk rk, by rw [hl, sizeLine_eq]; have := z.2; unfold szl at this; omega, rfl, by rw [o.K]; exact keyA_of z.1.1 ru, fun o' => ?_⟩
                      rw [← o.dn]
                      cases ej : idxOfD y ks with
                      | some j =>
                        simp only [ej, Option.some.injEq] at e4
                        subst e4
                        obtain ⟨t1, t3, t2⟩ := s1 j ej
                        obtain ⟨l4, r4⟩ := r3.writeG (e := .dtu ks (vs.set j d)) (u0 := p.K.dn q o' (putN kvs (nkT y) b' v)) hq e3 (by simp only [pureD, pc.1, pureDs_set j pc.2 zp, Bool.and_self]) (by
                          simp only [RepM]
                          refine ⟨_, _, upd_same, t1, hd, ?_, by rw [t2]; exact (RepL.le (lw _) _ _ rl).set j (RepV.le (lw _) _ _ rv3), nd⟩
                          have t4 : ((putN kvs (nkT y) b' v).map fun q => V.ref q.2.1) = kvs.map fun q => V.ref q.2.1 := by
                            have := congrArg (List.map V.ref) t3
                            simpa [List.map_map, Function.comp_def] using this
                          rw [t4]; exact RepL.le (lw _) _ _ rk)
                        exact h3 c3 σ _ l4 r4
                      | none =>
                        simp only [ej, Option.some.injEq] at e4
                        subst e4
                        obtain ⟨t1, t2⟩ := s2 ej
                        obtain ⟨l4, r4⟩ := r3.writeG (e := .dtu (ks ++ [y]) (vs ++ [d])) (u0 := p.K.dn q o' (putN kvs (nkT y) b' v)) hq e3 (by
                          simp only [pureD, pureDs_app pc.1 (pureDs_one (isKD_pure z.1.1)), pureDs_app pc.2 (pureDs_one zp), Bool.and_self]) (by
                          simp only [RepM]
                          refine ⟨_, _, upd_same, by rw [t1]; simp [hk], by rw [List.all_append, hd]; simp [z.1.1], ?_, ?_, ?_⟩
                          · rw [t1, List.map_append]
                            exact (RepL.le (lw _) _ _ rk).app (RepL.one (RepV.le (lw _) _ _ ru))
                          · rw [t1, List.map_append]
                            exact (RepL.le (lw _) _ _ rl).app (RepL.one (RepV.le (lw _) _ _ rv3))
                          · rw [List.map_append, List.nodup_append]
                            exact ⟨nd, by simp, fun a ha b hb => by simp at hb; subst hb; exact fun e => t2 (e ▸ ha)⟩)
                        exact h3 c3 σ _ l4 r4
                    · cases e4
                  · cases e4
                · exact h3.elim
            · exact h3.elim
      | _ => simp only [e1] at h1; exact h1.elim
end
end Mp
/-! Mp10c: three names at once. -/
namespace Mp
open PySem PySem.Spec
open PyProof.Rows L2
section
variable {p : Pg} {n : Nat} {N : List Str} {sc : Scope} {W : WX} {X : Cx} {pos : Pos}
theorem swap_par3 {x y z : Str} {px py pz pt pt2 : Pos} {kt k2 : Nat} {A B C : Expr} {env : Env} (hk : env.scope.kind = .function) (hx : env.scope.names.lookup x = some .local) (hy : env.scope.names.lookup y = some .local) (hz : env.scope.names.lookup z = some .local)
    (hl : (py.line == px.line) = true) (hl2 : (pz.line == px.line) = true) (h1 : (x == y) = false) (h2 : (x == z) = false) (h3 : (y == z) = false)
    (pa : plainA A = true) (pb : plainA B = true) (pc : plainA C = true) (hf : (foldedForSure 8 A && (foldedForSure 8 B && foldedForSure 8 C)) = false) (hc : (constantsAlone 8 A && (constantsAlone 8 B && constantsAlone 8 C)) = false) :
    swappedStores [.Tuple [.Name x px, .Name y py, .Name z pz] kt pt] (.Tuple [A, B, C] k2 pt2) env = pure (some [x, y, z]) := by
  have hb : env.blockKind = .function := by unfold Env.blockKind; rw [hk]; rfl
  have kx : env.kindOf x = some .local := hx
  have ky : env.kindOf y = some .local := hy
  have kz : env.kindOf z = some .local := hz
  have sy : ∀ {a b : Str}, (a == b) = false → (b == a) = false := fun {a b} h => by
    rw [beq_eq_false_iff_ne] at h ⊢
    exact fun e => h e.symm
  have h1' := sy h1
  have h2' := sy h2
  have h3' := sy h3
  have ns : ∀ e : Expr, plainA e = true → (match e with | .Starred .. => true | _ => false) = false := fun e he => by
    cases e <;> first | rfl | cases he
  have hs : ([A, B, C].any fun | .Starred .. => true | _ => false) = false := by
    rw [List.any_eq_false]
    intro e he
    have pe : plainA e = true := by
      simp only [List.mem_cons, List.not_mem_nil, or_false] at he
      rcases he with rfl | rfl | rfl
      · exact pa
      · exact pb
      · exact pc
    rw [ns e pe]; exact Bool.false_ne_true
  unfold swappedStores
  simp only [hb, hs, kx, ky, kz, List.filterMap_cons, List.filterMap_nil, List.head?_cons, Option.map_some, Option.getD_some, Expr.pos, hl, hl2, List.all_cons, List.all_nil, Bool.and_true, hf, hc, List.length_cons, List.length_nil]
  simp [List.eraseDups_cons, h1', h2', h3', hf, hc]
  intro h
  exfalso
  rcases h with h | h | h
  · cases A <;> first | (cases pa; done) | (cases h; done)
  · cases B <;> first | (cases pb; done) | (cases h; done)
  · cases C <;> first | (cases pc; done) | (cases h; done)
theorem s_par3 (o : SOk p n N sc W X) {x y z : Str} {i j l : Nat} {A B C : Expr} {a b c : E} {px py pz pt pt2 : Pos} {kt k2 : Nat} (hi : N[i]? = some x) (hj : N[j]? = some y) (hl : N[l]? = some z) (hij : i ≠ j) (hil : i ≠ l) (hjl : j ≠ l)
    (hx : sc.names.lookup x = some .local) (hy : sc.names.lookup y = some .local) (hz : sc.names.lookup z = some .local) (ha : PA X [A, B, C] (tEs p n W (.cons a (.cons b (.cons c .nil)))))
    (hw : swappedStores [.Tuple [.Name x px, .Name y py, .Name z pz] kt pt] (.Tuple [A, B, C] k2 pt2) X.env = pure (some [x, y, z])) :
    PS X (.Assign [.Tuple [.Name x px, .Name y py, .Name z pz] kt pt] (.Tuple [A, B, C] k2 pt2) pos) (tS p n W (.par3 i j l a b c)) :=
  PSimp (ps_par3 o.calm (by rw [o.nm]; exact o.nd) (by rw [o.nm]; exact hi) (by rw [o.nm]; exact hj) (by rw [o.nm]; exact hl) hij hil hjl (by rw [o.sc]; exact hx) (by rw [o.sc]; exact hy) (by rw [o.sc]; exact hz) ha hw) fun D σ H ⟨g, cc, sl, mm, r, h⟩ => by
    simp only [semS] at h
    refine ⟨g, cc, sl, mm, r, ?_⟩
    cases q : semEs p.gv (p.cf n) (.cons a (.cons b (.cons c .nil))) sl mm with
    | none => rw [q] at h; exact h.elim
    | some y =>
      rw [q] at h
      cases y with
      | ex x mm1 => exact fun c2 dd H2 l2 r2 rx => h c2 dd σ H2 l2 r2 rx
      | ok ds mm1 =>
        intro c2 vs H2 l2 r2 rl
        match ds, rl, h with
        | [u, v, w], rl, h =>
          simp only [RepL] at rl
          obtain ⟨v1, t1, rfl, q1, v2, t2, rfl, q2, v3, t3, rfl, q3, rfl⟩ := rl
          exact ⟨v1, v2, v3, rfl, h c2 _ H2 l2 (((r2.set q1).set q2).set q3)⟩
        | [], _, h => exact h.elim
        | [_], _, h => exact h.elim
        | [_, _], _, h => exact h.elim
        | _ :: _ :: _ :: _ :: _, _, h => exact h.elim
end
end Mp
/-! Mp11: a text is looked at beside the small language. -/
namespace Mp
open PySem PySem.Spec
open PyProof.Rows L2
/-- the names -/
structure Nm where
  fn : Nat → Str
  gn : Nat → Str
  en : Nat → Str
  dom : Nat → Bool
  gdom : Nat → Bool
  edom : Nat → Bool
  bdom : Str → Bool
  np : Nat → Nat
  gs : Nat → Option (List Tx)
def Pg.nm (p : Pg) : Nm := ⟨p.fn, p.gn, p.en, p.dom, p.gdom, p.edom, p.bdom, fun f => (p.T f).np, fun g => strsG (p.gv g)⟩
def tstA : Expr → Bool
  | .IfExp _ _ _ _ => false
  | .Dict _ _ _ => false
  | _ => true
def isBO : Expr → Bool
  | .BoolOp _ _ _ => true
  | _ => false
/-- a built-in's name -/
def bB (m : Nm) (sc : Scope) (x y : Str) : Bool := decide (x = y) && glB sc x && m.bdom x
def u1N : U1 → Option Str
  | .len => some "len"
  | .int => some "int"
  | .any => some "any"
  | .all => some "all"
  | .sorted => some "sorted"
  | .list => some "list"
  | .tuple => some "tuple"
  | .str => some "str"
  | .minl => some "min"
  | .maxl => some "max"
  | .lenD => some "len"
  | .listD => some "list"
  | .sortD => some "sorted"
  | _ => none
def tyS : Ty → Option Str
  | .bool => some "bool"
  | .int => some "int"
  | .str => some "str"
  | .tuple => some "tuple"
  | .list => some "list"
  | .dict => some "dict"
  | .cls _ => none
/-- a value that is no test of its own kind -/
def val2 : Expr → Bool
  | .Tuple _ _ _ => true
  | .List _ _ => true
  | .BinOp _ _ _ _ => true
  | .ListComp _ _ _ _ => true
  | .UnaryOp .USub _ _ => true
  | _ => false
/-- the operand of a one-place operator -/
def vUn (m : Nm) (sc : Scope) : U1 → Expr → Option Expr
  | .neg, A => (match A with | .UnaryOp .USub B _ => some B | _ => none)
  | .frz, A => if valA A || val2 A then some A else none
  | .isN, A => (match A with | .Compare B [.Is] [.Constant .none _ _] _ => some B | _ => none)
  | .notN, A => (match A with | .Compare B [.IsNot] [.Constant .none _ _] _ => some B | _ => none)
  | .pop, A => (match A with | .Call (.Attribute B nm ap) [] [] ps => if decide (nm = ("pop" : Str)) && (ap.endLine == ps.line) && notSuper B then some B else none | _ => none)
  | .isi t, A => (match A with | .Call (.Name x _) [B, .Name y _] [] _ => (match tyS t with | some z => if bB m sc x "isinstance" && bB m sc y z then some B else none | none => none) | _ => none)
  | .tix g xs, A => (match A with | .Call (.Attribute (.Name x _) nm ap) [B] [] ps => if decide (nm = ("index" : Str)) && (ap.endLine == ps.line) && m.gdom g && decide (x = m.gn g) && glB sc x && decide (m.gs g = some xs) then some B else none | _ => none)
  | o, A => (match u1N o with
    | none => none
    | some z => (match A with | .Call (.Name x _) [B] [] _ => if bB m sc x z then some B else none | _ => none))
def vBin (m : Nm) (sc : Scope) : B2 → Expr → Option (Expr × Expr)
  | .add, A => (match A with | .BinOp L .Add R _ => some (L, R) | _ => none)
  | .sub, A => (match A with | .BinOp L .Sub R _ => some (L, R) | _ => none)
  | .mul, A => (match A with | .BinOp L .Mult R _ => some (L, R) | _ => none)
  | .rep, A => (match A with | .BinOp L .Mult R _ => some (L, R) | _ => none)
  | .fdiv, A => (match A with | .BinOp L .FloorDiv R _ => some (L, R) | _ => none)
  | .mod, A => (match A with | .BinOp L .Mod R _ => some (L, R) | _ => none)
  | .pow, A => (match A with | .BinOp L .Pow R _ => some (L, R) | _ => none)
  | .eq, A => (match A with | .Compare L [.Eq] [R] _ => some (L, R) | _ => none)
  | .ne, A => (match A with | .Compare L [.NotEq] [R] _ => some (L, R) | _ => none)
  | .lt, A => (match A with | .Compare L [.Lt] [R] _ => some (L, R) | _ => none)
  | .le, A => (match A with | .Compare L [.LtE] [R] _ => some (L, R) | _ => none)
  | .gt, A => (match A with | .Compare L [.Gt] [R] _ => some (L, R) | _ => none)
  | .ge, A => (match A with | .Compare L [.GtE] [R] _ => some (L, R) | _ => none)
  | .mem, A => (match A with | .Compare L [.In] [R] _ => some (L, R) | _ => none)
  | .nmem, A => (match A with | .Compare L [.NotIn] [R] _ => some (L, R) | _ => none)
  | .idx, A => (match A with | .Subscript L R _ => some (L, R) | _ => none)
  | .min2, A => (match A with | .Call (.Name x _) [L, R] [] _ => if bB m sc x "min" then some (L, R) else none | _ => none)
  | .max2, A => (match A with | .Call (.Name x _) [L, R] [] _ => if bB m sc x "max" then some (L, R) else none | _ => none)
  | .lrng, A => (match A with | .Call (.Name x _) [.Call (.Name y _) [L, R] [] _] [] _ => if bB m sc x "list" && bB m sc y "range" then some (L, R) else none | _ => none)
  | _, _ => none
def mthN : B2 → Option Str
  | .app => some "append"
  | .popat => some "pop"
  | .index => some "index"
  | .split => some "split"
  | .join => some "join"
  | _ => none
def vMth (o : B2) (A : Expr) : Option (Expr × Expr) := match mthN o with
  | none => none
  | some z => (match A with | .Call (.Attribute B nm ap) [C] [] ps => if decide (nm = z) && (ap.endLine == ps.line) && notSuper B then some (B, C) else none | _ => none)
def vGet1 : Expr → Option (Expr × Expr)
  | .Call (.Attribute B nm ap) [C] [] ps => if decide (nm = ("get" : Str)) && (ap.endLine == ps.line) && notSuper B then some (B, C) else none
  | _ => none
def vGet2 : Expr → Option (Expr × Expr × Expr)
  | .Call (.Attribute B nm ap) [C, D] [] ps => if decide (nm = ("get" : Str)) && (ap.endLine == ps.line) && notSuper B then some (B, C, D) else none
  | _ => none
def vD1 : Expr → Option (Expr × Expr)
  | .Dict [some K] [V] _ => some (K, V)
  | _ => none
def vNot : Expr → Option Expr
  | .UnaryOp .Not B _ => some B
  | _ => none
/-- a and b and ..: the first, and what is left as one -/
def vAnd : Expr → Option (Expr × Expr)
  | .BoolOp .And (x :: y :: r) p => some (x, match r with | [] => y | _ :: _ => .BoolOp .And (y :: r) p)
  | _ => none
def vOr : Expr → Option (Expr × Expr)
  | .BoolOp .Or (x :: y :: r) p => some (x, match r with | [] => y | _ :: _ => .BoolOp .Or (y :: r) p)
  | _ => none
def vIte : Expr → Option (Expr × Expr × Expr)
  | .IfExp c a b _ => some (c, a, b)
  | _ => none
def vChn (o p : B2) : Expr → Option (Expr × Expr × Expr)
  | .Compare a [x, y] [b, c] _ => if decide (cmpO o = some x) && decide (cmpO p = some y) then some (a, b, c) else none
  | _ => none
def vCall (m : Nm) (sc : Scope) (f : Nat) : Expr → Option (List Expr)
  | .Call (.Name x _) as [] _ => if decide (x = m.fn f) && m.dom f && glB sc x then some as else none
  | _ => none
def vSlc : Expr → Option (Expr × Option Expr × Option Expr)
  | .Subscript a (.Slice lo hi none _) _ => some (a, lo, hi)
  | _ => none
/-- a comprehension: target, source, tests, element, its scope -/
def vLc : Expr → Option (Expr × Expr × List Expr × Expr × Scope)
  | .ListComp e [⟨t, i, ifs, z⟩] sc _ => if z == 0 then some (t, i, ifs, e, sc) else none
  | _ => none
def tgXs (A : Expr) (tg : Tg) : Option (List Str) := match tg with
  | .nm _ => (match A with | .Name x _ => some [x] | _ => none)
  | .tp _ => (match A with | .Tuple es _ _ => tgNames es | _ => none)
def chkTg (N : List Str) (sc : Scope) (A : Expr) (tg : Tg) : Bool := match tgXs A tg with
  | some xs => xs.length == (tgIx tg).length && (xs.zip (tgIx tg)).all fun q => decide (N[q.2]? = some q.1) && locB sc q.1
  | none => false
def isTupA : Expr → Bool
  | .Tuple _ _ _ => true
  | _ => false
def isYes : E → Bool
  | .cst (.bl true) => true
  | _ => false
section
variable (m : Nm) (N : List Str)
mutual
def chkE : E → Scope → Expr → Bool
  | .var i, sc, A => plainA A && (match A with | .Name x _ => decide (N[i]? = some x) && visB sc x && nmB x | _ => false)
  | .cst d, _, A => plainA A && litB A d
  | .glb g, sc, A => plainA A && (match A with | .Name x _ => m.gdom g && decide (x = m.gn g) && glB sc x | _ => false)
  | .tup es, sc, A => plainA A && (match A with | .Tuple as _ _ => chkEs es sc as | _ => false)
  | .lst es, sc, A => plainA A && (match A with | .List as _ => chkEs es sc as | _ => false)
  | .nls es, sc, A => plainA A && (match A with | .List as _ => chkEs es sc as | _ => false)
  | .un o a, sc, A => plainA A && (match vUn m sc o A with | some B => chkE a sc B | none => false)
  | .bin o a b, sc, A => plainA A && (match vBin m sc o A with | some (L, R) => chkE a sc L && chkE b sc R | none => false)
  | .mth o a b, sc, A => plainA A && (match vMth o A with | some (L, R) => chkE a sc L && chkE b sc R | none => false)
  | .not a, sc, A => plainA A && (match vNot A with | some B => tstA B && chkE a sc B | none => false)
  | .and a b, sc, A => plainA A && (match vAnd A with | some (L, R) => tstA L && tstA R && chkE a sc L && chkE b sc R | none => false)
  | .or a b, sc, A => plainA A && (match vOr A with | some (L, R) => tstA L && tstA R && chkE a sc L && chkE b sc R | none => false)
  | .ite c a b, sc, A => plainA A && (match vIte A with | some (C, L, R) => tstA C && chkE c sc C && chkE a sc L && chkE b sc R | none => false)
  | .chn o p a b c, sc, A => plainA A && (match vChn o p A with | some (L, M, R) => chkE a sc L && chkE b sc M && chkE c sc R | none => false)
  | .call f es, sc, A => plainA A && (match vCall m sc f A with | some as => (match as with | [] => false | _ :: _ => true) && decide (es.len = m.np f) && chkEs es sc as | none => false)
  | .call0 f, sc, A => plainA A && (match vCall m sc f A with | some as => (match as with | [] => true | _ :: _ => false) && decide (m.np f = 0) | none => false)
  | .slc a lo hi, sc, A => plainA A && (match vSlc A with
    | some (B, l, h) => chkE a sc B && (match l with | none => isNo lo | some L => !isNo lo && chkE lo sc L) && (match h with | none => isNo hi | some L => !isNo hi && chkE hi sc L)
    | none => false)
  | .no, _, _ => false
  | .dsp ks es, sc, A => plainA A && (match A with | .Dict keys vals _ => decide (0 < keys.length) && decide (keys.length ≤ 15) && chkP es ks sc keys vals | _ => false)
  | .dn _, _, A => plainA A && (match A with | .Dict [] [] _ => true | _ => false)
  | .d1 k v, sc, A => plainA A && (match vD1 A with | some (K, V) => chkE k sc K && chkE v sc V | none => false)
  | .get1 a k, sc, A => plainA A && (match vGet1 A with | some (L, R) => chkE a sc L && chkE k sc R | none => false)
  | .get2 a k x, sc, A => plainA A && (match vGet2 A with | some (L, M, R) => chkE a sc L && chkE k sc M && chkE x sc R | none => false)
  | .lc _ tg elt it cnd, sc, A => plainA A && (match vLc A with
    | some (t, i, ifs, e, s2) => (match tgXs t tg with | some xs => blkC N sc s2 (xs.zip (tgIx tg)) | none => false) && chkTg N s2 t tg && plainA i && chkI it sc t i && (match ifs with | [] => isYes cnd | [C] => tstA C && chkE cnd (relS s2 sc) C | _ => false) && chkE elt (relS s2 sc) e
    | none => false)
def chkEs : Es → Scope → List Expr → Bool
  | .nil, _, as => (match as with | [] => true | _ => false)
  | .cons e es, sc, as => (match as with | A :: r => chkE e sc A && chkEs es sc r | _ => false)
def chkP : Es → List D → Scope → List (Option Expr) → List Expr → Bool
  | .nil, ks, _, keys, vals => (match ks, keys, vals with | [], [], [] => true | _, _, _ => false)
  | .cons e es, ks, sc, keys, vals => (match ks, keys, vals with | k :: ks, some K :: keys, V :: vals => isKT k && litB K k && chkE e sc V && chkP es ks sc keys vals | _, _, _ => false)
def chkI : It → Scope → Expr → Expr → Bool
  | .seq a, sc, _, A => chkE a sc A
  | .rng a, sc, _, A => (match A with | .Call (.Name x _) [B] [] _ => bB m sc x "range" && chkE a sc B | _ => false)
  | .rng2 a b, sc, _, A => (match A with | .Call (.Name x _) [B, C] [] _ => bB m sc x "range" && chkE a sc B && chkE b sc C | _ => false)
  | .zip a b, sc, t, A => isTupA t && (match A with | .Call (.Name x _) [B, C] [] _ => bB m sc x "zip" && chkE a sc B && chkE b sc C | _ => false)
  | .enm a, sc, t, A => isTupA t && (match A with | .Call (.Name x _) [B] [] _ => bB m sc x "enumerate" && chkE a sc B | _ => false)
end
end

section
variable {p : Pg} {n : Nat} {N : List Str} {sc : Scope} {W : WX} {X : Cx}
theorem bB_of (o : XOk p n N sc W X) {x y : Str} (h : bB p.nm sc x y = true) : x = y ∧ glB sc x = true ∧ p.mg x = none := by
  unfold bB at h
  simp only [Bool.and_eq_true, decide_eq_true_eq] at h
  exact ⟨h.1.1, h.1.2, o.blt x h.2⟩
/-- what is shown of an expression -/
structure Ok (p : Pg) (n : Nat) (W : WX) (X : Cx) (e : E) (A : Expr) : Prop where
  pe : PE X A (tE p n W e)
  pt : tstA A = true → PT X A (tB p n W e)
  pw : isBO A = true → PW X A (tB p n W e)
theorem Ok.val {e : E} {A : Expr} (h : PE X A (tE p n W e)) (v : valA A = true) : Ok p n W X e A := ⟨h, fun _ => t_val h v, fun b => by cases A <;> first | (cases b; done) | (cases v; done)⟩
theorem Ok.cmp {e : E} {L R : Expr} {op : CmpOp} {pos : Pos} (h : PC X op L R (tE p n W e)) (pb : plainA R = true) : Ok p n W X e (.Compare L [op] [R] pos) := ⟨s_cmp h pb, fun _ => t_cmp h pb, fun b => by cases b⟩
theorem truth2 {A : Expr} (h : val2 A = true) (env : Env) : ∀ whole, isTrue A env whole = (do let v ← whole; standAt A.pos; holding [v] (truthy v)) := by
  intro whole
  unfold val2 at h
  split at h <;> first | rfl | (cases h; done)
theorem Ok.val2 {e : E} {A : Expr} (h : PE X A (tE p n W e)) (v : val2 A = true) : Ok p n W X e A :=
  ⟨h, fun _ => PTimp (pt_val h (truth2 v X.env)) fun σ H Q ⟨g, c, sl, mm, r, h⟩ => ⟨g, c, sl, mm, r, h.val⟩, fun b => by cases A <;> first | (cases b; done) | (cases v; done)⟩
theorem ok_un (o : XOk p n N sc W X) {u : U1} {a : E} {A B : Expr} (hv : vUn p.nm sc u A = some B) (pB : plainA B = true) (hB : Ok p n W X a B) : Ok p n W X (.un u a) A := by
  cases u with
  | neg =>
    simp only [vUn] at hv
    split at hv
    · simp only [Option.some.injEq] at hv; subst hv
      exact .val2 (s_neg hB.pe) rfl
    · cases hv
  | frz =>
    simp only [vUn] at hv
    split at hv
    · rename_i h
      simp only [Option.some.injEq] at hv; subst hv
      rw [Bool.or_eq_true] at h
      exact h.elim (fun h => .val (s_frz hB.pe) h) fun h => .val2 (s_frz hB.pe) h
    · cases hv
  | isN =>
    simp only [vUn] at hv
    split at hv
    · simp only [Option.some.injEq] at hv; subst hv
      exact .cmp (s_isN hB.pe) rfl
    · cases hv
  | notN =>
    simp only [vUn] at hv
    split at hv
    · simp only [Option.some.injEq] at hv; subst hv
      exact .cmp (s_notN hB.pe) rfl
    · cases hv
  | pop =>
    simp only [vUn] at hv
    split at hv
    · split at hv
      · rename_i h
        simp only [Option.some.injEq] at hv; subst hv
        simp only [Bool.and_eq_true, decide_eq_true_eq] at h
        obtain ⟨⟨rfl, h2⟩, h3⟩ := h
        exact .val (s_pop o h2 hB.pe pB h3) rfl
      · cases hv
    · cases hv
  | isi t =>
    simp only [vUn] at hv
    split at hv
    · split at hv
      · rename_i z hz
        split at hv
        · rename_i h
          simp only [Option.some.injEq] at hv; subst hv
          rw [Bool.and_eq_true] at h
          obtain ⟨e1, g1, m1⟩ := bB_of o h.1
          obtain ⟨e2, g2, m2⟩ := bB_of o h.2
          subst e1; subst e2
          cases t <;> simp only [tyS, Option.some.injEq, reduceCtorEq] at hz <;> subst hz <;> exact .val (s_isi o rfl rfl g1 m1 g2 m2 (by decide +kernel) hB.pe pB) rfl
        · cases hv
      · cases hv
    · cases hv
  | tix g xs =>
    simp only [vUn] at hv
    split at hv
    · split at hv
      · rename_i h
        simp only [Option.some.injEq] at hv; subst hv
        simp only [Bool.and_eq_true, decide_eq_true_eq] at h
        obtain ⟨⟨⟨⟨⟨rfl, h2⟩, h3⟩, rfl⟩, h5⟩, h6⟩ := h
        exact .val (s_tix o h2 h3 h6 h5 hB.pe pB) rfl
      · cases hv
    · cases hv
  | listM => simp only [vUn, u1N] at hv; cases hv
  | _ =>
    simp only [vUn, u1N] at hv
    split at hv
    · split at hv
      · rename_i h
        simp only [Option.some.injEq] at hv; subst hv
        obtain ⟨e1, g1, m1⟩ := bB_of o h
        first
          | exact .val (s_len o e1 g1 m1 hB.pe pB) rfl
          | exact .val (s_int o e1 g1 m1 hB.pe pB) rfl
          | exact .val (s_any o e1 g1 m1 hB.pe pB) rfl
          | exact .val (s_all o e1 g1 m1 hB.pe pB) rfl
          | exact .val (s_sorted o e1 g1 m1 hB.pe pB) rfl
          | exact .val (s_list o e1 g1 m1 hB.pe pB) rfl
          | exact .val (s_tuple o e1 g1 m1 hB.pe pB) rfl
          | exact .val (s_str o e1 g1 m1 hB.pe pB) rfl
          | exact .val (s_minl o e1 g1 m1 hB.pe pB) rfl
          | exact .val (s_maxl o e1 g1 m1 hB.pe pB) rfl
          | exact .val (s_lenD o e1 g1 m1 hB.pe pB) rfl
          | exact .val (s_listD o e1 g1 m1 hB.pe pB) rfl
          | exact .val (s_sortD o e1 g1 m1 hB.pe pB) rfl
      · cases hv
    · cases hv
theorem ok_bin (o : XOk p n N sc W X) {u : B2} {a b : E} {A L R : Expr} (hv : vBin p.nm sc u A = some (L, R)) (pL : plainA L = true) (pR : plainA R = true) (hL : Ok p n W X a L) (hR : Ok p n W X b R) : Ok p n W X (.bin u a b) A := by
  cases u <;> simp only [vBin] at hv <;> (try (cases hv; done)) <;> split at hv <;> (try (cases hv; done))
  all_goals first
    | (split at hv
       · rename_i h
         simp only [Option.some.injEq, Prod.mk.injEq] at hv; obtain ⟨rfl, rfl⟩ := hv
         first
           | (obtain ⟨e1, g1, m1⟩ := bB_of o h
              first
                | exact .val (s_min2 o e1 g1 m1 hL.pe hR.pe pL pR) rfl
                | exact .val (s_max2 o e1 g1 m1 hL.pe hR.pe pL pR) rfl)
           | (rw [Bool.and_eq_true] at h
              obtain ⟨e1, g1, m1⟩ := bB_of o h.1
              obtain ⟨e2, g2, m2⟩ := bB_of o h.2
              exact .val (s_lrng o e1 e2 g1 m1 g2 m2 hL.pe hR.pe pL pR) rfl)
       · cases hv)
    | (simp only [Option.some.injEq, Prod.mk.injEq] at hv
       obtain ⟨rfl, rfl⟩ := hv
       first
         | exact .val2 (s_add o hL.pe hR.pe) rfl
         | exact .val2 (s_sub hL.pe hR.pe) rfl
         | exact .val2 (s_mul o hL.pe hR.pe) rfl
         | exact .val2 (s_rep hL.pe hR.pe) rfl
         | exact .val2 (s_fdiv hL.pe hR.pe) rfl
         | exact .val2 (s_mod hL.pe hR.pe) rfl
         | exact .val2 (s_pow hL.pe hR.pe) rfl
         | exact .cmp (s_eq o hL.pe hR.pe) pR
         | exact .cmp (s_ne o hL.pe hR.pe) pR
         | exact .cmp (s_cmpI op_lt (fun _ _ _ => rfl) hL.pe hR.pe) pR
         | exact .cmp (s_cmpI op_le (fun _ _ _ => rfl) hL.pe hR.pe) pR
         | exact .cmp (s_cmpI op_gt (fun _ _ _ => rfl) hL.pe hR.pe) pR
         | exact .cmp (s_cmpI op_ge (fun _ _ _ => rfl) hL.pe hR.pe) pR
         | exact .cmp (s_mem o hL.pe hR.pe) pR
         | exact .cmp (s_nmem o hL.pe hR.pe) pR
         | exact .val (s_idx o hL.pe hR.pe pR) rfl)
theorem ok_mth (o : XOk p n N sc W X) {u : B2} {a b : E} {A L R : Expr} (hv : vMth u A = some (L, R)) (pL : plainA L = true) (pR : plainA R = true) (hL : Ok p n W X a L) (hR : Ok p n W X b R) : Ok p n W X (.mth u a b) A := by
  unfold vMth at hv
  cases u <;> simp only [mthN] at hv <;> (try (cases hv; done)) <;> split at hv <;> (try (cases hv; done)) <;> split at hv <;> (try (cases hv; done))
  all_goals
    rename_i h
    simp only [Option.some.injEq, Prod.mk.injEq] at hv
    obtain ⟨rfl, rfl⟩ := hv
    simp only [Bool.and_eq_true, decide_eq_true_eq] at h
    obtain ⟨⟨rfl, h2⟩, h3⟩ := h
    first
      | exact .val (s_app o h2 hL.pe hR.pe pL h3 pR) rfl
      | exact .val (s_popat o h2 hL.pe hR.pe pL h3 pR) rfl
      | exact .val (s_split o h2 hL.pe hR.pe pL h3 pR) rfl
      | exact .val (s_join o h2 hL.pe hR.pe pL h3 pR) rfl
      | exact .val (s_index o h2 hL.pe hR.pe pL h3 pR) rfl
end
end Mp
/-! Mp12: every expression that is checked is read. -/
namespace Mp
open PySem PySem.Spec
open PyProof.Rows L2
theorem chk_plain {m : Nm} {N : List Str} {e : E} {sc : Scope} {A : Expr} (h : chkE m N e sc A = true) : plainA A = true := by
  cases e <;> simp only [chkE, Bool.and_eq_true] at h <;> first | exact h.1 | (cases h; done)
theorem chks_plain {m : Nm} {N : List Str} {sc : Scope} : ∀ {es : Es} {as : List Expr}, chkEs m N es sc as = true → as.all plainA = true
  | .nil, [], _ => rfl
  | .nil, _ :: _, h => by simp only [chkEs] at h; cases h
  | .cons _ _, [], h => by simp only [chkEs] at h; cases h
  | .cons e es, a :: as, h => by
    simp only [chkEs, Bool.and_eq_true] at h
    rw [List.all_cons, chk_plain h.1, chks_plain h.2]; rfl
theorem isYes_eq {e : E} (h : isYes e = true) : e = .cst (.bl true) := by
  unfold isYes at h
  split at h
  · rfl
  · cases h
section
variable {p : Pg} {n : Nat} {N : List Str} {sc : Scope} {W : WX} {X : Cx} {pos : Pos}
theorem tg_ok {Y : Cx} {A : Expr} {tg : Tg} (hK : Y.K = p.K) (hc : Y.calm = true) (hN : Y.N = N) (nd : N.Nodup) (hl : ∀ x, locB sc x = true → L2.Loc Y.env.scope x ∧ (Y.fn x = true ∨ Y.env.scope.names.lookup x = some .local)) (h : chkTg N sc A tg = true) : PG Y A (tG p tg) := by
  unfold chkTg at h
  split at h
  · rename_i xs ht
    rw [Bool.and_eq_true] at h
    have ok : NamesOk Y xs (tgIx tg) := by
      refine ⟨by simpa using h.1, fun k x i e1 e2 => ?_⟩
      have hm : (x, i) ∈ xs.zip (tgIx tg) := List.mem_iff_getElem?.mpr ⟨k, by rw [List.getElem?_zip_eq_some]; exact ⟨e1, e2⟩⟩
      have := List.all_eq_true.mp h.2 _ hm
      simp only [Bool.and_eq_true, decide_eq_true_eq] at this
      exact ⟨by rw [hN]; exact this.1, hl _ this.2⟩
    cases tg with
    | nm i =>
      unfold tgXs at ht
      simp only [] at ht
      split at ht
      · cases ht
        obtain ⟨h1, h2, h3⟩ := ok.2 0 _ i rfl rfl
        exact g_nm (by rw [hN]; exact nd) h1 h2 h3
      · cases ht
    | tp is =>
      unfold tgXs at ht
      simp only [] at ht
      split at ht
      · exact g_tp hK hc (by rw [hN]; exact nd) ht ok
      · cases ht
  · cases h
theorem blk_loc {s : Shared} {H : Hp} {C : Addr} {cl : List (Str × Addr)} {fp : List Addr} {s2 : Scope} {x : Str} (h : locB s2 x = true) :
    L2.Loc (X.blk s H s2 (compEnvC s2 cl C X.env) fp).env.scope x ∧ ((X.blk s H s2 (compEnvC s2 cl C X.env) fp).fn x = true ∨ (X.blk s H s2 (compEnvC s2 cl C X.env) fp).env.scope.names.lookup x = some .local) := by
  have e : (X.blk s H s2 (compEnvC s2 cl C X.env) fp).env.scope = relS s2 X.env.scope := rfl
  rw [e]
  unfold locB at h
  split at h
  · rename_i q
    have q2 : (relS s2 X.env.scope).names.lookup x = some .local := lookup_relS_keep (by intro z; cases z) q
    exact ⟨.inl q2, .inr q2⟩
  · rename_i q
    have q2 : (relS s2 X.env.scope).names.lookup x = some .cell := lookup_relS_keep (by intro z; cases z) q
    refine ⟨.inr q2, .inl ?_⟩
    show (s2.names.lookup x == some .cell) = true
    rw [q]; rfl
  · cases h
theorem blk_ok (o : XOk p n N sc W X) {s : Shared} {H : Hp} {C : Addr} {cl : List (Str × Addr)} {fp : List Addr} {s2 : Scope} : XOk p n N (relS s2 sc) W0 (X.blk s H s2 (compEnvC s2 cl C X.env) fp) where
  K := o.K
  dn := o.dn
  mg := o.mg
  nm := o.nm
  sc := by
    show relS s2 X.env.scope = _
    rw [o.sc]
  nd := o.nd
  calm := o.calm
  room := o.room
  takes := takes_none5
  fns := o.fns
  blt := o.blt
  gls := o.gls
theorem pts_yes {Y : Cx} : PTs Y [] (tB p n W0 (.cst (.bl true))) := ⟨fun pins s σ H Q I ⟨g, c, sl, mm, r, h⟩ => pts_nil.run pins s σ H Q I (by
  simp only [semE] at h
  exact h c H .refl r)⟩
theorem i_enm (o : XOk p n N sc W X) {A : Expr} {a : E} {p0 tpos : Pos} {x : Str} {elts : List Expr} {kk : Nat} (hx : x = "enumerate") (hg : glB sc x = true) (hm : p.mg x = none) (ha : PE X A (tE p n W a)) (pa : plainA A = true) : PI X (.Tuple elts kk tpos) (.Call (.Name x p0) [A] [] pos) (tI p n W (.enm a)) := by
  subst hx
  have fa := s_frz ha
  refine PIimp (pi_enum (o.gl hg) (by rw [o.mg]; exact hm) (pa_cons fa pa_nil (star_plain pa _ _)) (star_plain pa _ _)) fun σ H R ⟨g, c, sl, mm, r, h⟩ => ?_
  simp only [semI] at h
  have eqa : semE p.gv (p.cf n) (.un .frz a) sl mm = bindE (semE p.gv (p.cf n) a sl mm) frzS := by simp only [semE]; rfl
  refine ⟨g, c, sl, mm, r, ?_⟩
  rw [eqa]
  cases q : bindE (semE p.gv (p.cf n) a sl mm) frzS with
  | none => rw [q] at h; exact h.elim
  | some y =>
    rw [q] at h
    cases y with
    | ex x mm1 => exact h
    | ok d mm1 =>
      intro c1 v H1 l1 r1 rv
      simp only [] at h
      cases d <;> (try exact h.elim)
      obtain ⟨q1, vs, rfl, z1, t1, rl1⟩ := lst_ref rv
      rw [o.K]
      exact ⟨q1, vs, rfl, .inl t1, h c1 H1 _ l1 r1 (walks_enm z1 t1 rl1)⟩
theorem s_call2 (o : XOk p n N sc W X) : ∀ {as : List Expr} {f : Nat} {es : Es} {p0 : Pos}, as ≠ [] → p.dom f = true → glB sc (p.fn f) = true → es.len = (p.T f).np → PA X as (tEs p n W es) → as.all plainA = true → PE X (.Call (.Name (p.fn f) p0) as [] pos) (tE p n W (.call f es))
  | [], _, _, _, h, _, _, _, _, _ => (h rfl).elim
  | a :: as, f, es, p0, _, hd, hg, hl, ha, pl => s_call o hd hg hl ha pl
theorem call_nonempty {f : Nat} {es : Es} {A : Expr} {as : List Expr} (o : XOk p n N sc W X) (hv : vCall p.nm sc f A = some as) (hn : as ≠ []) (hl : es.len = (p.T f).np) (ha : PA X as (tEs p n W es)) (pl : as.all plainA = true) : Ok p n W X (.call f es) A := by
  unfold vCall at hv
  split at hv
  · split at hv
    · rename_i h
      simp only [Option.some.injEq] at hv; subst hv
      simp only [Bool.and_eq_true, decide_eq_true_eq] at h
      obtain ⟨⟨rfl, h2⟩, h3⟩ := h
      exact .val (s_call2 o hn h2 h3 hl ha pl) rfl
    · cases hv
  · cases hv
theorem po_ok (L : Option Expr) (lo : E) {m : Nm} {N : List Str} {sc : Scope} (h : (match L with | none => isNo lo | some L => !isNo lo && chkE m N lo sc L) = true) (k : ∀ A, chkE m N lo sc A = true → PE X A (tE p n W lo)) : PO X L (tO p n W lo) := by
  cases L with
  | none =>
    simp only [] at h
    unfold isNo at h
    split at h
    · exact o_no
    · cases h
  | some L =>
    simp only [Bool.and_eq_true] at h
    exact o_some (k _ h.2) (by simpa using h.1)
theorem call_empty {f : Nat} {A : Expr} (o : XOk p n N sc W X) (hv : vCall p.nm sc f A = some []) (hl : (p.T f).np = 0) : Ok p n W X (.call0 f) A := by
  unfold vCall at hv
  split at hv
  · split at hv
    · rename_i h
      simp only [Option.some.injEq] at hv; subst hv
      simp only [Bool.and_eq_true, decide_eq_true_eq] at h
      obtain ⟨⟨rfl, h2⟩, h3⟩ := h
      exact .val (s_call0 o h2 h3 hl) rfl
    · cases hv
  · cases hv
/-- the parts of an and, an or -/
theorem ok_and {a b : E} {A L R : Expr} (hv : vAnd A = some (L, R)) (tL : tstA L = true) (tR : tstA R = true) (hL : Ok p n W X a L) (hR : Ok p n W X b R) : Ok p n W X (.and a b) A := by
  unfold vAnd at hv
  split at hv
  · rename_i x y r ps
    simp only [Option.some.injEq, Prod.mk.injEq] at hv
    obtain ⟨rfl, rfl⟩ := hv
    have key : PE X (.BoolOp .And (y :: r) ps) (tE p n W b) ∧ PW X (.BoolOp .And (y :: r) ps) (tB p n W b) := by
      cases r with
      | nil => exact ⟨s_one hR.pe, pw_and1 (hR.pt tR)⟩
      | cons z r => exact ⟨hR.pe, hR.pw rfl⟩
    have w := w_and (hL.pt tL) key.2
    exact ⟨s_and hL.pe key.1, fun _ => PW.pt w, fun _ => w⟩
  · cases hv
theorem ok_or {a b : E} {A L R : Expr} (hv : vOr A = some (L, R)) (tL : tstA L = true) (tR : tstA R = true) (hL : Ok p n W X a L) (hR : Ok p n W X b R) : Ok p n W X (.or a b) A := by
  unfold vOr at hv
  split at hv
  · rename_i x y r ps
    simp only [Option.some.injEq, Prod.mk.injEq] at hv
    obtain ⟨rfl, rfl⟩ := hv
    have key : PE X (.BoolOp .Or (y :: r) ps) (tE p n W b) ∧ PW X (.BoolOp .Or (y :: r) ps) (tB p n W b) := by
      cases r with
      | nil => exact ⟨s_one hR.pe, pw_or1 (hR.pt tR)⟩
      | cons z r => exact ⟨hR.pe, hR.pw rfl⟩
    have w := w_or (hL.pt tL) key.2
    exact ⟨s_or hL.pe key.1, fun _ => PW.pt w, fun _ => w⟩
  · cases hv
/-- what a comprehension's parts give -/
structure LcOk (p : Pg) (n : Nat) (W : WX) (X : Cx) (s2 : Scope) (tg : Tg) (elt : E) (it : It) (cnd : E) (t i : Expr) (ifs : List Expr) (e : Expr) : Prop where
  xs : ∃ own : List (Str × Nat), BlkOk X.N X.env.scope s2 own ∧ own.map (·.2) = tgIx tg
  pi : PI X t i (tI p n W it)
  hg : ∀ (s : Shared) (H : Hp) (C : Addr) (cl : List (Str × Addr)) (fp : List Addr), PG (X.blk s H s2 (compEnvC s2 cl C X.env) fp) t (tG p tg)
  ht : ∀ (s : Shared) (H : Hp) (C : Addr) (cl : List (Str × Addr)) (fp : List Addr), PTs (X.blk s H s2 (compEnvC s2 cl C X.env) fp) ifs (tB p n W0 cnd)
  he : ∀ (s : Shared) (H : Hp) (C : Addr) (cl : List (Str × Addr)) (fp : List Addr), PE (X.blk s H s2 (compEnvC s2 cl C X.env) fp) e (tE p n W0 elt)
  pl : plainA i = true
theorem zip_snd {α β : Type} : ∀ {xs : List α} {ys : List β}, xs.length = ys.length → (xs.zip ys).map (·.2) = ys
  | [], [], _ => rfl
  | x :: xs, y :: ys, h => by
    simp only [List.zip_cons_cons, List.map_cons]
    rw [zip_snd (by simpa using h)]
theorem tgXs_len {A : Expr} {tg : Tg} {xs : List Str} (h : chkTg N sc A tg = true) (e : tgXs A tg = some xs) : xs.length = (tgIx tg).length := by
  unfold chkTg at h
  rw [e] at h
  simp only [Bool.and_eq_true] at h
  simpa using h.1
theorem vLc_eq {A t i e : Expr} {ifs : List Expr} {s2 : Scope} (h : vLc A = some (t, i, ifs, e, s2)) : ∃ ps, A = .ListComp e [⟨t, i, ifs, 0⟩] s2 ps := by
  unfold vLc at h
  split at h
  · split at h
    · rename_i z
      simp only [Option.some.injEq, Prod.mk.injEq] at h
      obtain ⟨rfl, rfl, rfl, rfl, rfl⟩ := h
      have z' := eq_of_beq z
      subst z'
      exact ⟨_, rfl⟩
    · cases h
  · cases h
mutual
theorem rE : ∀ (e : E) {sc : Scope} {W : WX} {X : Cx} (A : Expr), XOk p n N sc W X → chkE p.nm N e sc A = true → Ok p n W X e A
  | .var i, sc, W, X, A, o, h => by
    simp only [chkE, Bool.and_eq_true] at h
    obtain ⟨_, h⟩ := h
    split at h
    · simp only [Bool.and_eq_true, decide_eq_true_eq] at h
      exact .val (s_var o h.1.1 h.1.2 h.2) rfl
    · cases h
  | .cst d, sc, W, X, A, o, h => by
    simp only [chkE, Bool.and_eq_true] at h
    obtain ⟨v, hv, _, vA, rv⟩ := lit_ok h.2
    exact .val (s_cst (hv X) (rv _)) vA
  | .glb g, sc, W, X, A, o, h => by
    simp only [chkE, Bool.and_eq_true] at h
    obtain ⟨_, h⟩ := h
    split at h
    · simp only [Bool.and_eq_true, decide_eq_true_eq] at h
      obtain ⟨⟨h1, rfl⟩, h3⟩ := h
      exact .val (s_glb o h1 h3) rfl
    · cases h
  | .tup es, sc, W, X, A, o, h => by
    simp only [chkE, Bool.and_eq_true] at h
    obtain ⟨_, h⟩ := h
    split at h
    · exact .val2 (s_tup (rEs es _ o h)) rfl
    · cases h
  | .lst es, sc, W, X, A, o, h => by
    simp only [chkE, Bool.and_eq_true] at h
    obtain ⟨_, h⟩ := h
    split at h
    · exact .val2 (s_lst (rEs es _ o h)) rfl
    · cases h
  | .nls es, sc, W, X, A, o, h => by
    simp only [chkE, Bool.and_eq_true] at h
    obtain ⟨_, h⟩ := h
    split at h
    · exact .val2 (s_nls (rEs es _ o h)) rfl
    · cases h
  | .un u a, sc, W, X, A, o, h => by
    simp only [chkE, Bool.and_eq_true] at h
    obtain ⟨_, h⟩ := h
    split at h
    · rename_i B hv
      exact ok_un o hv (chk_plain h) (rE a _ o h)
    · cases h
  | .bin u a b, sc, W, X, A, o, h => by
    simp only [chkE, Bool.and_eq_true] at h
    obtain ⟨_, h⟩ := h
    split at h
    · rename_i L R hv
      rw [Bool.and_eq_true] at h
      exact ok_bin o hv (chk_plain h.1) (chk_plain h.2) (rE a _ o h.1) (rE b _ o h.2)
    · cases h
  | .mth u a b, sc, W, X, A, o, h => by
    simp only [chkE, Bool.and_eq_true] at h
    obtain ⟨_, h⟩ := h
    split at h
    · rename_i L R hv
      rw [Bool.and_eq_true] at h
      exact ok_mth o hv (chk_plain h.1) (chk_plain h.2) (rE a _ o h.1) (rE b _ o h.2)
    · cases h
  | .not a, sc, W, X, A, o, h => by
    simp only [chkE, Bool.and_eq_true] at h
    obtain ⟨_, h⟩ := h
    split at h
    · rename_i B hv
      rw [Bool.and_eq_true] at h
      unfold vNot at hv
      split at hv
      · simp only [Option.some.injEq] at hv; subst hv
        have k := rE a _ o h.2
        exact ⟨s_not k.pe, fun _ => t_not (k.pt h.1), fun b => by cases b⟩
      · cases hv
    · cases h
  | .and a b, sc, W, X, A, o, h => by
    simp only [chkE, Bool.and_eq_true] at h
    obtain ⟨_, h⟩ := h
    split at h
    · rename_i L R hv
      simp only [Bool.and_eq_true] at h
      exact ok_and hv h.1.1.1 h.1.1.2 (rE a _ o h.1.2) (rE b _ o h.2)
    · cases h
  | .or a b, sc, W, X, A, o, h => by
    simp only [chkE, Bool.and_eq_true] at h
    obtain ⟨_, h⟩ := h
    split at h
    · rename_i L R hv
      simp only [Bool.and_eq_true] at h
      exact ok_or hv h.1.1.1 h.1.1.2 (rE a _ o h.1.2) (rE b _ o h.2)
    · cases h
  | .ite c a b, sc, W, X, A, o, h => by
    simp only [chkE, Bool.and_eq_true] at h
    obtain ⟨_, h⟩ := h
    split at h
    · rename_i C L R hv
      simp only [Bool.and_eq_true] at h
      unfold vIte at hv
      split at hv
      · simp only [Option.some.injEq, Prod.mk.injEq] at hv
        obtain ⟨rfl, rfl, rfl⟩ := hv
        exact ⟨s_ite ((rE c _ o h.1.1.2).pt h.1.1.1) (rE a _ o h.1.2).pe (rE b _ o h.2).pe, fun z => (by cases z), fun z => (by cases z)⟩
      · cases hv
    · cases h
  | .chn o1 o2 a b c, sc, W, X, A, o, h => by
    simp only [chkE, Bool.and_eq_true] at h
    obtain ⟨_, h⟩ := h
    split at h
    · rename_i L M R hv
      simp only [Bool.and_eq_true] at h
      unfold vChn at hv
      split at hv
      · split at hv
        · rename_i hc
          simp only [Option.some.injEq, Prod.mk.injEq] at hv
          obtain ⟨rfl, rfl, rfl⟩ := hv
          simp only [Bool.and_eq_true, decide_eq_true_eq] at hc
          have ka := rE a _ o h.1.1
          have kb := rE b _ o h.1.2
          have kc := rE c _ o h.2
          exact ⟨s_chn hc.1 hc.2 ka.pe kb.pe kc.pe (chk_plain h.2), fun _ => t_chn hc.1 hc.2 ka.pe kb.pe kc.pe (chk_plain h.2), fun z => by cases z⟩
        · cases hv
      · cases hv
    · cases h
  | .dn tk, sc, W, X, A, o, h => by
    simp only [chkE, Bool.and_eq_true] at h
    obtain ⟨_, h⟩ := h
    split at h
    · exact ⟨s_dn o tk, fun z => (by cases z), fun z => by cases z⟩
    · cases h
  | .d1 k v, sc, W, X, A, o, h => by
    simp only [chkE, Bool.and_eq_true] at h
    obtain ⟨_, h⟩ := h
    split at h
    · rename_i K V hv
      rw [Bool.and_eq_true] at h
      unfold vD1 at hv
      split at hv
      · simp only [Option.some.injEq, Prod.mk.injEq] at hv
        obtain ⟨rfl, rfl⟩ := hv
        exact ⟨s_d1 o (rE k _ o h.1).pe (rE v _ o h.2).pe, fun z => (by cases z), fun z => by cases z⟩
      · cases hv
    · cases h
  | .get1 a k, sc, W, X, A, o, h => by
    simp only [chkE, Bool.and_eq_true] at h
    obtain ⟨_, h⟩ := h
    split at h
    · rename_i L R hv
      rw [Bool.and_eq_true] at h
      unfold vGet1 at hv
      split at hv
      · split at hv
        · rename_i hc
          simp only [Option.some.injEq, Prod.mk.injEq] at hv
          obtain ⟨rfl, rfl⟩ := hv
          simp only [Bool.and_eq_true, decide_eq_true_eq] at hc
          obtain ⟨⟨rfl, h2⟩, h3⟩ := hc
          exact .val (s_get1 o h2 (rE a _ o h.1).pe (rE k _ o h.2).pe (chk_plain h.1) h3 (chk_plain h.2)) rfl
        · cases hv
      · cases hv
    · cases h
  | .get2 a k x, sc, W, X, A, o, h => by
    simp only [chkE, Bool.and_eq_true] at h
    obtain ⟨_, h⟩ := h
    split at h
    · rename_i L M R hv
      simp only [Bool.and_eq_true] at h
      unfold vGet2 at hv
      split at hv
      · split at hv
        · rename_i hc
          simp only [Option.some.injEq, Prod.mk.injEq] at hv
          obtain ⟨rfl, rfl, rfl⟩ := hv
          simp only [Bool.and_eq_true, decide_eq_true_eq] at hc
          obtain ⟨⟨rfl, h2⟩, h3⟩ := hc
          exact .val (s_get2 o h2 (rE a _ o h.1.1).pe (rE k _ o h.1.2).pe (rE x _ o h.2).pe (chk_plain h.1.1) h3 (chk_plain h.1.2) (chk_plain h.2)) rfl
        · cases hv
      · cases hv
    · cases h
  | .call f es, sc, W, X, A, o, h => by
    simp only [chkE, Bool.and_eq_true] at h
    obtain ⟨_, h⟩ := h
    split at h
    · rename_i as hv
      simp only [Bool.and_eq_true, decide_eq_true_eq] at h
      refine call_nonempty o hv (fun z => ?_) h.1.2 (rEs es _ o h.2) (chks_plain h.2)
      subst z
      exact absurd h.1.1 (by simp)
    · cases h
  | .call0 f, sc, W, X, A, o, h => by
    simp only [chkE, Bool.and_eq_true] at h
    obtain ⟨_, h⟩ := h
    split at h
    · rename_i as hv
      simp only [Bool.and_eq_true, decide_eq_true_eq] at h
      cases as with
      | nil => exact call_empty o hv h.2
      | cons a as => exact absurd h.1 (by simp)
    · cases h
  | .slc a lo hi, sc, W, X, A, o, h => by
    simp only [chkE, Bool.and_eq_true] at h
    obtain ⟨_, h⟩ := h
    split at h
    · rename_i B l r hv
      simp only [Bool.and_eq_true] at h
      unfold vSlc at hv
      split at hv
      · simp only [Option.some.injEq, Prod.mk.injEq] at hv
        obtain ⟨rfl, rfl, rfl⟩ := hv
        obtain ⟨⟨h1, h2⟩, h3⟩ := h
        exact .val (s_slc o (rE a _ o h1).pe (po_ok _ lo h2 fun A h => (rE lo A o h).pe) (po_ok _ hi h3 fun A h => (rE hi A o h).pe)) rfl
      · cases hv
    · cases h
  | .no, sc, W, X, A, o, h => by simp only [chkE] at h; cases h
  | .dsp ks es, sc, W, X, A, o, h => by
    simp only [chkE, Bool.and_eq_true] at h
    obtain ⟨_, h⟩ := h
    split at h
    · rename_i keys vals ps _
      simp only [Bool.and_eq_true, decide_eq_true_eq] at h
      obtain ⟨q1, q2, q3, q4⟩ := rPs es ks keys vals (pos := ps) o h.2
      refine ⟨s_dsp q1 q3 q2 (fun z => by subst z; simp at h) h.1.2 q4, fun z => (by cases z), fun z => (by cases z)⟩
    · cases h
  | .lc mu tg elt it cnd, sc, W, X, A, o, h => by
    simp only [chkE, Bool.and_eq_true] at h
    obtain ⟨_, h⟩ := h
    split at h
    · rename_i t i ifs e s2 hv
      simp only [Bool.and_eq_true] at h
      obtain ⟨⟨⟨⟨⟨h1, h2⟩, h3⟩, h4⟩, h5⟩, h6⟩ := h
      obtain ⟨ps, rfl⟩ := vLc_eq hv
      split at h1
      · rename_i xs ex
        refine .val2 (s_lc (own := xs.zip (tgIx tg)) o (rI it o h4) (by rw [o.nm, o.sc]; exact blkOk_by h1) (zip_snd (tgXs_len h2 ex)) (fun s H C cl fp => tg_ok o.K o.calm o.nm o.nd (fun x hx => blk_loc hx) h2) (fun s H C cl fp => ?_) (fun s H C cl fp => (rE elt e (blk_ok o) h6).pe) h3) rfl
        split at h5
        · rw [isYes_eq h5]; exact pts_yes
        · rw [Bool.and_eq_true] at h5
          exact pts_one ((rE cnd _ (blk_ok o) h5.2).pt h5.1)
        · cases h5
      · cases h1
    · cases h
theorem rPs : ∀ (es : Es) {sc : Scope} {W : WX} {X : Cx} (ks : List D) (keys : List (Option Expr)) (vals : List Expr) {pos : Pos}, XOk p n N sc W X → chkP p.nm N es ks sc keys vals = true → PPs X pos keys vals (trsOf p n W ks es) ∧ keys.length = vals.length ∧ keys.all (·.isSome) = true ∧ ks.length = es.len
  | .nil, sc, W, X, ks, keys, vals, pos, o, h => by
    simp only [chkP] at h
    split at h
    · exact ⟨pps_nil, rfl, rfl, rfl⟩
    · cases h
  | .cons e es, sc, W, X, ks, keys, vals, pos, o, h => by
    simp only [chkP] at h
    split at h
    · rename_i k ks2 K keys2 V vals2
      simp only [Bool.and_eq_true] at h
      obtain ⟨⟨⟨h1, h2⟩, h3⟩, h4⟩ := h
      obtain ⟨q1, q2, q3, q4⟩ := rPs es ks2 keys2 vals2 (pos := pos) o h4
      refine ⟨pps_cons (lit_key h2 h1 X) (rE e V o h3).pe q1, by simp [q2], by simp [q3], by simp [Es.len, q4]⟩
    · cases h
theorem rEs : ∀ (es : Es) {sc : Scope} {W : WX} {X : Cx} (as : List Expr), XOk p n N sc W X → chkEs p.nm N es sc as = true → PA X as (tEs p n W es)
  | .nil, sc, W, X, as, o, h => by
    simp only [chkEs] at h
    split at h
    · exact s_nil
    · cases h
  | .cons e es, sc, W, X, as, o, h => by
    simp only [chkEs] at h
    split at h
    · rw [Bool.and_eq_true] at h
      exact s_cons (rE e _ o h.1).pe (rEs es _ o h.2) (chk_plain h.1)
    · cases h
theorem rI : ∀ (it : It) {sc : Scope} {W : WX} {X : Cx} {t A : Expr}, XOk p n N sc W X → chkI p.nm N it sc t A = true → PI X t A (tI p n W it)
  | .seq a, sc, W, X, t, A, o, h => by
    simp only [chkI] at h
    exact i_seq o (rE a _ o h).pe
  | .rng a, sc, W, X, t, A, o, h => by
    simp only [chkI] at h
    split at h
    · rw [Bool.and_eq_true] at h
      obtain ⟨e1, g1, m1⟩ := bB_of o h.1
      exact i_rng o e1 g1 m1 (rE a _ o h.2).pe (chk_plain h.2)
    · cases h
  | .rng2 a b, sc, W, X, t, A, o, h => by
    simp only [chkI] at h
    split at h
    · simp only [Bool.and_eq_true] at h
      obtain ⟨e1, g1, m1⟩ := bB_of o h.1.1
      exact i_rng2 o e1 g1 m1 (rE a _ o h.1.2).pe (rE b _ o h.2).pe (chk_plain h.1.2) (chk_plain h.2)
    · cases h
  | .zip a b, sc, W, X, t, A, o, h => by
    simp only [chkI, Bool.and_eq_true] at h
    obtain ⟨ht, h⟩ := h
    split at h
    · simp only [Bool.and_eq_true] at h
      obtain ⟨e1, g1, m1⟩ := bB_of o h.1.1
      cases t <;> first | exact i_zip o e1 g1 m1 (rE a _ o h.1.2).pe (rE b _ o h.2).pe (chk_plain h.1.2) (chk_plain h.2) | (cases ht; done)
    · cases h
  | .enm a, sc, W, X, t, A, o, h => by
    simp only [chkI, Bool.and_eq_true] at h
    obtain ⟨ht, h⟩ := h
    split at h
    · simp only [Bool.and_eq_true] at h
      obtain ⟨e1, g1, m1⟩ := bB_of o h.1
      cases t <;> first | exact i_enm o e1 g1 m1 (rE a _ o h.2).pe (chk_plain h.2) | (cases ht; done)
    · cases h
end
end
end Mp
/-! Mp13: statements that are checked; defs; a module of defs. -/
namespace Mp
open PySem PySem.Spec
open PyProof.Rows L2
/-- a comprehension that is stored on its own line: the stores are swapped -/
def swB (sc : Scope) (x : Str) (p1 : Pos) : Expr → Bool
  | .ListComp _ _ s p => decide (sc.names.lookup x = some .local) && (p1.line == p.line) && !(s.names.any fun (n, k) => n == x && (k == .local || k == .cell))
  | _ => false
theorem sw_no {sc : Scope} {x : Str} {p1 : Pos} {A : Expr} {l : Nat} {env : Env} (hk : env.scope.kind = .function) (hs : env.scope = sc) (pa : plainA A = true) (h : swB sc x p1 A = false) : swapsWith A (some (.Name x p1)) l env = pure false := by
  subst hs
  cases A <;> try (first | rfl | (cases pa; done))
  rename_i e gs s p
  have hb : env.blockKind = .function := by unfold Env.blockKind; rw [hk]; rfl
  have kx : env.kindOf x = env.scope.names.lookup x := rfl
  unfold swB at h
  unfold swapsWith
  simp only [hb, kx, Expr.pos]
  have e1 : (env.scope.names.lookup x == some NameKind.local) = decide (env.scope.names.lookup x = some .local) := by
    cases env.scope.names.lookup x with
    | none => rfl
    | some k => cases k <;> rfl
  rw [e1]
  have h2 : ((ScopeKind.function == ScopeKind.function) && decide (env.scope.names.lookup x = some .local) && (p1.line == p.line) && !(s.names.any fun (n, k) => n == x && (k == .local || k == .cell))) = false := by
    rw [show (ScopeKind.function == ScopeKind.function) = true from rfl, Bool.true_and]
    exact h
  exact congrArg pure h2
theorem sw_yes {sc : Scope} {x : Str} {p1 : Pos} {e : Expr} {gs : List Comprehension} {s : Scope} {ps : Pos} {l : Nat} {env : Env} (hk : env.scope.kind = .function) (hs : env.scope = sc) (h : swB sc x p1 (.ListComp e gs s ps) = true) : sc.names.lookup x = some .local ∧ swapsWith (.ListComp e gs s ps) (some (.Name x p1)) l env = pure true := by
  subst hs
  unfold swB at h
  simp only [Bool.and_eq_true, decide_eq_true_eq, Bool.not_eq_true'] at h
  exact ⟨h.1.1, sw_true hk h.1.1 h.1.2 h.2⟩
section
variable {p : Pg} {n : Nat} {N : List Str} {sc : Scope} {W : WX} {X : Cx}
theorem lc_parts (o : XOk p n N sc W X) {mu : Bool} {tg : Tg} {elt : E} {it : It} {cnd : E} {A : Expr} (h : chkE p.nm N (.lc mu tg elt it cnd) sc A = true) :
    ∃ t i ifs e s2 ps, A = .ListComp e [⟨t, i, ifs, 0⟩] s2 ps ∧ LcOk p n W X s2 tg elt it cnd t i ifs e := by
  simp only [chkE, Bool.and_eq_true] at h
  obtain ⟨_, h⟩ := h
  split at h
  · rename_i t i ifs e s2 hv
    simp only [Bool.and_eq_true] at h
    obtain ⟨⟨⟨⟨⟨h1, h2⟩, h3⟩, h4⟩, h5⟩, h6⟩ := h
    obtain ⟨ps, rfl⟩ := vLc_eq hv
    split at h1
    · rename_i xs ex
      refine ⟨t, i, ifs, e, s2, ps, rfl, ⟨⟨xs.zip (tgIx tg), by rw [o.nm, o.sc]; exact blkOk_by h1, zip_snd (tgXs_len h2 ex)⟩, rI it o h4, fun s H C cl fp => tg_ok o.K o.calm o.nm o.nd (fun x hx => blk_loc hx) h2, fun s H C cl fp => ?_, fun s H C cl fp => (rE elt e (blk_ok o) h6).pe, h3⟩⟩
      split at h5
      · rw [isYes_eq h5]; exact pts_yes
      · rw [Bool.and_eq_true] at h5
        exact pts_one ((rE cnd _ (blk_ok o) h5.2).pt h5.1)
      · cases h5
    · cases h1
  · cases h
end
def chkH2 (m : Nm) (sc : Scope) (c : Nat) (d : Mp.D) : ExceptHandler → Bool
  | .ExceptHandler (some (.Name x _)) none [.Return (some A) _] _ => m.edom c && decide (x = m.en c) && glB sc x && litB A d
  | _ => false
def chkHs2 (m : Nm) (sc : Scope) : Hs → List ExceptHandler → Bool
  | .nil, hds => (match hds with | [] => true | _ :: _ => false)
  | .cons c d hs, hds => (match hds with | h :: r => chkH2 m sc c d h && chkHs2 m sc hs r | [] => false)
theorem chkHs2_eq {p : Pg} {sc : Scope} : ∀ {hs : Hs} {hds : List ExceptHandler}, chkHs2 p.nm sc hs hds = true → chkHs p sc hs hds = true
  | .nil, [], _ => rfl
  | .nil, _ :: _, h => by simp only [chkHs2] at h; cases h
  | .cons _ _ _, [], h => by simp only [chkHs2] at h; cases h
  | .cons c d hs, x :: r, h => by
    simp only [chkHs2, Bool.and_eq_true] at h
    simp only [chkHs, Bool.and_eq_true]
    refine ⟨?_, chkHs2_eq h.2⟩
    have h1 := h.1
    unfold chkH2 at h1
    unfold chkH1
    split at h1
    · exact h1
    · cases h1
def isLc : E → Bool
  | .lc _ _ _ _ _ => true
  | _ => false
theorem not_swapped4 {es : List Expr} {k : Nat} {p1 : Pos} {A : Expr} {env : Env} (h : plainA A = true) (h2 : (notTupA A || decide (4 ≤ es.length)) = true) : swappedStores [.Tuple es k p1] A env = pure none := by
  cases e : notTupA A with
  | true => exact not_swapped h e
  | false =>
    rw [e, Bool.false_or, decide_eq_true_eq] at h2
    cases A <;> first | (cases e; done) | (cases h; done) | skip
    unfold swappedStores
    have h3 : (es.length == 2 || es.length == 3) = false := by
      simp only [Bool.or_eq_false_iff, beq_eq_false_iff_ne]; omega
    simp [h3]
section
variable (m : Nm) (N : List Str)
mutual
def chkS : S → Scope → Stmt → Bool
  | .asg i e, sc, st => (match st with
    | .Assign [.Name x p1] A _ => decide (N[i]? = some x) && locB sc x && chkE m N e sc A && (if swB sc x p1 A then isLc e else true)
    | _ => false)
  | .unp is e, sc, st => (match st with
    | .Assign [.Tuple es _ _] A _ => (match tgNames es with
      | some xs => (xs.length == is.length && (xs.zip is).all fun q => decide (N[q.2]? = some q.1) && locB sc q.1)
      | none => false) && chkE m N e sc A && !isComp A && (notTupA A || decide (4 ≤ es.length))
    | _ => false)
  | .par i j a b, sc, st => (match st with
    | .Assign [.Tuple [.Name x px, .Name y py] _ _] (.Tuple [A, B] _ _) _ => decide (N[i]? = some x) && decide (N[j]? = some y) && !decide (i = j) && decide (sc.names.lookup x = some .local) && decide (sc.names.lookup y = some .local) && (py.line == px.line) && !(x == y)
        && !(foldedForSure 8 A && foldedForSure 8 B) && !(constantsAlone 8 A && constantsAlone 8 B) && chkE m N a sc A && chkE m N b sc B
    | _ => false)
  | .sto i ix e, sc, st => (match st with
    | .Assign [.Subscript (.Name x _) I _] A _ => decide (N[i]? = some x) && visB sc x && nmB x && chkE m N ix sc I && chkE m N e sc A && !isComp A
    | _ => false)
  | .dead, _, _ => true
  | .std i ix e, sc, st => (match st with
    | .Assign [.Subscript (.Name x _) I _] A _ => decide (N[i]? = some x) && visB sc x && nmB x && chkE m N ix sc I && chkE m N e sc A && !isComp A
    | _ => false)
  | .par3 i j l a b c, sc, st => (match st with
    | .Assign [.Tuple [.Name x px, .Name y py, .Name z pz] _ _] (.Tuple [A, B, C] _ _) _ => decide (N[i]? = some x) && decide (N[j]? = some y) && decide (N[l]? = some z) && !decide (i = j) && !decide (i = l) && !decide (j = l)
        && decide (sc.names.lookup x = some .local) && decide (sc.names.lookup y = some .local) && decide (sc.names.lookup z = some .local) && (py.line == px.line) && (pz.line == px.line) && !(x == y) && !(x == z) && !(y == z)
        && !(foldedForSure 8 A && (foldedForSure 8 B && foldedForSure 8 C)) && !(constantsAlone 8 A && (constantsAlone 8 B && constantsAlone 8 C)) && chkEs m N (.cons a (.cons b (.cons c .nil))) sc [A, B, C]
    | _ => false)
  | .exp e, sc, st => (match st with
    | .Expr A _ => chkE m N e sc A && !isComp A
    | _ => false)
  | .ret e, sc, st => (match st with
    | .Return (some A) _ => chkE m N e sc A
    | _ => false)
  | .retn, _, st => (match st with
    | .Return none _ => true
    | _ => false)
  | .ifs c a b, sc, st => (match st with
    | .If C as bs _ => tstA C && chkE m N c sc C && chkB a sc as && chkB b sc bs
    | _ => false)
  | .for tg it b, sc, st => (match st with
    | .For t i bs [] _ => chkI m N it sc t i && chkTg N sc t tg && chkB b sc bs && plainA i
    | _ => false)
  | .whl c b, sc, st => (match st with
    | .While C bs [] _ => tstA C && chkE m N c sc C && chkB b sc bs
    | _ => false)
  | .brk, _, st => (match st with | .Break _ => true | _ => false)
  | .cnt, _, st => (match st with | .Continue _ => true | _ => false)
  | .pass, _, st => (match st with | .Pass _ => true | _ => false)
  | .rse c es, sc, st => (match st with
    | .Raise (some (.Call (.Name x _) [.Constant (.str _) _ _] [] _)) none _ => (match es with | .nil => true | _ => false) && m.edom c && decide (x = m.en c) && glB sc x
    | _ => false)
  | .try b hs, sc, st => (match st with
    | .Try bs (h :: hds) [] [] _ => chkB b sc bs && chkHs2 m sc hs (h :: hds)
    | _ => false)
def chkB : B → Scope → List Stmt → Bool
  | .nil, _, sts => (match sts with | [] => true | _ :: _ => false)
  | .cons s b, sc, sts => (match sts with | st :: r => chkS s sc st && chkB b sc r | [] => false)
end
end
section
variable {p : Pg} {n : Nat} {N : List Str}
theorem rAsg {sc : Scope} {W : WX} {X : Cx} {i : Nat} {e : E} {x : Str} {p1 : Pos} {A : Expr} {ps : Pos} (o : SOk p n N sc W X) (h1 : N[i]? = some x) (h2 : locB sc x = true) (h3 : chkE p.nm N e sc A = true) (h4 : (if swB sc x p1 A then isLc e else true) = true) : PS X (.Assign [.Name x p1] A ps) (tS p n W (.asg i e)) := by
  cases hs : swB sc x p1 A with
  | false => exact s_asg o h1 h2 (rE e A o.toXOk h3).pe (sw_no o.kind o.sc (chk_plain h3) hs)
  | true =>
    rw [hs, if_pos rfl] at h4
    cases e <;> first | (cases h4; done) | skip
    obtain ⟨t, i2, ifs, el, s2, p2, rfl, k⟩ := lc_parts o.toXOk h3
    obtain ⟨own, k1, k2⟩ := k.xs
    obtain ⟨hl, hw⟩ := sw_yes (l := ps.line) o.kind o.sc hs
    exact s_asgL o h1 hl hw k.pi k1 k2 k.hg k.ht k.he k.pl
mutual
theorem rS : ∀ (s : S) {sc : Scope} {W : WX} {X : Cx} (st : Stmt), SOk p n N sc W X → chkS p.nm N s sc st = true → PS X st (tS p n W s)
  | .asg i e, sc, W, X, st, o, h => by
    simp only [chkS] at h
    split at h
    · simp only [Bool.and_eq_true, decide_eq_true_eq] at h
      exact rAsg o h.1.1.1 h.1.1.2 h.1.2 h.2
    · cases h
  | .unp is e, sc, W, X, st, o, h => by
    simp only [chkS] at h
    split at h
    · simp only [Bool.and_eq_true] at h
      obtain ⟨⟨⟨h1, h2⟩, h3⟩, h4⟩ := h
      split at h1
      · rename_i xs hx
        exact s_unp o hx (by simpa using h1) (rE e _ o.toXOk h2).pe (chk_plain h2) (by simpa using h3) (not_swapped4 (chk_plain h2) h4)
      · cases h1
    · cases h
  | .par i j a b, sc, W, X, st, o, h => by
    simp only [chkS] at h
    split at h
    · simp only [Bool.and_eq_true, decide_eq_true_eq, Bool.not_eq_true', decide_eq_false_iff_not] at h
      obtain ⟨⟨⟨⟨⟨⟨⟨⟨⟨⟨h1, h2⟩, h3⟩, h4⟩, h5⟩, h6⟩, h7⟩, h8⟩, h9⟩, h10⟩, h11⟩ := h
      exact s_par o h1 h2 h3 h4 h5 (rE a _ o.toXOk h10).pe (rE b _ o.toXOk h11).pe (chk_plain h10) (chk_plain h11) (swap_par o.kind (by rw [o.sc]; exact h4) (by rw [o.sc]; exact h5) h6 h7 (chk_plain h10) (chk_plain h11) h8 h9)
    · cases h
  | .sto i ix e, sc, W, X, st, o, h => by
    simp only [chkS] at h
    split at h
    · simp only [Bool.and_eq_true, decide_eq_true_eq, Bool.not_eq_true'] at h
      obtain ⟨⟨⟨⟨⟨h1, h2⟩, h3⟩, h4⟩, h5⟩, h6⟩ := h
      exact s_sto o h1 h2 h3 (rE ix _ o.toXOk h4).pe (chk_plain h4) (rE e _ o.toXOk h5).pe (chk_plain h5) h6
    · cases h
  | .dead, sc, W, X, st, o, h => s_dead
  | .std i ix e, sc, W, X, st, o, h => by
    simp only [chkS] at h
    split at h
    · simp only [Bool.and_eq_true, decide_eq_true_eq, Bool.not_eq_true'] at h
      obtain ⟨⟨⟨⟨⟨h1, h2⟩, h3⟩, h4⟩, h5⟩, h6⟩ := h
      exact s_std o h1 h2 h3 (rE ix _ o.toXOk h4).pe (rE e _ o.toXOk h5).pe (chk_plain h5) h6
    · cases h
  | .par3 i j l a b c, sc, W, X, st, o, h => by
    simp only [chkS] at h
    split at h
    · simp only [Bool.and_eq_true, decide_eq_true_eq, Bool.not_eq_true', decide_eq_false_iff_not] at h
      obtain ⟨⟨⟨⟨⟨⟨⟨⟨⟨⟨⟨⟨⟨⟨⟨⟨h1, h2⟩, h3⟩, h4⟩, h5⟩, h6⟩, h7⟩, h8⟩, h9⟩, h10⟩, h11⟩, h12⟩, h13⟩, h14⟩, h15⟩, h16⟩, h17⟩ := h
      have pl := chks_plain h17
      simp only [List.all_cons, Bool.and_eq_true] at pl
      exact s_par3 o h1 h2 h3 h4 h5 h6 h7 h8 h9 (rEs _ _ o.toXOk h17) (swap_par3 o.kind (by rw [o.sc]; exact h7) (by rw [o.sc]; exact h8) (by rw [o.sc]; exact h9) h10 h11 h12 h13 h14 pl.1 pl.2.1 pl.2.2.1 h15 h16)
    · cases h
  | .exp e, sc, W, X, st, o, h => by
    simp only [chkS] at h
    split at h
    · simp only [Bool.and_eq_true, Bool.not_eq_true'] at h
      exact s_exp o (rE e _ o.toXOk h.1).pe (chk_plain h.1) h.2
    · cases h
  | .ret e, sc, W, X, st, o, h => by
    simp only [chkS] at h
    split at h
    · exact s_ret (rE e _ o.toXOk h).pe
    · cases h
  | .retn, sc, W, X, st, o, h => by
    simp only [chkS] at h
    split at h
    · exact s_retn
    · cases h
  | .ifs c a b, sc, W, X, st, o, h => by
    simp only [chkS] at h
    split at h
    · simp only [Bool.and_eq_true] at h
      exact s_ifs ((rE c _ o.toXOk h.1.1.2).pt h.1.1.1) (rB a _ o h.1.2) (rB b _ o h.2)
    · cases h
  | .for tg it b, sc, W, X, st, o, h => by
    simp only [chkS] at h
    split at h
    · simp only [Bool.and_eq_true] at h
      exact s_for o (rI it o.toXOk h.1.1.1) (tg_ok o.K o.calm o.nm o.nd (fun x hx => ⟨by rw [o.sc]; exact loc_of hx, .inl (o.fnA x)⟩) h.1.1.2) (rB b _ o h.1.2) h.2
    · cases h
  | .whl c b, sc, W, X, st, o, h => by
    simp only [chkS] at h
    split at h
    · simp only [Bool.and_eq_true] at h
      exact s_whl o ((rE c _ o.toXOk h.1.2).pt h.1.1) (rB b _ o h.2)
    · cases h
  | .brk, sc, W, X, st, o, h => by
    simp only [chkS] at h
    split at h
    · exact s_brk
    · cases h
  | .cnt, sc, W, X, st, o, h => by
    simp only [chkS] at h
    split at h
    · exact s_cnt
    · cases h
  | .pass, sc, W, X, st, o, h => by
    simp only [chkS] at h
    split at h
    · exact s_pass
    · cases h
  | .rse c es, sc, W, X, st, o, h => by
    simp only [chkS] at h
    split at h
    · simp only [Bool.and_eq_true, decide_eq_true_eq] at h
      obtain ⟨⟨⟨h1, h2⟩, rfl⟩, h4⟩ := h
      cases es with
      | nil => exact s_rse o h2 h4
      | cons e es => cases h1
    · cases h
  | .try b hs, sc, W, X, st, o, h => by
    simp only [chkS] at h
    split at h
    · rw [Bool.and_eq_true] at h
      exact s_try o (chkHs2_eq h.2) fun W' pn xe o' => rB b _ o' h.1
    · cases h
theorem rB : ∀ (b : B) {sc : Scope} {W : WX} {X : Cx} (sts : List Stmt), SOk p n N sc W X → chkB p.nm N b sc sts = true → PSs X sts (tBk p n W b)
  | .nil, sc, W, X, sts, o, h => by
    simp only [chkB] at h
    split at h
    · exact b_nil
    · cases h
  | .cons s b, sc, W, X, sts, o, h => by
    simp only [chkB] at h
    split at h
    · rw [Bool.and_eq_true] at h
      exact b_cons (rS s _ o h.1) (rB b _ o h.2)
    · cases h
end
end
/-! ### a def's end -/
def PostF (p : Pg) (c : Cf) (H : Hp) (Q : VK) (E : XK) : Option FR → Prop
  | none => False
  | some (.rt d bs' new) => ∀ c' v H', c.Le H c' H' → Rep p.K ⟨H, c.Z, c.ad⟩ c' [] (bs' ++ new) [] H' → RepV p.K c'.ad c'.Z H' d v → Q v H'
  | some (.ex x bs') => ∀ c' dd H', c.Le H c' H' → Rep p.K ⟨H, c.Z, c.ad⟩ c' [] bs' [] H' → RepX x dd → E (.ref (p.ea x.cls)) dd H'
section
variable {p : Pg} {c c' : Cf} {H H' : Hp} {sl : Sl} {mm : Mm} {σ : L2.St} {b : Nat} {Q : VK} {E : XK}
theorem Rep.fin {ex : List Addr} {new : Mm} (r : Rep p.K ⟨H, c.Z, c.ad⟩ c' sl mm σ H') (l : c.Le H c' H') (hb : c.ad.length = b)
    (hx : (ex = [] ∧ new = []) ∨ ∃ k a x, b ≤ k ∧ c'.ad[k]? = some a ∧ mm[k]? = some x ∧ ex = [a] ∧ new = [x]) :
    c.Le H ⟨c.ad ++ ex, c'.Z⟩ H' ∧ Rep p.K ⟨H, c.Z, c.ad⟩ ⟨c.ad ++ ex, c'.Z⟩ [] (mm.take b ++ new) [] H' := by
  obtain ⟨l0, hl0⟩ := r.pre
  have hl0 : c'.ad = c.ad ++ l0 := hl0
  have hlen : c'.ad.length = mm.length := r.lenA
  have hbm : b ≤ mm.length := by rw [← hlen, hl0, List.length_append]; omega
  have inX : ∀ q ∈ ex, ∃ k, b ≤ k ∧ c'.ad[k]? = some q := fun q hq => by
    rcases hx with ⟨rfl, _⟩ | ⟨k, a, x, h1, h2, _, rfl, _⟩
    · cases hq
    · rw [List.mem_singleton] at hq; subst hq; exact ⟨k, h1, h2⟩
  have memA : ∀ q ∈ c.ad ++ ex, q ∈ c'.ad := fun q hq => by
    rcases List.mem_append.mp hq with h | h
    · rw [hl0]; exact List.mem_append_left _ h
    · obtain ⟨k, _, h2⟩ := inX q h
      exact List.mem_of_getElem? h2
  refine ⟨⟨⟨ex, rfl⟩, l.z, l.rd⟩, ⟨rfl, ?_, fun i d e => ?_, fun k a x e1 e2 => ?_, ?_, fun q o e nq => ?_, r.zin, r.trk, ⟨ex, rfl⟩, fun a ha => ?_⟩⟩
  · show (c.ad ++ ex).length = _
    rw [List.length_append, List.length_append, List.length_take, hb, Nat.min_eq_left hbm]
    rcases hx with ⟨rfl, rfl⟩ | ⟨k, a, x, h1, h2, _, rfl, rfl⟩ <;> rfl
  · simp at e
  · have e1 : (c.ad ++ ex)[k]? = some a := e1
    have key : ∃ k' : Nat, c'.ad[k']? = some a ∧ mm[k']? = some x := by
      by_cases hk : k < b
      · refine ⟨k, ?_, ?_⟩
        · rw [List.getElem?_append_left (by omega)] at e1
          rw [hl0, List.getElem?_append_left (by omega)]; exact e1
        · rw [List.getElem?_append_left (by rw [List.length_take]; omega), List.getElem?_take] at e2
          rw [if_pos hk] at e2; exact e2
      · rw [List.getElem?_append_right (by omega)] at e1
        rw [List.getElem?_append_right (by rw [List.length_take]; omega), List.length_take, Nat.min_eq_left hbm] at e2
        rw [hb] at e1
        rcases hx with ⟨rfl, rfl⟩ | ⟨k1, a1, x1, h1, h2, h3, rfl, rfl⟩
        · simp at e1
        · by_cases hz : k - b = 0
          · rw [hz] at e1 e2
            simp only [List.getElem?_cons_zero, Option.some.injEq] at e1 e2
            subst e1; subst e2
            exact ⟨k1, h2, h3⟩
          · obtain ⟨j, hj⟩ := Nat.exists_eq_succ_of_ne_zero hz
            rw [hj] at e1
            simp at e1
    obtain ⟨k', q1, q2⟩ := key
    exact ObjR.pure (r.obj k' a x q1 q2)
  · show (c.ad ++ ex).Nodup
    have nd := r.nd
    rw [hl0] at nd
    rw [List.nodup_append] at nd ⊢
    refine ⟨nd.1, ?_, fun q hq q2 hq2 => ?_⟩
    · rcases hx with ⟨rfl, _⟩ | ⟨k, a, x, _, _, _, rfl, _⟩ <;> simp
    · obtain ⟨k, h1, h2⟩ := inX q2 hq2
      rw [hl0, List.getElem?_append_right (by omega)] at h2
      exact nd.2.2 q hq q2 (List.mem_of_getElem? h2)
  · have nq : q ∉ c.ad ++ ex := nq
    by_cases hq : q ∈ c'.ad
    · rcases r.adn q hq with h | h
      · exact (nq (List.mem_append_left _ h)).elim
      · rw [h] at e; cases e
    · exact r.frm q o e hq
  · rcases List.mem_append.mp ha with h | h
    · exact .inl h
    · exact r.adn a (memA a (List.mem_append_right _ h))
theorem fin_ok {d : Mp.D} (h : PostF p c H Q E (finF b d mm)) (hb : c.ad.length = b) {v : V} (l : c.Le H c' H') (r : Rep p.K ⟨H, c.Z, c.ad⟩ c' sl mm σ H') (rv : RepV p.K c'.ad c'.Z H' d v) : Q v H' := by
  have hpre : ∀ k a, k < b → c'.ad[k]? = some a → c.ad[k]? = some a := fun k a hk e => by
    obtain ⟨l0, hl0⟩ := r.pre
    have hl0 : c'.ad = c.ad ++ l0 := hl0
    rw [hl0, List.getElem?_append_left (by omega)] at e
    exact e
  obtain ⟨l1, r1⟩ := r.fin l hb (ex := []) (new := []) (.inl ⟨rfl, rfl⟩)
  have vm : ∀ k v, RepV p.K c'.ad c'.Z H' (.m k) v → ∃ a, c'.ad[k]? = some a ∧ v = .ref a := fun k v h => by
    simp only [RepV] at h; exact h
  unfold finF at h
  split at h
  · cases hp : pureD d with
    | true =>
      simp only [hp] at h
      exact h _ v H' l1 r1 (RepV.pure _ _ _ hp rv)
    | false =>
      simp only [hp] at h
      split at h
      · rename_i k
        obtain ⟨a, ha, rfl⟩ := vm k v rv
        by_cases hk : k < b
        · rw [if_pos hk] at h
          refine h _ _ H' l1 r1 ?_
          simp only [RepV]
          exact ⟨a, by rw [List.append_nil]; exact hpre k a hk ha, rfl⟩
        · rw [if_neg hk] at h
          split at h
          · rename_i cc e2
            obtain ⟨l2, r2⟩ := r.fin l hb (ex := [a]) (new := [.mu cc]) (.inr ⟨k, a, _, by omega, ha, e2, rfl, rfl⟩)
            refine h _ _ H' l2 r2 ?_
            simp only [RepV]
            exact ⟨a, by rw [List.getElem?_append_right (by omega)]; simp [hb], rfl⟩
          · exact h.elim
      · rename_i x k
        simp only [RepV] at rv
        obtain ⟨a, vs, rfl, t, rl⟩ := rv
        simp only [RepL] at rl
        obtain ⟨v1, r1', rfl, h1, v2, r2', rfl, h2, rfl⟩ := rl
        obtain ⟨q, hq, rfl⟩ := h2
        cases hx : pureD x with
        | false => simp only [hx] at h; exact h.elim
        | true =>
          simp only [hx, if_true] at h
          by_cases hk : k < b
          · rw [if_pos hk] at h
            refine h _ _ H' l1 r1 ?_
            simp only [RepV]
            refine ⟨a, [v1, .ref q], rfl, t, RepL.cons (RepV.pure _ _ _ hx h1) (RepL.one ?_)⟩
            simp only [RepV]
            exact ⟨q, by rw [List.append_nil]; exact hpre k q hk hq, rfl⟩
          · rw [if_neg hk] at h
            split at h
            · rename_i cc e2
              obtain ⟨l2, r2⟩ := r.fin l hb (ex := [q]) (new := [.mu cc]) (.inr ⟨k, q, _, by omega, hq, e2, rfl, rfl⟩)
              refine h _ _ H' l2 r2 ?_
              simp only [RepV]
              refine ⟨a, [v1, .ref q], rfl, t, RepL.cons (RepV.pure _ _ _ hx h1) (RepL.one ?_)⟩
              simp only [RepV]
              exact ⟨q, by rw [List.getElem?_append_right (by omega)]; simp [hb], rfl⟩
            · exact h.elim
      · exact h.elim
  · exact h.elim
theorem exF_ok {x : Ex} {dd : Option Addr} (h : PostF p c H Q E (exF b x mm)) (hb : c.ad.length = b) (l : c.Le H c' H') (r : Rep p.K ⟨H, c.Z, c.ad⟩ c' sl mm σ H') (rx : RepX x dd) : E (.ref (p.ea x.cls)) dd H' := by
  unfold exF at h
  split at h
  · obtain ⟨l1, r1⟩ := r.fin l hb (ex := []) (new := []) (.inl ⟨rfl, rfl⟩)
    simp only [List.append_nil] at l1 r1
    exact h _ dd H' l1 r1 rx
  · exact h.elim
theorem rep_start {ds : List Mp.D} {vs : List V} {bs : Mm} {N : List Str} {ns : Nat} (r : Rep p.K ⟨H, c.Z, c.ad⟩ c [] bs [] H) (rl : RepL p.K c.ad c.Z H ds vs) (hN : ns = N.length) : Rep p.K ⟨H, c.Z, c.ad⟩ c (startS ns ds) bs (L2.start N vs) H := by
  have hl := rl.len
  subst hN
  refine ⟨?_, r.lenA, fun i d e => ?_, r.obj, r.nd, r.frm, r.zin, r.trk, r.pre, r.adn⟩
  · unfold startS L2.start
    simp only [List.length_append, List.length_map, List.length_replicate, hl]
  · unfold startS at e
    by_cases hi : i < ds.length
    · rw [List.getElem?_append_left (by rw [List.length_map]; exact hi), List.getElem?_map] at e
      cases q : ds[i]? with
      | none => rw [q] at e; cases e
      | some d' =>
        rw [q] at e
        cases e
        obtain ⟨v, hv, rv⟩ := rl.get q
        refine ⟨v, ?_, rv⟩
        unfold L2.start
        rw [List.getElem?_append_left (by rw [List.length_map]; omega), List.getElem?_map, hv]; rfl
    · rw [List.getElem?_append_right (by rw [List.length_map]; omega), List.getElem?_replicate] at e
      split at e <;> cases e
end
/-! ### a module's defs -/
structure Df where
  nm : Str
  args : Arguments
  body : List Stmt
  scope : Scope
  N : List Str
  ps : List Str
def chkF (m : Nm) (d : Df) (fd : FDef) : Bool := C8.scC d.N d.ps d.scope && (fd.ns == d.N.length) && (fd.np == d.ps.length) && chkB m d.N fd.body d.scope d.body
/-- what the module gives -/
structure Stat (p : Pg) : Prop where
  fns : ∀ f, p.dom f = true → ∃ (d : Df) (fd : FuncData), p.mg (p.fn f) = some (.ref (p.fa f)) ∧ FunD p.K d.nm d.nm d.args d.body d.scope [] [] (p.fa f) fd ∧ Binds p.K fd d.ps [] ∧ chkF p.nm d (p.T f) = true
  blt : ∀ x, p.bdom x = true → p.mg x = none
  gls : ∀ i, p.gdom i = true → ∃ u v, p.mg (p.gn i) = some u ∧ RelV v u ∧ pureD (p.gv i) = true ∧ ∀ H, RepV p.K [] (fun _ => False) H (p.gv i) v
  exc : ∀ c, p.edom c = true → p.mg (p.en c) = some (.ref (p.ea c)) ∧ PySem.W.excIn p.K (p.ea c) He.veBase "ValueError.__new__" = true ∧ PySem.W.keepIn p.K (.ref (p.ea c)) = true ∧ PySem.W.subIn p.K (.ref (p.ea c)) (.type "BaseException") = some true ∧ PySem.W.typeIn p.K (.ref (p.ea c)) = some (.type "type")
  exm : ∀ x c b, p.sub x c = some b → PySem.W.exmOne p.K (.ref (p.ea x)) (.ref (p.ea c)) = some b
def spF (p : Pg) (n f : Nat) : Sp := fun vs H Q E => ∃ c ds bs, Rep p.K ⟨H, c.Z, c.ad⟩ c [] bs [] H ∧ bs.all M.isMu = true ∧ RepL p.K c.ad c.Z H ds vs ∧ vs.length = (p.T f).np ∧ PostF p c H Q E (p.cf n f ds bs)
def FnsOk (P : Program) (w : World) (base : Heap) (p : Pg) (n : Nat) : Prop := ∀ f, p.dom f = true → p.mg (p.fn f) = some (.ref (p.fa f)) ∧ PySem.W.keepIn p.K (.ref (p.fa f)) = true ∧ ∃ (fd : FuncData) (ps : List Str), ps.length = (p.T f).np ∧ Binds p.K fd ps [] ∧
    FnOk P w p.K p.mg base (L2.CX P w) n (p.fa f) fd ps (spF p n f)
theorem fn_step {P : Program} {w : World} {base : Heap} {p : Pg} (hdn : p.K.dn = dN P w) (S : Stat p) {n f : Nat} (ih : FnsOk P w base p n) {d : Df} {fd : FuncData} (F : FunD p.K d.nm d.nm d.args d.body d.scope [] [] (p.fa f) fd) (hc : chkF p.nm d (p.T f) = true) : FnOk P w p.K p.mg base (L2.CX P w) (n + 1) (p.fa f) fd d.ps (spF p (n + 1) f) := by
  unfold chkF at hc
  simp only [Bool.and_eq_true] at hc
  obtain ⟨⟨⟨h1, h2⟩, h3⟩, h4⟩ := hc
  have FS := C8.fnScope_by h1
  refine F.ok FS (fun vs H Q E ⟨c, ds, bs, _, _, _, h, _⟩ => by rw [h]; exact eq_of_beq h3) fun cdv A outer s H vs Q E hr hsp => ?_
  obtain ⟨c, ds, bs, r, hmu, rl, hl, h⟩ := hsp
  have o : SOk p n d.N d.scope (fun cls dd _ H => E cls dd H) (cxOf (L2.CX P w) P w p.K p.mg base d.N d.nm d.scope (p.fa f) cdv A outer s H E) :=
    { K := rfl, dn := hdn, mg := rfl, nm := rfl, sc := rfl, nd := FS.nd, calm := rfl, room := hr, takes := takes_of rfl rfl rfl rfl, fns := ih, blt := S.blt, gls := S.gls, kind := FS.kind, stk := rfl, frm := rfl, fnA := fun _ => rfl, own := passes_of rfl, exc := S.exc, exm := S.exm }
  refine ⟨_, rB (p.T f).body d.body o h4, ⟨H, c.Z, c.ad⟩, c, _, bs, rep_start r rl (eq_of_beq h2), ?_⟩
  have hbl : c.ad.length = bs.length := r.lenA
  have hu : PostF p c H Q E (callF p.sub p.T p.gv (n + 1) f ds bs) := h
  unfold callF at hu
  have hnp : (ds.length == (p.T f).np) = true := by rw [← rl.len, hl]; simp
  rw [if_pos hnp] at hu
  cases q : semB p.sub p.gv (p.cf n) (p.T f).body (startS (p.T f).ns ds) bs with
  | none => rw [q] at hu; exact hu.elim
  | some y =>
    rw [q] at hu
    cases y with
    | nx sl mm => exact fun c' σ' H' l r => fin_ok hu hbl l r okN
    | rt dd mm => exact fun c' sl' σ' v H' l r rv => fin_ok hu hbl l r rv
    | bk sl mm => exact hu.elim
    | ct sl mm => exact hu.elim
    | ex x sl mm => exact fun c' dd σ' H' l r rx => exF_ok hu hbl l r rx
theorem fns_ok {P : Program} {w : World} {base : Heap} {p : Pg} (hdn : p.K.dn = dN P w) (S : Stat p) : ∀ n, FnsOk P w base p n
  | 0 => fun f hf => by
    obtain ⟨d, fd, hm, F, hb, hc⟩ := S.fns f hf
    unfold chkF at hc
    simp only [Bool.and_eq_true] at hc
    refine ⟨hm, F.kp, fd, d.ps, (eq_of_beq hc.1.2).symm, hb, ⟨fun vs H Q E ⟨c, ds, bs, _, _, _, h, _⟩ => by rw [h]; exact eq_of_beq hc.1.2, fun A outer s H args us vs Q E _ _ _ _ ⟨c, ds, bs, _, _, _, _, h⟩ => h.elim⟩⟩
  | n + 1 => fun f hf => by
    have ih := fns_ok (P := P) (w := w) (base := base) hdn S n
    obtain ⟨d, fd, hm, F, hb, hc⟩ := S.fns f hf
    refine ⟨hm, F.kp, fd, d.ps, ?_, hb, fn_step hdn S ih F hc⟩
    unfold chkF at hc
    simp only [Bool.and_eq_true] at hc
    exact (eq_of_beq hc.1.2).symm
end Mp
/-! Mp14: a module, by its description; a law's end. -/
namespace Mp
open PySem PySem.Spec
open PyProof.Rows L2
mutual
/-- the module's constant u is the datum -/
def dataIn (K : PySem.W.Frag) : Mp.D → Value → Bool
  | .non, u => (match u with | .none => true | _ => false)
  | .bl b, u => (match u with | .bool c => b == c | _ => false)
  | .int i, u => (match u with | .int j _ => decide (i = j) | _ => false)
  | .str s, u => (match u with | .str y _ => decide (y = toS s) && okT s | _ => false)
  | .tup xs, u => (match u with
    | .ref a => (match K.lookup a with
      | some o => (match o.data with
        | .seq its _ => (match o.cls with | .type c => decide (c = "tuple") | _ => false) && (match o.dict with | .none => true | _ => false) && decide (its.size ≤ sizeLine) && dataAll K xs its.toList
        | _ => false)
      | none => false)
    | _ => false)
  | .lst _, _ => false
  | .dct _ _, _ => false
  | .dtu _ _, _ => false
  | .obj _ _, _ => false
  | .m _, _ => false
def dataAll (K : PySem.W.Frag) : List Mp.D → List Value → Bool
  | [], us => (match us with | [] => true | _ :: _ => false)
  | d :: ds, us => (match us with | u :: us => dataIn K d u && dataAll K ds us | [] => false)
end
mutual
theorem dataIn_ok {K : Kx} : ∀ (d : Mp.D) (u : Value), dataIn K d u = true → pureD d = true ∧ ∃ v, RelV v u ∧ ∀ H, RepV K [] (fun _ => False) H d v
  | .non, u, h => by
    simp only [dataIn] at h
    split at h
    · exact ⟨rfl, .non, rfl, fun _ => okN⟩
    · cases h
  | .bl b, u, h => by
    simp only [dataIn] at h
    split at h
    · rename_i c
      have e : b = c := by simpa using h
      subst e
      exact ⟨rfl, .bl b, rfl, fun _ => okB⟩
    · cases h
  | .int i, u, h => by
    simp only [dataIn] at h
    split at h
    · rename_i j t
      have e : i = j := of_decide_eq_true h
      subst e
      exact ⟨rfl, .int i, ⟨t, rfl⟩, fun _ => okI⟩
    · cases h
  | .str s, u, h => by
    simp only [dataIn] at h
    split at h
    · rename_i y t
      rw [Bool.and_eq_true] at h
      have e : y = toS s := of_decide_eq_true h.1
      subst e
      exact ⟨rfl, .str (toS s), ⟨t, rfl⟩, fun _ => okS h.2⟩
    · cases h
  | .tup xs, u, h => by
    simp only [dataIn] at h
    split at h
    · rename_i a
      split at h
      · rename_i o ho
        split at h
        · rename_i its n hd
          simp only [Bool.and_eq_true, decide_eq_true_eq] at h
          obtain ⟨⟨⟨h1, h2⟩, h3⟩, h4⟩ := h
          obtain ⟨hp, vs, hv, hr⟩ := dataAll_ok xs _ h4
          have e1 : o.cls = .type "tuple" := by
            split at h1
            · rename_i c hc; rw [hc, of_decide_eq_true h1]
            · cases h1
          have e2 : o.dict = none := by
            split at h2
            · assumption
            · cases h2
          refine ⟨by simpa only [pureD] using hp, .ref a, rfl, fun H => ?_⟩
          simp only [RepV]
          exact ⟨a, vs, rfl, .inr ⟨o, its, n, ho, e1, e2, hd, h3, hv⟩, hr H⟩
        · cases h
      · cases h
    · cases h
  | .lst _, _, h => by simp only [dataIn] at h; cases h
  | .dtu _ _, _, h => by simp only [dataIn, Bool.false_eq_true] at h
  | .dct _ _, _, h => by simp only [dataIn] at h; cases h
  | .obj _ _, _, h => by simp only [dataIn] at h; cases h
  | .m _, _, h => by simp only [dataIn] at h; cases h
theorem dataAll_ok {K : Kx} : ∀ (ds : List Mp.D) (us : List Value), dataAll K ds us = true → pureDs ds = true ∧ ∃ vs, Vals vs us ∧ ∀ H, RepL K [] (fun _ => False) H ds vs
  | [], us, h => by
    simp only [dataAll] at h
    split at h
    · exact ⟨rfl, [], .nil, fun _ => RepL.nil⟩
    · cases h
  | d :: ds, us, h => by
    simp only [dataAll] at h
    split at h
    · rw [Bool.and_eq_true] at h
      obtain ⟨p1, v, r1, q1⟩ := dataIn_ok d _ h.1
      obtain ⟨p2, vs, r2, q2⟩ := dataAll_ok ds _ h.2
      exact ⟨by simp only [pureDs, p1, p2, Bool.and_self], v :: vs, .cons r1 r2, fun H => RepL.cons (q1 H) (q2 H)⟩
    · cases h
end
/-- no list is the module's own -/
def noList (K : PySem.W.Frag) : Bool := K.all fun q => match q.2.cls with | .type c => !decide (c = "list") | _ => true
theorem noList_ok {K : PySem.W.Frag} (h : noList K = true) {a : Addr} {o : Obj} (e : K.lookup a = some o) (hc : o.cls = .type "list") : False := by
  have hm := List.all_eq_true.mp h _ (He.lookup_mem e)
  simp only [hc] at hm
  simp at hm
/-- a module by its description -/
structure Md where
  T : Nat → FDef
  df : Nat → Df
  ids : List Nat
  gv : Nat → Mp.D
  gn : Nat → Str
  gids : List Nat
  en : Nat → Str
  eids : List Nat
  bls : List Str
  sub : Nat → Nat → Option Bool
def Md.pg (M : Md) (K : Kx) (mg : Str → Option Value) : Pg :=
  { K := K, mg := mg, T := M.T, gv := M.gv, sub := M.sub, gn := M.gn, fn := fun f => (M.df f).nm, en := M.en, fa := fun f => He.ga K (M.df f).nm, ea := fun c => He.ga K (M.en c), dom := fun f => M.ids.contains f, gdom := fun i => M.gids.contains i, edom := fun c => M.eids.contains c, bdom := fun x => M.bls.contains x }
def Md.nm (M : Md) : Nm := ⟨fun f => (M.df f).nm, M.gn, M.en, fun f => M.ids.contains f, fun i => M.gids.contains i, fun c => M.eids.contains c, fun x => M.bls.contains x, fun f => (M.T f).np, fun g => strsG (M.gv g)⟩
def Md.defd (d : Df) : He.DefD := ⟨(d.nm, none), d.nm, d.nm, d.args, d.body, d.scope, [], []⟩
def Md.fa (M : Md) : List He.Fa := (M.ids.map fun f => He.Fa.glo (M.df f).nm) ++ ((M.eids.map fun c => He.Fa.glo (M.en c)) ++ ((M.eids.map fun c => He.Fa.exc (M.en c)) ++ ((M.eids.flatMap fun x => M.eids.map fun c => He.Fa.exm (M.en x) (M.en c) ((M.sub x c).getD false)) ++ M.bls.map He.Fa.free)))
def Md.fn (M : Md) : List He.DefD := M.ids.map fun f => Md.defd (M.df f)
def Md.ex (M : Md) (K : PySem.W.Frag) : Bool := noList K && M.gids.all fun i => match PySem.W.nsIn K mainGlobals (M.gn i) with
  | some (some u) => dataIn K (M.gv i) u
  | _ => false
def BindsP (d : Df) : Prop := ∀ (kV doc pm : Value) (an : Option Addr) (cdv ct : Value) (us : List Value), us.length = d.ps.length → bindArgs (PySem.W.fnOf d.nm d.nm d.args d.body d.scope .none kV doc pm an cdv ct) ⟨us, []⟩ = pure (d.ps.zip us)
def BindsAll : List Df → Prop
  | [] => True
  | d :: ds => BindsP d ∧ BindsAll ds
theorem BindsAll.get : ∀ {ds : List Df} {d : Df}, BindsAll ds → d ∈ ds → BindsP d
  | [], _, _, h => by cases h
  | x :: xs, d, h, hm => by
    rcases List.mem_cons.mp hm with rfl | hm
    · exact h.1
    · exact h.2.get hm
theorem mem_of_contains {α : Type} [BEq α] [LawfulBEq α] {l : List α} {a : α} (h : l.contains a = true) : a ∈ l := List.contains_iff_mem.mp h
theorem stat {M : Md} {w : World} {K : Kx} {h : Heap} {mg : Str → Option Value} (X : K.K.In h) (G : h.Ns mainGlobals mg) (c : He.SaysX M.fa M.fn [] [] M.ex w h K.K)
    (hc : M.ids.all (fun f => chkF M.nm (M.df f) (M.T f)) = true) (hb : BindsAll (M.ids.map M.df)) (hs : ∀ x c b, M.sub x c = some b → x ∈ M.eids ∧ c ∈ M.eids) : Stat (M.pg K mg) := by
  have more := c.more
  unfold Md.ex at more
  rw [Bool.and_eq_true] at more
  have F : ∀ {f : He.Fa}, f ∈ M.fa → f.ok K.K = true := fun hf => He.SaysD.facts c.t.d hf
  refine ⟨fun f hf => ?_, fun x hx => ?_, fun i hi => ?_, fun e he => ?_, fun x e b hxe => ?_⟩
  · have hf' : f ∈ M.ids := mem_of_contains hf
    obtain ⟨fd, FD⟩ := He.SaysD.defs c.t.d (d := Md.defd (M.df f)) (List.mem_map_of_mem hf')
    have FD : FunD K.K (M.df f).nm (M.df f).nm (M.df f).args (M.df f).body (M.df f).scope [] [] (He.ga K.K (M.df f).nm) fd := FD
    refine ⟨M.df f, fd, He.glo_ok X G (F ?_), FD, FD.bindsN (hb.get (List.mem_map_of_mem hf')), List.all_eq_true.mp hc f hf'⟩
    exact List.mem_append_left _ (List.mem_map_of_mem (f := fun f => He.Fa.glo (M.df f).nm) hf')
  · have hx' : x ∈ M.bls := mem_of_contains hx
    exact He.free_ok X G (F (List.mem_append_right _ (List.mem_append_right _ (List.mem_append_right _ (List.mem_append_right _ (List.mem_map_of_mem hx'))))))
  · have hi' : i ∈ M.gids := mem_of_contains hi
    have q := List.all_eq_true.mp more.2 i hi'
    split at q
    · rename_i u hu
      obtain ⟨hp, v, hv, hr⟩ := dataIn_ok _ _ q
      exact ⟨u, v, PySem.W.mg_of X G hu, hv, hp, hr⟩
    · cases q
  · have he' : e ∈ M.eids := mem_of_contains he
    obtain ⟨h1, h2, h3, h4⟩ := He.exc_ok (F (f := .exc (M.en e)) (List.mem_append_right _ (List.mem_append_right _ (List.mem_append_left _ (List.mem_map_of_mem (f := fun c => He.Fa.exc (M.en c)) he')))))
    exact ⟨He.glo_ok X G (F (List.mem_append_right _ (List.mem_append_left _ (List.mem_map_of_mem (f := fun c => He.Fa.glo (M.en c)) he')))), h1, h2, h3, h4⟩
  · obtain ⟨h1, h2⟩ := hs x e b hxe
    refine He.exm_ok (F (f := .exm (M.en x) (M.en e) b) (List.mem_append_right _ (List.mem_append_right _ (List.mem_append_right _ (List.mem_append_left _ (List.mem_flatMap.mpr ⟨x, h1, List.mem_map.mpr ⟨e, h2, ?_⟩⟩))))))
    have hxe' : M.sub x e = some b := hxe
    rw [hxe']; rfl
/-- the script -/
theorem rep_ints {K : Kx} {ad : List Addr} {Z : Addr → Prop} {H : Hp} : ∀ ns : List Int, RepL K ad Z H (ns.map .int) (ns.map V.int)
  | [] => RepL.nil
  | n :: ns => RepL.cons okI (rep_ints ns)
theorem law_sp {p : Pg} {n law : Nat} (nl : noList p.K = true) (hnp : (p.T law).np = 1) {H : Hp} {a : Addr} {ns : List Int} (hS : SqL p.K H a (ns.map V.int))
    (hr : ∃ new, p.cf n law [.lst (ns.map .int)] [] = some (.rt (.bl true) [] new)) : spF p n law [.ref a] H (fun v _ => v = .bl true) fun _ _ _ => False := by
  have rd : Rd H a (.lst (ns.map V.int)) := by
    rcases hS with h | ⟨o, its, k, h1, h2, _⟩
    · exact h
    · exact (noList_ok nl h1 h2).elim
  have ha : H a ≠ none := by
    rcases rd with h | ⟨o, h⟩ <;> rw [h] <;> simp
  obtain ⟨new, e⟩ := hr
  refine ⟨⟨[], fun b => b = a⟩, [.lst (ns.map .int)], [], ⟨rfl, rfl, fun i d e => by simp at e, fun k b x e => by simp at e, .nil, fun b o e _ => e, fun b z => .inl z, fun b z => by rw [z]; exact ha, ⟨[], rfl⟩, fun b hb => by cases hb⟩, rfl, RepL.one ?_, hnp.symm, ?_⟩
  · simp only [RepV]
    exact ⟨a, ns.map V.int, rfl, ⟨rfl, rd⟩, rep_ints ns⟩
  · rw [e]
    exact fun c' v H' _ _ rv => repV_bl rv
/-- the law's end, what it may let out told by the world -/
theorem walk_own {l : PySem.W.OpenLaw} {m k : Nat} {q : Program} {loose : List Str} {XP : (Str → Option Value) → Heap → Prop} {Y : World → Heap → Prop} {d : DefRec} {CX : World → CXT} {x : Str}
    (hm : l.most = some m) (hz : m ≤ sizeLine) (h0 : d.params.defaults = []) (room : Room k callerA)
    (F : ∀ (w : World) (mg : Str → Option Value) (f : Addr) (h : Heap), Y w h → h.Ns mainGlobals mg → mg d.name = some (.ref f) →
      ∃ (K : PySem.W.Frag) (fd : FuncData) (sp : Sp), K.In h ∧ (∀ (s : Shared) (v : Value), BindsTo s fd ⟨[v], []⟩ [(x, v)]) ∧
        (∀ (H : Hp) (a : Addr) (ns : List Int), ns.length ≤ m → Only H → SqL K H a (ns.map V.int) → sp [.ref a] H (fun v _ => v = .bl true) fun _ _ _ => False) ∧
        ∀ base : Heap, K.In base → base.Ns mainGlobals mg → FnOk l.prog w K mg base (CX w) k f fd [x] sp)
    (no : ∀ (w : World) (H : Hp) (s : Shared) (e : Value) (s' : Shared), CX w [] H s (fun _ _ _ => False) e s' → False) :
    PySem.W.WalkO q loose XP Y l.row.toRowW d [] (fun g vs => PySem.call g vs) := by
  refine Att.attach_call hm h0 fun w t₀ t₁ mg mb f o pm cd doc a vs ns G y _ _ _ hg ho hi hl hn => ?_
  obtain ⟨K, fd, sp, kin, bi, hs, fo⟩ := F w mg f _ y G.T.g hg
  exact law_call kin G.T.g G.T.b G.T.builtins G.T.nolimit hn ho hi (Nat.le_trans hl hz) room fo bi (fun H ho' hq => hs H a ns hl ho' hq) fun H e u => no w H t₁ e u
def defName (s : Stmt) : Str := match s with
  | .FunctionDef n _ _ _ _ _ _ _ _ _ => n
  | _ => Str.empty
end Mp
theorem He.lookup_memK {α β : Type} [BEq α] [LawfulBEq α] {a : α} {o : β} : ∀ {l : List (α × β)}, l.lookup a = some o → (a, o) ∈ l
  | [], h => by cases h
  | (b, u) :: r, h => by
    rw [List.lookup_cons] at h
    cases q : (a == b) with
    | true =>
      rw [q] at h
      have e : u = o := Option.some.inj h
      rw [eq_of_beq q, e]
      exact List.mem_cons_self
    | false =>
      rw [q] at h
      exact List.mem_cons_of_mem _ (He.lookup_memK h)
namespace Mp
open PySem PySem.Spec
open PyProof.Rows L2
/-- values_of: part, numbers, words, low, high -/
def p_values_of : FDef := ⟨1, 5, (.cons (.asg 1 (.dsp [(.str [99, 111, 118, 101, 114]), (.str [111, 119, 110]), (.str [99, 97, 112])] (.cons (.tup (.cons (.cst (.int 1)) (.cons (.cst (.int 4)) .nil))) (.cons (.tup (.cons (.cst (.int 0)) (.cons (.cst (.int 3)) .nil))) (.cons (.tup (.cons (.cst (.int 0)) (.cons (.cst (.int 8)) .nil))) .nil)))))
    (.cons (.ifs (.bin .mem (.var 0) (.var 1))
    (.cons (.unp [3, 4] (.bin .idx (.var 1) (.var 0)))
    (.cons (.ret (.bin .lrng (.var 3) (.bin .add (.var 4) (.cst (.int 1)))))
    .nil))
    .nil)
    (.cons (.asg 2 (.dsp [(.str [98, 111, 100, 121]), (.str [112, 97, 114, 116]), (.str [108, 111, 111, 107, 115])] (.cons (.cst (.str [97, 110, 101, 119, 32, 108, 111, 110, 103, 101, 114, 32, 110, 101, 119, 32, 115, 97, 109, 101])) (.cons (.cst (.str [97, 110, 101, 119, 32, 108, 111, 110, 103, 101, 114, 32, 115, 97, 109, 101])) (.cons (.cst (.str [101, 105, 116, 104, 101, 114, 32, 102, 105, 114, 115, 116, 32, 116, 104, 105, 110, 103])) .nil)))))
    (.cons (.ret (.ite (.bin .mem (.var 0) (.var 2)) (.mth .split (.bin .idx (.var 2) (.ite (.bin .eq (.var 0) (.cst (.str [98, 111, 100, 121]))) (.cst (.str [98, 111, 100, 121])) (.var 0))) (.cst (.str [32]))) (.call 1 (.cons (.var 0) .nil))))
    .nil))))⟩
/-- two_of: part -/
def p_two_of : FDef := ⟨1, 1, (.cons (.ret (.ite (.bin .eq (.var 0) (.cst (.str [109, 111, 118, 101, 100]))) (.lst (.cons (.cst (.str [101, 110, 100, 115])) (.cons (.cst (.str [115, 116, 97, 121, 115])) .nil))) (.lst (.cons (.cst (.bl false)) (.cons (.cst (.bl true)) .nil)))))
    .nil)⟩
/-- is_same: one, other -/
def p_is_same : FDef := ⟨2, 2, (.cons (.ifs (.or (.un (.isi .bool) (.var 0)) (.un (.isi .bool) (.var 1)))
    (.cons (.ret (.and (.un (.isi .bool) (.var 0)) (.and (.un (.isi .bool) (.var 1)) (.bin .eq (.var 0) (.var 1)))))
    .nil)
    .nil)
    (.cons (.ifs (.or (.un (.isi .int) (.var 0)) (.un (.isi .int) (.var 1)))
    (.cons (.ret (.and (.un (.isi .int) (.var 0)) (.and (.un (.isi .int) (.var 1)) (.bin .eq (.var 0) (.var 1)))))
    .nil)
    .nil)
    (.cons (.ret (.and (.un (.isi .str) (.var 0)) (.and (.un (.isi .str) (.var 1)) (.bin .eq (.var 0) (.var 1)))))
    .nil)))⟩
/-- is_rule: value, part, one, other -/
def p_is_rule : FDef := ⟨1, 4, (.cons (.ifs (.or (.not (.un (.isi .tuple) (.var 0))) (.bin .ne (.un .len (.var 0)) (.un .len (.glb 0))))
    (.cons (.ret (.cst (.bl false)))
    .nil)
    .nil)
    (.cons (.for (.tp [1, 2]) (.zip (.glb 0) (.var 0))
    (.cons (.ifs (.not (.un .any (.lc false (.nm 3) (.call 2 (.cons (.var 2) (.cons (.var 3) .nil))) (.seq (.call 0 (.cons (.var 1) .nil))) (.cst (.bl true)))))
    (.cons (.ret (.cst (.bl false)))
    .nil)
    .nil)
    .nil))
    (.cons (.ret (.or (.bin .eq (.bin .idx (.var 0) (.cst (.int 4))) (.cst (.int 0))) (.bin .ge (.bin .idx (.var 0) (.cst (.int 4))) (.bin .idx (.var 0) (.cst (.int 0))))))
    .nil)))⟩
/-- need_rule: rule -/
def p_need_rule : FDef := ⟨1, 1, (.cons (.ifs (.not (.call 3 (.cons (.var 0) .nil)))
    (.cons (.rse 1 .nil)
    .nil)
    .nil)
    .nil)⟩
/-- with_part: rule, part, value, at -/
def p_with_part : FDef := ⟨3, 4, (.cons (.asg 3 (.un (.tix 0 [[99, 111, 118, 101, 114], [98, 111, 100, 121], [112, 97, 114, 116], [111, 119, 110], [99, 97, 112], [108, 111, 111, 107, 115], [109, 111, 118, 101, 100], [97, 108, 105, 101, 110], [98, 97, 99, 107]]) (.var 1)))
    (.cons (.ret (.bin .add (.bin .add (.slc (.var 0) .no (.var 3)) (.tup (.cons (.var 2) .nil))) (.slc (.var 0) (.bin .add (.var 3) (.cst (.int 1))) .no)))
    .nil))⟩
/-- rules_near: rule, found, part, old, other, value -/
def p_rules_near : FDef := ⟨1, 6, (.cons (.asg 1 (.lst .nil))
    (.cons (.for (.tp [2, 3]) (.zip (.glb 0) (.var 0))
    (.cons (.asg 1 (.bin .add (.var 1) (.lc false (.nm 5) (.call 8 (.cons (.var 0) (.cons (.var 2) (.cons (.var 5) .nil)))) (.seq (.call 0 (.cons (.var 2) .nil))) (.not (.call 2 (.cons (.var 5) (.cons (.var 3) .nil)))))))
    .nil))
    (.cons (.ret (.un .sorted (.lc false (.nm 4) (.var 4) (.seq (.var 1)) (.call 3 (.cons (.var 4) .nil)))))
    .nil)))⟩
/-- near: rule -/
def p_near : FDef := ⟨1, 1, (.cons (.exp (.call 6 (.cons (.var 0) .nil)))
    (.cons (.ret (.call 9 (.cons (.var 0) .nil)))
    .nil))⟩
/-- begin: rule -/
def p_begin : FDef := ⟨1, 1, (.cons (.ret (.tup (.cons (.cst (.int 0)) (.cons (.bin .idx (.var 0) (.cst (.int 0))) (.cons (.tup (.cons (.cst (.str [102, 105, 114, 115, 116])) (.cons (.cst (.int 0)) (.cons (.cst (.str [103, 111, 111, 100])) .nil)))) (.cons (.cst .non) .nil))))))
    .nil)⟩
/-- changed: rule, age, left, word -/
def p_changed : FDef := ⟨4, 4, (.cons (.ifs (.bin .mem (.var 3) (.tup (.cons (.cst (.str [97, 110, 101, 119])) (.cons (.cst (.str [110, 101, 119])) .nil))))
    (.cons (.asg 2 (.bin .idx (.var 0) (.cst (.int 0))))
    .nil)
    (.cons (.ifs (.bin .eq (.var 3) (.cst (.str [108, 111, 110, 103, 101, 114])))
    (.cons (.asg 2 (.bin .min2 (.bin .add (.var 2) (.cst (.int 1))) (.bin .idx (.var 0) (.cst (.int 0)))))
    .nil)
    .nil)
    .nil))
    (.cons (.ret (.ite (.bin .eq (.bin .idx (.var 0) (.cst (.int 4))) (.cst (.int 0))) (.var 2) (.bin .min2 (.var 2) (.bin .sub (.bin .idx (.var 0) (.cst (.int 4))) (.var 1)))))
    .nil))⟩
/-- is_covered: rule, left, part, by_thing, by_own -/
def p_is_covered : FDef := ⟨3, 5, (.cons (.asg 3 (.and (.bin .gt (.var 1) (.cst (.int 0))) (.or (.bin .ne (.bin .idx (.var 2) (.cst (.int 0))) (.cst (.str [97, 108, 105, 101, 110]))) (.bin .idx (.var 0) (.cst (.int 7))))))
    (.cons (.asg 4 (.bin .gt (.bin .idx (.var 2) (.cst (.int 1))) (.cst (.int 0))))
    (.cons (.ifs (.bin .eq (.bin .idx (.var 0) (.cst (.int 5))) (.cst (.str [102, 105, 114, 115, 116])))
    (.cons (.ret (.ite (.bin .eq (.bin .idx (.var 2) (.cst (.int 0))) (.cst (.str [99, 97, 109, 101]))) (.var 4) (.var 3)))
    .nil)
    .nil)
    (.cons (.ret (.or (.var 3) (.and (.bin .eq (.bin .idx (.var 0) (.cst (.int 5))) (.cst (.str [101, 105, 116, 104, 101, 114]))) (.var 4))))
    .nil))))⟩
/-- moved: rule, part -/
def p_moved : FDef := ⟨2, 2, (.cons (.ret (.ite (.bin .eq (.bin .idx (.var 0) (.cst (.int 6))) (.cst (.str [115, 116, 97, 121, 115]))) (.var 1) (.tup (.cons (.bin .idx (.var 1) (.cst (.int 0))) (.cons (.cst (.int 0)) (.cons (.bin .idx (.var 1) (.cst (.int 2))) .nil))))))
    .nil)⟩
/-- day_older: part -/
def p_day_older : FDef := ⟨1, 1, (.cons (.ret (.ite (.un .isN (.var 0)) (.cst .non) (.tup (.cons (.bin .idx (.var 0) (.cst (.int 0))) (.cons (.bin .max2 (.cst (.int 0)) (.bin .sub (.bin .idx (.var 0) (.cst (.int 1))) (.cst (.int 1)))) (.cons (.bin .idx (.var 0) (.cst (.int 2))) .nil))))))
    .nil)⟩
/-- claimed: rule, stand, age, left, part, loose, old -/
def p_claimed : FDef := ⟨2, 7, (.cons (.unp [2, 3, 4, 5] (.var 1))
    (.cons (.ifs (.bin .eq (.bin .idx (.var 4) (.cst (.int 2))) (.cst (.str [103, 111, 111, 100])))
    (.cons (.ret (.tup (.cons (.var 1) (.cons (.cst (.str [110, 111, 116, 104, 105, 110, 103])) .nil))))
    .nil)
    .nil)
    (.cons (.ifs (.not (.call 14 (.cons (.var 0) (.cons (.var 3) (.cons (.var 4) .nil)))))
    (.cons (.ret (.tup (.cons (.var 1) (.cons (.cst (.str [114, 101, 102, 117, 115, 101, 100])) .nil))))
    .nil)
    .nil)
    (.cons (.ifs (.not (.bin .idx (.var 0) (.cst (.int 8))))
    (.cons (.asg 6 (.call 15 (.cons (.var 0) (.cons (.var 4) .nil))))
    (.cons (.asg 5 (.tup (.cons (.bin .idx (.var 6) (.cst (.int 0))) (.cons (.bin .idx (.var 6) (.cst (.int 1))) (.cons (.cst (.str [112, 97, 105, 100])) .nil)))))
    .nil))
    .nil)
    (.cons (.ret (.tup (.cons (.tup (.cons (.var 2) (.cons (.call 13 (.cons (.var 0) (.cons (.var 2) (.cons (.var 3) (.cons (.bin .idx (.var 0) (.cst (.int 2))) .nil))))) (.cons (.tup (.cons (.cst (.str [99, 97, 109, 101])) (.cons (.bin .idx (.var 0) (.cst (.int 3))) (.cons (.cst (.str [103, 111, 111, 100])) .nil)))) (.cons (.var 5) .nil))))) (.cons (.cst (.str [112, 97, 105, 100])) .nil))))
    .nil)))))⟩
/-- bodied: rule, stand, age, left, part, loose -/
def p_bodied : FDef := ⟨2, 6, (.cons (.unp [2, 3, 4, 5] (.var 1))
    (.cons (.ifs (.bin .eq (.var 3) (.cst (.int 0)))
    (.cons (.ret (.tup (.cons (.var 1) (.cons (.cst (.str [114, 101, 102, 117, 115, 101, 100])) .nil))))
    .nil)
    .nil)
    (.cons (.ifs (.bin .eq (.bin .idx (.var 0) (.cst (.int 1))) (.cst (.str [110, 101, 119])))
    (.cons (.asg 4 (.tup (.cons (.cst (.str [102, 105, 114, 115, 116])) (.cons (.cst (.int 0)) (.cons (.cst (.str [103, 111, 111, 100])) .nil)))))
    .nil)
    .nil)
    (.cons (.ret (.tup (.cons (.tup (.cons (.var 2) (.cons (.call 13 (.cons (.var 0) (.cons (.var 2) (.cons (.var 3) (.cons (.bin .idx (.var 0) (.cst (.int 1))) .nil))))) (.cons (.var 4) (.cons (.var 5) .nil))))) (.cons (.cst (.str [112, 97, 105, 100])) .nil))))
    .nil))))⟩
/-- a_day_later: rule, stand, age, left, part, loose -/
def p_a_day_later : FDef := ⟨2, 6, (.cons (.unp [2, 3, 4, 5] (.var 1))
    (.cons (.asg 2 (.ite (.bin .eq (.bin .idx (.var 0) (.cst (.int 4))) (.cst (.int 0))) (.var 2) (.bin .min2 (.bin .add (.var 2) (.cst (.int 1))) (.bin .idx (.var 0) (.cst (.int 4))))))
    (.cons (.ret (.tup (.cons (.var 2) (.cons (.bin .max2 (.cst (.int 0)) (.bin .sub (.var 3) (.cst (.int 1)))) (.cons (.call 16 (.cons (.var 4) .nil)) (.cons (.call 16 (.cons (.var 5) .nil)) .nil))))))
    .nil)))⟩
/-- step: rule, stand, event, word, there, age, left, part, loose -/
def p_step : FDef := ⟨3, 9, (.cons (.unp [5, 6, 7, 8] (.var 1))
    (.cons (.asg 3 (.bin .idx (.var 2) (.cst (.int 0))))
    (.cons (.ifs (.bin .eq (.var 3) (.cst (.str [98, 111, 100, 121])))
    (.cons (.ret (.call 18 (.cons (.var 0) (.cons (.var 1) .nil))))
    .nil)
    .nil)
    (.cons (.ifs (.bin .eq (.var 3) (.cst (.str [99, 108, 97, 105, 109])))
    (.cons (.ret (.call 17 (.cons (.var 0) (.cons (.var 1) .nil))))
    .nil)
    .nil)
    (.cons (.asg 4 (.var 1))
    (.cons (.ifs (.and (.bin .eq (.var 3) (.cst (.str [98, 114, 101, 97, 107]))) (.bin .eq (.bin .idx (.var 7) (.cst (.int 2))) (.cst (.str [103, 111, 111, 100]))))
    (.cons (.asg 4 (.tup (.cons (.var 5) (.cons (.var 6) (.cons (.tup (.cons (.bin .idx (.var 7) (.cst (.int 0))) (.cons (.bin .idx (.var 7) (.cst (.int 1))) (.cons (.cst (.str [98, 114, 111, 107, 101, 110])) .nil)))) (.cons (.var 8) .nil))))))
    .nil)
    .nil)
    (.cons (.ifs (.bin .eq (.var 3) (.cst (.str [100, 97, 121])))
    (.cons (.asg 4 (.call 19 (.cons (.var 0) (.cons (.var 1) .nil))))
    .nil)
    .nil)
    (.cons (.ifs (.bin .eq (.var 3) (.cst (.str [102, 101, 116, 99, 104])))
    (.cons (.asg 4 (.tup (.cons (.var 5) (.cons (.var 6) (.cons (.var 7) (.cons (.tup (.cons (.cst (.str [97, 108, 105, 101, 110])) (.cons (.cst (.int 0)) (.cons (.cst (.str [98, 114, 111, 107, 101, 110])) .nil)))) .nil))))))
    .nil)
    .nil)
    (.cons (.ifs (.and (.bin .eq (.var 3) (.cst (.str [112, 117, 116]))) (.un .notN (.var 8)))
    (.cons (.asg 4 (.tup (.cons (.var 5) (.cons (.var 6) (.cons (.call 15 (.cons (.var 0) (.cons (.var 8) .nil))) (.cons (.call 15 (.cons (.var 0) (.cons (.var 7) .nil))) .nil))))))
    .nil)
    .nil)
    (.cons (.ret (.tup (.cons (.var 4) (.cons (.ite (.or (.bin .eq (.var 3) (.cst (.str [100, 97, 121]))) (.bin .ne (.var 4) (.var 1))) (.cst (.str [100, 111, 110, 101])) (.cst (.str [110, 111, 116, 104, 105, 110, 103]))) .nil))))
    .nil))))))))))⟩
/-- parted: one, other, first, known, line, later, pair, row, event, both, mine, yours -/
def p_parted : FDef := ⟨2, 12, (.cons (.asg 2 (.tup (.cons (.call 12 (.cons (.var 0) .nil)) (.cons (.call 12 (.cons (.var 1) .nil)) .nil))))
    (.cons (.par 3 4 (.d1 (.var 2) (.cst (.bl true))) (.lst (.cons (.tup (.cons (.var 2) (.cons (.tup .nil) .nil))) .nil)))
    (.cons (.whl (.bin .ne (.var 4) (.lst .nil))
    (.cons (.asg 5 (.nls .nil))
    (.cons (.for (.tp [6, 7]) (.seq (.var 4))
    (.cons (.for (.nm 8) (.seq (.glb 1))
    (.cons (.par 10 11 (.call 20 (.cons (.var 0) (.cons (.bin .idx (.var 6) (.cst (.int 0))) (.cons (.var 8) .nil)))) (.call 20 (.cons (.var 1) (.cons (.bin .idx (.var 6) (.cst (.int 1))) (.cons (.var 8) .nil)))))
    (.cons (.ifs (.and (.bin .mem (.bin .idx (.var 8) (.cst (.int 0))) (.tup (.cons (.cst (.str [98, 111, 100, 121])) (.cons (.cst (.str [99, 108, 97, 105, 109])) .nil)))) (.bin .ne (.bin .idx (.var 10) (.cst (.int 1))) (.bin .idx (.var 11) (.cst (.int 1)))))
    (.cons (.ret (.bin .add (.var 7) (.tup (.cons (.var 8) .nil))))
    .nil)
    .nil)
    (.cons (.asg 9 (.tup (.cons (.bin .idx (.var 10) (.cst (.int 0))) (.cons (.bin .idx (.var 11) (.cst (.int 0))) .nil))))
    (.cons (.ifs (.bin .nmem (.var 9) (.var 3))
    (.cons (.std 3 (.var 9) (.cst (.bl true)))
    (.cons (.exp (.mth .app (.var 5) (.tup (.cons (.var 9) (.cons (.bin .add (.var 7) (.tup (.cons (.var 8) .nil))) .nil)))))
    .nil))
    .nil)
    .nil)))))
    .nil))
    (.cons (.asg 4 (.var 5))
    .nil))))
    (.cons (.ret (.cst .non))
    .nil))))⟩
/-- alike: one, other -/
def p_alike : FDef := ⟨2, 2, (.cons (.exp (.call 6 (.cons (.var 0) .nil)))
    (.cons (.exp (.call 6 (.cons (.var 1) .nil)))
    (.cons (.ret (.un .isN (.call 42 (.cons (.var 0) (.cons (.var 1) .nil)))))
    .nil)))⟩
/-- parting: one, other -/
def p_parting : FDef := ⟨2, 2, (.cons (.exp (.call 6 (.cons (.var 0) .nil)))
    (.cons (.exp (.call 6 (.cons (.var 1) .nil)))
    (.cons (.ret (.call 42 (.cons (.var 0) (.cons (.var 1) .nil))))
    .nil)))⟩
/-- like_rules: rule, other -/
def p_like_rules : FDef := ⟨1, 2, (.cons (.exp (.call 6 (.cons (.var 0) .nil)))
    (.cons (.ret (.lc false (.nm 1) (.var 1) (.seq (.call 9 (.cons (.var 0) .nil))) (.un .isN (.call 42 (.cons (.var 0) (.cons (.var 1) .nil))))))
    .nil))⟩
/-- _law_sack: _law_cell, _law_salt, _law_great -/
def l_law_sack : FDef := ⟨2, 3, (.cons (.asg 2 (.ite (.bin .ge (.var 0) (.bin .pow (.cst (.int 10)) (.cst (.int 18)))) (.bin .sub (.bin .fdiv (.var 0) (.cst (.int 2))) (.cst (.int 3))) (.cst (.int 0))))
    (.cons (.ret (.nls (.cons (.var 2) (.cons (.bin .add (.bin .mod (.un .int (.bin .add (.bin .mul (.var 0) (.cst (.int 37))) (.bin .mul (.cst (.int 8009)) (.var 1)))) (.cst (.int 1789569707))) (.cst (.int 4))) .nil))))
    .nil))⟩
/-- _law_grab: _law_sack_here, _law_many, _law_deep, _law_found -/
def l_law_grab : FDef := ⟨2, 4, (.cons (.ifs (.bin .gt (.bin .idx (.var 0) (.cst (.int 0))) (.cst (.int 0)))
    (.cons (.asg 3 (.bin .mod (.un .int (.bin .idx (.var 0) (.cst (.int 0)))) (.var 1)))
    (.cons (.sto 0 (.cst (.int 0)) (.bin .fdiv (.bin .idx (.var 0) (.cst (.int 0))) (.var 1)))
    (.cons (.ret (.var 3))
    .nil)))
    .nil)
    (.cons (.sto 0 (.cst (.int 1)) (.bin .mod (.un .int (.bin .add (.bin .mul (.bin .idx (.var 0) (.cst (.int 1))) (.cst (.int 69069))) (.cst (.int 362437)))) (.cst (.int 2147483423))))
    (.cons (.asg 2 (.bin .mod (.un .int (.bin .mul (.bin .idx (.var 0) (.cst (.int 1))) (.bin .add (.bin .idx (.var 0) (.cst (.int 1))) (.cst (.int 53))))) (.cst (.int 2147483399))))
    (.cons (.ret (.bin .mod (.un .int (.bin .fdiv (.var 2) (.cst (.int 881)))) (.var 1)))
    .nil))))⟩
/-- _law_one_of: _law_sack_here, _law_things -/
def l_law_one_of : FDef := ⟨2, 2, (.cons (.ret (.bin .idx (.var 1) (.call 1001 (.cons (.var 0) (.cons (.un .len (.var 1)) .nil)))))
    .nil)⟩
/-- _law_values: _law_found -/
def l_law_values : FDef := ⟨0, 1, (.cons (.asg 0 (.lst (.cons (.lst (.cons (.cst (.int 1)) (.cons (.cst (.int 2)) (.cons (.cst (.int 3)) (.cons (.cst (.int 4)) .nil))))) (.cons (.lst (.cons (.cst (.str [97, 110, 101, 119])) (.cons (.cst (.str [108, 111, 110, 103, 101, 114])) (.cons (.cst (.str [110, 101, 119])) (.cons (.cst (.str [115, 97, 109, 101])) .nil))))) (.cons (.lst (.cons (.cst (.str [97, 110, 101, 119])) (.cons (.cst (.str [108, 111, 110, 103, 101, 114])) (.cons (.cst (.str [115, 97, 109, 101])) .nil)))) (.cons (.lst (.cons (.cst (.int 0)) (.cons (.cst (.int 1)) (.cons (.cst (.int 2)) (.cons (.cst (.int 3)) .nil))))) .nil))))))
    (.cons (.asg 0 (.bin .add (.var 0) (.lst (.cons (.lst (.cons (.cst (.int 0)) (.cons (.cst (.int 1)) (.cons (.cst (.int 2)) (.cons (.cst (.int 3)) (.cons (.cst (.int 4)) (.cons (.cst (.int 5)) (.cons (.cst (.int 6)) (.cons (.cst (.int 7)) (.cons (.cst (.int 8)) .nil)))))))))) (.cons (.lst (.cons (.cst (.str [101, 105, 116, 104, 101, 114])) (.cons (.cst (.str [102, 105, 114, 115, 116])) (.cons (.cst (.str [116, 104, 105, 110, 103])) .nil)))) (.cons (.lst (.cons (.cst (.str [101, 110, 100, 115])) (.cons (.cst (.str [115, 116, 97, 121, 115])) .nil))) .nil))))))
    (.cons (.ret (.bin .add (.var 0) (.lst (.cons (.lst (.cons (.cst (.bl false)) (.cons (.cst (.bl true)) .nil))) (.cons (.lst (.cons (.cst (.bl false)) (.cons (.cst (.bl true)) .nil))) .nil)))))
    .nil)))⟩
/-- _law_rule: _law_sack_here, _law_found, _law_some -/
def l_law_rule : FDef := ⟨1, 3, (.cons (.asg 1 (.lc true (.nm 2) (.call 1002 (.cons (.var 0) (.cons (.var 2) .nil))) (.seq (.call0 1003)) (.cst (.bl true))))
    (.cons (.ifs (.chn .lt .lt (.cst (.int 0)) (.bin .idx (.var 1) (.cst (.int 4))) (.bin .idx (.var 1) (.cst (.int 0))))
    (.cons (.sto 1 (.cst (.int 4)) (.bin .idx (.var 1) (.cst (.int 0))))
    .nil)
    .nil)
    (.cons (.ret (.un .tuple (.var 1)))
    .nil)))⟩
/-- _law_events:  -/
def l_law_events : FDef := ⟨0, 0, (.cons (.ret (.lst (.cons (.tup (.cons (.cst (.str [98, 111, 100, 121])) .nil)) (.cons (.tup (.cons (.cst (.str [98, 114, 101, 97, 107])) .nil)) (.cons (.tup (.cons (.cst (.str [99, 108, 97, 105, 109])) .nil)) (.cons (.tup (.cons (.cst (.str [100, 97, 121])) .nil)) (.cons (.tup (.cons (.cst (.str [102, 101, 116, 99, 104])) .nil)) (.cons (.tup (.cons (.cst (.str [112, 117, 116])) .nil)) .nil))))))))
    .nil)⟩
/-- _law_new: _law_rule_here -/
def l_law_new : FDef := ⟨1, 1, (.cons (.ret (.tup (.cons (.cst (.int 0)) (.cons (.bin .idx (.var 0) (.cst (.int 0))) (.cons (.tup (.cons (.cst (.str [102, 105, 114, 115, 116])) (.cons (.cst (.int 0)) (.cons (.cst (.str [103, 111, 111, 100])) .nil)))) (.cons (.cst .non) .nil))))))
    .nil)⟩
/-- _law_holds: _law_rule_here, _law_left, _law_part, _law_thing, _law_kind, _law_own, _law_state -/
def l_law_holds : FDef := ⟨3, 7, (.cons (.unp [4, 5, 6] (.var 2))
    (.cons (.asg 3 (.and (.bin .gt (.var 1) (.cst (.int 0))) (.or (.bin .idx (.var 0) (.cst (.int 7))) (.bin .ne (.var 4) (.cst (.str [97, 108, 105, 101, 110]))))))
    (.cons (.ifs (.bin .eq (.bin .idx (.var 0) (.cst (.int 5))) (.cst (.str [116, 104, 105, 110, 103])))
    (.cons (.ret (.var 3))
    .nil)
    .nil)
    (.cons (.ifs (.bin .eq (.bin .idx (.var 0) (.cst (.int 5))) (.cst (.str [101, 105, 116, 104, 101, 114])))
    (.cons (.ret (.or (.var 3) (.bin .gt (.var 5) (.cst (.int 0)))))
    .nil)
    .nil)
    (.cons (.ret (.ite (.bin .eq (.var 4) (.cst (.str [99, 97, 109, 101]))) (.bin .gt (.var 5) (.cst (.int 0))) (.var 3)))
    .nil)))))⟩
/-- _law_longer: _law_rule_here, _law_age, _law_left, _law_answer -/
def l_law_longer : FDef := ⟨4, 4, (.cons (.ifs (.bin .ne (.var 3) (.cst (.str [115, 97, 109, 101])))
    (.cons (.asg 2 (.ite (.bin .eq (.var 3) (.cst (.str [108, 111, 110, 103, 101, 114]))) (.bin .min2 (.bin .add (.var 2) (.cst (.int 1))) (.bin .idx (.var 0) (.cst (.int 0)))) (.bin .idx (.var 0) (.cst (.int 0)))))
    .nil)
    .nil)
    (.cons (.ret (.ite (.bin .gt (.bin .idx (.var 0) (.cst (.int 4))) (.cst (.int 0))) (.bin .min2 (.var 2) (.bin .sub (.bin .idx (.var 0) (.cst (.int 4))) (.var 1))) (.var 2)))
    .nil))⟩
/-- _law_out: _law_rule_here, _law_part -/
def l_law_out : FDef := ⟨2, 2, (.cons (.ret (.tup (.cons (.bin .idx (.var 1) (.cst (.int 0))) (.cons (.ite (.bin .eq (.bin .idx (.var 0) (.cst (.int 6))) (.cst (.str [115, 116, 97, 121, 115]))) (.bin .idx (.var 1) (.cst (.int 1))) (.cst (.int 0))) (.cons (.bin .idx (.var 1) (.cst (.int 2))) .nil)))))
    .nil)⟩
/-- _law_claim: _law_rule_here, _law_stand, _law_age, _law_left, _law_part, _law_loose -/
def l_law_claim : FDef := ⟨2, 6, (.cons (.unp [2, 3, 4, 5] (.var 1))
    (.cons (.ifs (.bin .eq (.bin .idx (.var 4) (.cst (.int 2))) (.cst (.str [103, 111, 111, 100])))
    (.cons (.ret (.tup (.cons (.var 1) (.cons (.cst (.str [110, 111, 116, 104, 105, 110, 103])) .nil))))
    .nil)
    .nil)
    (.cons (.ifs (.not (.call 1021 (.cons (.var 0) (.cons (.var 3) (.cons (.var 4) .nil)))))
    (.cons (.ret (.tup (.cons (.var 1) (.cons (.cst (.str [114, 101, 102, 117, 115, 101, 100])) .nil))))
    .nil)
    .nil)
    (.cons (.ifs (.not (.bin .idx (.var 0) (.cst (.int 8))))
    (.cons (.asg 5 (.bin .add (.slc (.call 1023 (.cons (.var 0) (.cons (.var 4) .nil))) .no (.cst (.int 2))) (.tup (.cons (.cst (.str [112, 97, 105, 100])) .nil))))
    .nil)
    .nil)
    (.cons (.ret (.tup (.cons (.tup (.cons (.var 2) (.cons (.call 1022 (.cons (.var 0) (.cons (.var 2) (.cons (.var 3) (.cons (.bin .idx (.var 0) (.cst (.int 2))) .nil))))) (.cons (.tup (.cons (.cst (.str [99, 97, 109, 101])) (.cons (.bin .idx (.var 0) (.cst (.int 3))) (.cons (.cst (.str [103, 111, 111, 100])) .nil)))) (.cons (.var 5) .nil))))) (.cons (.cst (.str [112, 97, 105, 100])) .nil))))
    .nil)))))⟩
/-- _law_body: _law_rule_here, _law_stand, _law_part, _law_age, _law_left, _law_loose -/
def l_law_body : FDef := ⟨2, 6, (.cons (.unp [3, 4, 2, 5] (.var 1))
    (.cons (.ifs (.bin .lt (.var 4) (.cst (.int 1)))
    (.cons (.ret (.tup (.cons (.var 1) (.cons (.cst (.str [114, 101, 102, 117, 115, 101, 100])) .nil))))
    .nil)
    .nil)
    (.cons (.asg 2 (.ite (.bin .eq (.bin .idx (.var 0) (.cst (.int 1))) (.cst (.str [110, 101, 119]))) (.tup (.cons (.cst (.str [102, 105, 114, 115, 116])) (.cons (.cst (.int 0)) (.cons (.cst (.str [103, 111, 111, 100])) .nil)))) (.var 2)))
    (.cons (.ret (.tup (.cons (.tup (.cons (.var 3) (.cons (.call 1022 (.cons (.var 0) (.cons (.var 3) (.cons (.var 4) (.cons (.bin .idx (.var 0) (.cst (.int 1))) .nil))))) (.cons (.var 2) (.cons (.var 5) .nil))))) (.cons (.cst (.str [112, 97, 105, 100])) .nil))))
    .nil))))⟩
/-- _law_older: _law_part -/
def l_law_older : FDef := ⟨1, 1, (.cons (.ret (.tup (.cons (.bin .idx (.var 0) (.cst (.int 0))) (.cons (.bin .sub (.bin .idx (.var 0) (.cst (.int 1))) (.un .int (.bin .gt (.bin .idx (.var 0) (.cst (.int 1))) (.cst (.int 0))))) (.cons (.bin .idx (.var 0) (.cst (.int 2))) .nil)))))
    .nil)⟩
/-- _law_on: _law_rule_here, _law_stand, _law_event, _law_age, _law_left, _law_part, _law_loose, _law_later, _law_there -/
def l_law_on : FDef := ⟨3, 9, (.cons (.unp [3, 4, 5, 6] (.var 1))
    (.cons (.ifs (.bin .eq (.var 2) (.tup (.cons (.cst (.str [98, 111, 100, 121])) .nil)))
    (.cons (.ret (.call 1025 (.cons (.var 0) (.cons (.var 1) .nil))))
    .nil)
    .nil)
    (.cons (.ifs (.bin .eq (.var 2) (.tup (.cons (.cst (.str [99, 108, 97, 105, 109])) .nil)))
    (.cons (.ret (.call 1024 (.cons (.var 0) (.cons (.var 1) .nil))))
    .nil)
    .nil)
    (.cons (.ifs (.bin .eq (.var 2) (.tup (.cons (.cst (.str [100, 97, 121])) .nil)))
    (.cons (.asg 7 (.ite (.un .isN (.var 6)) (.cst .non) (.call 1026 (.cons (.var 6) .nil))))
    (.cons (.ret (.tup (.cons (.tup (.cons (.bin .min2 (.bin .add (.var 3) (.cst (.int 1))) (.bin .idx (.var 0) (.cst (.int 4)))) (.cons (.bin .sub (.var 4) (.un .int (.bin .gt (.var 4) (.cst (.int 0))))) (.cons (.call 1026 (.cons (.var 5) .nil)) (.cons (.var 7) .nil))))) (.cons (.cst (.str [100, 111, 110, 101])) .nil))))
    .nil))
    .nil)
    (.cons (.ifs (.bin .eq (.var 2) (.tup (.cons (.cst (.str [98, 114, 101, 97, 107])) .nil)))
    (.cons (.asg 8 (.var 1))
    (.cons (.ifs (.bin .eq (.bin .idx (.var 5) (.cst (.int 2))) (.cst (.str [103, 111, 111, 100])))
    (.cons (.asg 8 (.tup (.cons (.var 3) (.cons (.var 4) (.cons (.bin .add (.slc (.var 5) .no (.cst (.int 2))) (.tup (.cons (.cst (.str [98, 114, 111, 107, 101, 110])) .nil))) (.cons (.var 6) .nil))))))
    .nil)
    .nil)
    .nil))
    (.cons (.ifs (.bin .eq (.var 2) (.tup (.cons (.cst (.str [102, 101, 116, 99, 104])) .nil)))
    (.cons (.asg 8 (.tup (.cons (.var 3) (.cons (.var 4) (.cons (.var 5) (.cons (.tup (.cons (.cst (.str [97, 108, 105, 101, 110])) (.cons (.cst (.int 0)) (.cons (.cst (.str [98, 114, 111, 107, 101, 110])) .nil)))) .nil))))))
    .nil)
    (.cons (.asg 8 (.var 1))
    (.cons (.ifs (.un .notN (.var 6))
    (.cons (.asg 8 (.tup (.cons (.var 3) (.cons (.var 4) (.cons (.call 1023 (.cons (.var 0) (.cons (.var 6) .nil))) (.cons (.call 1023 (.cons (.var 0) (.cons (.var 5) .nil))) .nil))))))
    .nil)
    .nil)
    .nil)))
    .nil))
    (.cons (.ret (.tup (.cons (.var 8) (.cons (.ite (.bin .eq (.var 8) (.var 1)) (.cst (.str [110, 111, 116, 104, 105, 110, 103])) (.cst (.str [100, 111, 110, 101]))) .nil))))
    .nil))))))⟩
/-- _law_fewest: _law_one, _law_other, _law_met, _law_line, _law_many, _law_later, _law_mine, _law_yours, _law_event, _law_both, _law_here, _law_there -/
def l_law_fewest : FDef := ⟨2, 12, (.cons (.par 3 4 (.lst (.cons (.tup (.cons (.call 1020 (.cons (.var 0) .nil)) (.cons (.call 1020 (.cons (.var 1) .nil)) .nil))) .nil)) (.cst (.int 0)))
    (.cons (.asg 2 (.d1 (.bin .idx (.var 3) (.cst (.int 0))) (.cst (.bl true))))
    (.cons (.whl (.bin .ne (.var 3) (.lst .nil))
    (.cons (.par 5 4 (.nls .nil) (.bin .add (.var 4) (.cst (.int 1))))
    (.cons (.for (.tp [6, 7]) (.seq (.var 3))
    (.cons (.for (.nm 8) (.seq (.call0 1005))
    (.cons (.par 10 11 (.call 1027 (.cons (.var 0) (.cons (.var 6) (.cons (.var 8) .nil)))) (.call 1027 (.cons (.var 1) (.cons (.var 7) (.cons (.var 8) .nil)))))
    (.cons (.ifs (.and (.bin .ne (.bin .idx (.var 10) (.cst (.int 1))) (.bin .idx (.var 11) (.cst (.int 1)))) (.bin .mem (.bin .idx (.var 8) (.cst (.int 0))) (.tup (.cons (.cst (.str [98, 111, 100, 121])) (.cons (.cst (.str [99, 108, 97, 105, 109])) .nil)))))
    (.cons (.ret (.var 4))
    .nil)
    .nil)
    (.cons (.asg 9 (.tup (.cons (.bin .idx (.var 10) (.cst (.int 0))) (.cons (.bin .idx (.var 11) (.cst (.int 0))) .nil))))
    (.cons (.ifs (.bin .nmem (.var 9) (.var 2))
    (.cons (.std 2 (.var 9) (.cst (.bl true)))
    (.cons (.exp (.mth .app (.var 5) (.var 9)))
    .nil))
    .nil)
    .nil)))))
    .nil))
    (.cons (.asg 3 (.var 5))
    .nil))))
    (.cons (.ret (.cst .non))
    .nil))))⟩
/-- _law_parts: _law_one, _law_other, _law_row, _law_event, _law_mine, _law_yours, _law_words, _law_here, _law_there -/
def l_law_parts : FDef := ⟨3, 9, (.cons (.par3 4 5 6 (.call 1020 (.cons (.var 0) .nil)) (.call 1020 (.cons (.var 1) .nil)) (.lst .nil))
    (.cons (.for (.nm 3) (.seq (.var 2))
    (.cons (.par 7 8 (.call 1027 (.cons (.var 0) (.cons (.var 4) (.cons (.var 3) .nil)))) (.call 1027 (.cons (.var 1) (.cons (.var 5) (.cons (.var 3) .nil)))))
    (.cons (.par3 4 5 6 (.bin .idx (.var 7) (.cst (.int 0))) (.bin .idx (.var 8) (.cst (.int 0))) (.lst (.cons (.bin .idx (.var 7) (.cst (.int 1))) (.cons (.bin .idx (.var 8) (.cst (.int 1))) .nil))))
    .nil)))
    (.cons (.ret (.and (.bin .mem (.bin .idx (.bin .idx (.var 2) (.un .neg (.cst (.int 1)))) (.cst (.int 0))) (.tup (.cons (.cst (.str [98, 111, 100, 121])) (.cons (.cst (.str [99, 108, 97, 105, 109])) .nil)))) (.bin .ne (.bin .idx (.var 6) (.cst (.int 0))) (.bin .idx (.var 6) (.cst (.int 1))))))
    .nil)))⟩
/-- law: _law_script, _law_cell, _law_rule_here, _law_sack_here, _law_one, _law_some, _law_still, _law_pairs, _law_mine, _law_yours, _law_many, _law_found, _law_other -/
def l_law : FDef := ⟨1, 13, (.cons (.for (.nm 1) (.seq (.slc (.bin .add (.lst (.cons (.cst (.int 0)) .nil)) (.var 0)) .no (.cst (.int 2))))
    (.cons (.asg 3 (.call 1000 (.cons (.var 1) (.cons (.cst (.int 45)) .nil))))
    (.cons (.asg 4 (.call 1004 (.cons (.var 3) .nil)))
    (.cons (.asg 5 (.call 11 (.cons (.var 4) .nil)))
    (.cons (.asg 6 (.bin .add (.bin .add (.bin .add (.tup (.cons (.bin .idx (.var 4) (.cst (.int 0))) (.cons (.cst (.str [115, 97, 109, 101])) (.cons (.cst (.str [115, 97, 109, 101])) .nil)))) (.slc (.var 4) (.cst (.int 3)) (.cst (.int 4)))) (.tup (.cons (.cst (.int 0)) .nil))) (.slc (.var 4) (.cst (.int 5)) .no)))
    (.cons (.asg 7 (.lst (.cons (.tup (.cons (.var 4) (.cons (.call 1002 (.cons (.var 3) (.cons (.var 5) .nil))) .nil))) (.cons (.tup (.cons (.var 4) (.cons (.call 1004 (.cons (.var 3) .nil)) .nil))) (.cons (.tup (.cons (.var 6) (.cons (.bin .add (.bin .add (.slc (.var 6) .no (.cst (.int 4))) (.tup (.cons (.bin .idx (.var 4) (.cst (.int 0))) .nil))) (.slc (.var 6) (.cst (.int 5)) .no)) .nil))) .nil)))))
    (.cons (.for (.tp [8, 9]) (.seq (.var 7))
    (.cons (.par 10 11 (.call 1100 (.cons (.var 8) (.cons (.var 9) .nil))) (.call 44 (.cons (.var 8) (.cons (.var 9) .nil))))
    (.cons (.ifs (.or (.bin .ne (.call 43 (.cons (.var 8) (.cons (.var 9) .nil))) (.un .isN (.var 10))) (.bin .ne (.un .isN (.var 11)) (.un .isN (.var 10))))
    (.cons (.ret (.cst (.bl false)))
    .nil)
    .nil)
    (.cons (.ifs (.and (.un .notN (.var 11)) (.or (.bin .ne (.un .len (.var 11)) (.var 10)) (.not (.call 1101 (.cons (.var 8) (.cons (.var 9) (.cons (.var 11) .nil)))))))
    (.cons (.ret (.cst (.bl false)))
    .nil)
    .nil)
    .nil))))
    .nil)))))))
    (.cons (.asg 2 (.tup (.cons (.cst (.int 3)) (.cons (.cst (.str [115, 97, 109, 101])) (.cons (.cst (.str [115, 97, 109, 101])) (.cons (.cst (.int 2)) (.cons (.cst (.int 0)) (.cons (.cst (.str [101, 105, 116, 104, 101, 114])) (.cons (.cst (.str [115, 116, 97, 121, 115])) (.cons (.cst (.bl false)) (.cons (.cst (.bl true)) .nil)))))))))))
    (.cons (.ifs (.bin .ne (.lc false (.nm 12) (.bin .idx (.var 12) (.cst (.int 4))) (.seq (.call 45 (.cons (.var 2) .nil))) (.cst (.bl true))) (.lst (.cons (.cst (.int 3)) (.cons (.cst (.int 4)) (.cons (.cst (.int 5)) (.cons (.cst (.int 6)) (.cons (.cst (.int 7)) (.cons (.cst (.int 8)) .nil))))))))
    (.cons (.ret (.cst (.bl false)))
    .nil)
    .nil)
    (.cons (.ret (.bin .eq (.un .len (.call 44 (.cons (.var 2) (.cons (.bin .add (.slc (.var 2) .no (.cst (.int 8))) (.tup (.cons (.cst (.bl false)) .nil))) .nil)))) (.cst (.int 4))))
    .nil))))⟩
def top (i : Nat) : Stmt := PySem.Challenge.pw_coveranew_k08_rules_alike_and_parted.main.body.getD i (.Pass ⟨0, 0, 0, 0⟩)
def mkDf (i : Nat) (N ps : List Str) : Df := ⟨defName (top i), defArgs (top i), defBody (top i), defScope (top i), N, ps⟩
def tab : List (Nat × FDef) := [(0, p_values_of), (1, p_two_of), (2, p_is_same), (3, p_is_rule), (6, p_need_rule), (8, p_with_part), (9, p_rules_near), (11, p_near), (12, p_begin), (13, p_changed), (14, p_is_covered), (15, p_moved), (16, p_day_older), (17, p_claimed), (18, p_bodied), (19, p_a_day_later), (20, p_step), (42, p_parted), (43, p_alike), (44, p_parting), (45, p_like_rules), (1000, l_law_sack), (1001, l_law_grab), (1002, l_law_one_of), (1003, l_law_values), (1004, l_law_rule), (1005, l_law_events), (1020, l_law_new), (1021, l_law_holds), (1022, l_law_longer), (1023, l_law_out), (1024, l_law_claim), (1025, l_law_body), (1026, l_law_older), (1027, l_law_on), (1100, l_law_fewest), (1101, l_law_parts), (1999, l_law)]
def T (f : Nat) : FDef := (tab.lookup f).getD ⟨0, 0, .nil⟩
def d_p_values_of : Df := mkDf 6 [("part" : Str), ("numbers" : Str), ("words" : Str), ("low" : Str), ("high" : Str)] [("part" : Str)]
def d_p_two_of : Df := mkDf 7 [("part" : Str)] [("part" : Str)]
def d_p_is_same : Df := mkDf 8 [("one" : Str), ("other" : Str)] [("one" : Str), ("other" : Str)]
def d_p_is_rule : Df := mkDf 9 [("value" : Str), ("part" : Str), ("one" : Str), ("other" : Str)] [("value" : Str)]
def d_p_need_rule : Df := mkDf 10 [("rule" : Str)] [("rule" : Str)]
def d_p_with_part : Df := mkDf 11 [("rule" : Str), ("part" : Str), ("value" : Str), ("at" : Str)] [("rule" : Str), ("part" : Str), ("value" : Str)]
def d_p_rules_near : Df := mkDf 12 [("rule" : Str), ("found" : Str), ("part" : Str), ("old" : Str), ("other" : Str), ("value" : Str)] [("rule" : Str)]
def d_p_near : Df := mkDf 13 [("rule" : Str)] [("rule" : Str)]
def d_p_begin : Df := mkDf 15 [("rule" : Str)] [("rule" : Str)]
def d_p_changed : Df := mkDf 16 [("rule" : Str), ("age" : Str), ("left" : Str), ("word" : Str)] [("rule" : Str), ("age" : Str), ("left" : Str), ("word" : Str)]
def d_p_is_covered : Df := mkDf 17 [("rule" : Str), ("left" : Str), ("part" : Str), ("by_thing" : Str), ("by_own" : Str)] [("rule" : Str), ("left" : Str), ("part" : Str)]
def d_p_moved : Df := mkDf 18 [("rule" : Str), ("part" : Str)] [("rule" : Str), ("part" : Str)]
def d_p_day_older : Df := mkDf 19 [("part" : Str)] [("part" : Str)]
def d_p_claimed : Df := mkDf 20 [("rule" : Str), ("stand" : Str), ("age" : Str), ("left" : Str), ("part" : Str), ("loose" : Str), ("old" : Str)] [("rule" : Str), ("stand" : Str)]
def d_p_bodied : Df := mkDf 21 [("rule" : Str), ("stand" : Str), ("age" : Str), ("left" : Str), ("part" : Str), ("loose" : Str)] [("rule" : Str), ("stand" : Str)]
def d_p_a_day_later : Df := mkDf 22 [("rule" : Str), ("stand" : Str), ("age" : Str), ("left" : Str), ("part" : Str), ("loose" : Str)] [("rule" : Str), ("stand" : Str)]
def d_p_step : Df := mkDf 23 [("rule" : Str), ("stand" : Str), ("event" : Str), ("word" : Str), ("there" : Str), ("age" : Str), ("left" : Str), ("part" : Str), ("loose" : Str)] [("rule" : Str), ("stand" : Str), ("event" : Str)]
def d_p_parted : Df := mkDf 25 [("one" : Str), ("other" : Str), ("first" : Str), ("known" : Str), ("line" : Str), ("later" : Str), ("pair" : Str), ("row" : Str), ("event" : Str), ("both" : Str), ("mine" : Str), ("yours" : Str)] [("one" : Str), ("other" : Str)]
def d_p_alike : Df := mkDf 26 [("one" : Str), ("other" : Str)] [("one" : Str), ("other" : Str)]
def d_p_parting : Df := mkDf 27 [("one" : Str), ("other" : Str)] [("one" : Str), ("other" : Str)]
def d_p_like_rules : Df := mkDf 28 [("rule" : Str), ("other" : Str)] [("rule" : Str)]
def d_l_law_sack : Df := mkDf 30 [("_law_cell" : Str), ("_law_salt" : Str), ("_law_great" : Str)] [("_law_cell" : Str), ("_law_salt" : Str)]
def d_l_law_grab : Df := mkDf 31 [("_law_sack_here" : Str), ("_law_many" : Str), ("_law_deep" : Str), ("_law_found" : Str)] [("_law_sack_here" : Str), ("_law_many" : Str)]
def d_l_law_one_of : Df := mkDf 32 [("_law_sack_here" : Str), ("_law_things" : Str)] [("_law_sack_here" : Str), ("_law_things" : Str)]
def d_l_law_values : Df := mkDf 33 [("_law_found" : Str)] []
def d_l_law_rule : Df := mkDf 34 [("_law_sack_here" : Str), ("_law_found" : Str), ("_law_some" : Str)] [("_law_sack_here" : Str)]
def d_l_law_events : Df := mkDf 35 [] []
def d_l_law_new : Df := mkDf 36 [("_law_rule_here" : Str)] [("_law_rule_here" : Str)]
def d_l_law_holds : Df := mkDf 37 [("_law_rule_here" : Str), ("_law_left" : Str), ("_law_part" : Str), ("_law_thing" : Str), ("_law_kind" : Str), ("_law_own" : Str), ("_law_state" : Str)] [("_law_rule_here" : Str), ("_law_left" : Str), ("_law_part" : Str)]
def d_l_law_longer : Df := mkDf 38 [("_law_rule_here" : Str), ("_law_age" : Str), ("_law_left" : Str), ("_law_answer" : Str)] [("_law_rule_here" : Str), ("_law_age" : Str), ("_law_left" : Str), ("_law_answer" : Str)]
def d_l_law_out : Df := mkDf 39 [("_law_rule_here" : Str), ("_law_part" : Str)] [("_law_rule_here" : Str), ("_law_part" : Str)]
def d_l_law_claim : Df := mkDf 40 [("_law_rule_here" : Str), ("_law_stand" : Str), ("_law_age" : Str), ("_law_left" : Str), ("_law_part" : Str), ("_law_loose" : Str)] [("_law_rule_here" : Str), ("_law_stand" : Str)]
def d_l_law_body : Df := mkDf 41 [("_law_rule_here" : Str), ("_law_stand" : Str), ("_law_part" : Str), ("_law_age" : Str), ("_law_left" : Str), ("_law_loose" : Str)] [("_law_rule_here" : Str), ("_law_stand" : Str)]
def d_l_law_older : Df := mkDf 42 [("_law_part" : Str)] [("_law_part" : Str)]
def d_l_law_on : Df := mkDf 43 [("_law_rule_here" : Str), ("_law_stand" : Str), ("_law_event" : Str), ("_law_age" : Str), ("_law_left" : Str), ("_law_part" : Str), ("_law_loose" : Str), ("_law_later" : Str), ("_law_there" : Str)] [("_law_rule_here" : Str), ("_law_stand" : Str), ("_law_event" : Str)]
def d_l_law_fewest : Df := mkDf 44 [("_law_one" : Str), ("_law_other" : Str), ("_law_met" : Str), ("_law_line" : Str), ("_law_many" : Str), ("_law_later" : Str), ("_law_mine" : Str), ("_law_yours" : Str), ("_law_event" : Str), ("_law_both" : Str), ("_law_here" : Str), ("_law_there" : Str)] [("_law_one" : Str), ("_law_other" : Str)]
def d_l_law_parts : Df := mkDf 45 [("_law_one" : Str), ("_law_other" : Str), ("_law_row" : Str), ("_law_event" : Str), ("_law_mine" : Str), ("_law_yours" : Str), ("_law_words" : Str), ("_law_here" : Str), ("_law_there" : Str)] [("_law_one" : Str), ("_law_other" : Str), ("_law_row" : Str)]
def d_l_law : Df := mkDf 46 [("_law_script" : Str), ("_law_cell" : Str), ("_law_rule_here" : Str), ("_law_sack_here" : Str), ("_law_one" : Str), ("_law_some" : Str), ("_law_still" : Str), ("_law_pairs" : Str), ("_law_mine" : Str), ("_law_yours" : Str), ("_law_many" : Str), ("_law_found" : Str), ("_law_other" : Str)] [("_law_script" : Str)]
def dtab : List (Nat × Df) := [(0, d_p_values_of), (1, d_p_two_of), (2, d_p_is_same), (3, d_p_is_rule), (6, d_p_need_rule), (8, d_p_with_part), (9, d_p_rules_near), (11, d_p_near), (12, d_p_begin), (13, d_p_changed), (14, d_p_is_covered), (15, d_p_moved), (16, d_p_day_older), (17, d_p_claimed), (18, d_p_bodied), (19, d_p_a_day_later), (20, d_p_step), (42, d_p_parted), (43, d_p_alike), (44, d_p_parting), (45, d_p_like_rules), (1000, d_l_law_sack), (1001, d_l_law_grab), (1002, d_l_law_one_of), (1003, d_l_law_values), (1004, d_l_law_rule), (1005, d_l_law_events), (1020, d_l_law_new), (1021, d_l_law_holds), (1022, d_l_law_longer), (1023, d_l_law_out), (1024, d_l_law_claim), (1025, d_l_law_body), (1026, d_l_law_older), (1027, d_l_law_on), (1100, d_l_law_fewest), (1101, d_l_law_parts), (1999, d_l_law)]
def df (f : Nat) : Df := (dtab.lookup f).getD ⟨Str.empty, ⟨[], [], none, [], [], none, []⟩, [], ⟨.function, [], false, false, []⟩, [], []⟩
def ids : List Nat := [0, 1, 2, 3, 6, 8, 9, 11, 12, 13, 14, 15, 16, 17, 18, 19, 20, 42, 43, 44, 45, 1000, 1001, 1002, 1003, 1004, 1005, 1020, 1021, 1022, 1023, 1024, 1025, 1026, 1027, 1100, 1101, 1999]
def gtab : List (Nat × Str × D) := [(0, ("PART_NAMES" : Str), (.tup [(.str [99, 111, 118, 101, 114]), (.str [98, 111, 100, 121]), (.str [112, 97, 114, 116]), (.str [111, 119, 110]), (.str [99, 97, 112]), (.str [108, 111, 111, 107, 115]), (.str [109, 111, 118, 101, 100]), (.str [97, 108, 105, 101, 110]), (.str [98, 97, 99, 107])])), (1, ("EVENTS" : Str), (.tup [(.tup [(.str [98, 111, 100, 121])]), (.tup [(.str [98, 114, 101, 97, 107])]), (.tup [(.str [99, 108, 97, 105, 109])]), (.tup [(.str [100, 97, 121])]), (.tup [(.str [102, 101, 116, 99, 104])]), (.tup [(.str [112, 117, 116])])]))]
def gv (i : Nat) : D := ((gtab.lookup i).map (·.2)).getD .non
def gn (i : Nat) : Str := ((gtab.lookup i).map (·.1)).getD Str.empty
def etab : List (Nat × Str) := [(0, ("CoverError" : Str)), (1, ("InvalidRule" : Str))]
def en (i : Nat) : Str := (etab.lookup i).getD Str.empty
def stab : List ((Nat × Nat) × Bool) := [((0, 0), true), ((0, 1), false), ((1, 0), true), ((1, 1), true)]
def sub (x c : Nat) : Option Bool := stab.lookup (x, c)
def md : Md := ⟨T, df, ids, gv, gn, [0, 1], en, [0, 1], [("len" : Str), ("min" : Str), ("max" : Str), ("any" : Str), ("all" : Str), ("isinstance" : Str), ("int" : Str), ("tuple" : Str), ("list" : Str), ("zip" : Str), ("range" : Str), ("enumerate" : Str), ("bool" : Str), ("str" : Str), ("sorted" : Str), ("dict" : Str)], sub⟩
def loose1 : List Str := [("CoverError" : Str), ("InvalidRule" : Str), ("PART_NAMES" : Str), ("EVENTS" : Str), ("values_of" : Str), ("two_of" : Str), ("is_same" : Str), ("is_rule" : Str), ("need_rule" : Str), ("with_part" : Str), ("rules_near" : Str), ("near" : Str), ("begin" : Str), ("changed" : Str), ("is_covered" : Str), ("moved" : Str), ("day_older" : Str), ("claimed" : Str), ("bodied" : Str), ("a_day_later" : Str), ("step" : Str), ("parted" : Str), ("alike" : Str), ("parting" : Str), ("like_rules" : Str), ("_law_sack" : Str), ("_law_grab" : Str), ("_law_one_of" : Str), ("_law_values" : Str), ("_law_rule" : Str), ("_law_events" : Str), ("_law_new" : Str), ("_law_holds" : Str), ("_law_longer" : Str), ("_law_out" : Str), ("_law_claim" : Str), ("_law_body" : Str), ("_law_older" : Str), ("_law_on" : Str), ("_law_fewest" : Str)]
def loose2 : List Str := [("_law_parts" : Str)]
def loose3 : List Str := []
def loose : List Str := loose1 ++ (loose2 ++ loose3)
abbrev R : PySem.W.OpenRow := PySem.W.OpenLaw.row PySem.Challenge.rw_coveranew_k08_rules_alike_and_parted
abbrev hk : PySem.W.Hook := He.hookX 4 md.fa md.fn [] [] md.ex
def ob (s : PySem.W.SharedT) : He.AlX := He.obsX 4 md.fa md.fn [] [] md.ex (HandSHeadRun.getT s)
theorem ob_eq (s : PySem.W.SharedT) : ob s = hk.obs s.abs := He.obsX_eq (HandSHeadRun.getT_eq s)
theorem run (w : World) : HandSHeadRun.RunEq R (PySem.W.view R.prog [46]) hk ob 20000 loose w := by
  intro os
  kernel_rfl
theorem c_p_values_of : chkF md.nm (md.df 0) (md.T 0) = true := by decide +kernel
theorem c_p_two_of : chkF md.nm (md.df 1) (md.T 1) = true := by decide +kernel
theorem c_p_is_same : chkF md.nm (md.df 2) (md.T 2) = true := by decide +kernel
theorem c_p_is_rule : chkF md.nm (md.df 3) (md.T 3) = true := by decide +kernel
theorem c_p_need_rule : chkF md.nm (md.df 6) (md.T 6) = true := by decide +kernel
theorem c_p_with_part : chkF md.nm (md.df 8) (md.T 8) = true := by decide +kernel
theorem c_p_rules_near : chkF md.nm (md.df 9) (md.T 9) = true := by decide +kernel
theorem c_p_near : chkF md.nm (md.df 11) (md.T 11) = true := by decide +kernel
theorem c_p_begin : chkF md.nm (md.df 12) (md.T 12) = true := by decide +kernel
theorem c_p_changed : chkF md.nm (md.df 13) (md.T 13) = true := by decide +kernel
theorem c_p_is_covered : chkF md.nm (md.df 14) (md.T 14) = true := by decide +kernel
theorem c_p_moved : chkF md.nm (md.df 15) (md.T 15) = true := by decide +kernel
theorem c_p_day_older : chkF md.nm (md.df 16) (md.T 16) = true := by decide +kernel
theorem c_p_claimed : chkF md.nm (md.df 17) (md.T 17) = true := by decide +kernel
theorem c_p_bodied : chkF md.nm (md.df 18) (md.T 18) = true := by decide +kernel
theorem c_p_a_day_later : chkF md.nm (md.df 19) (md.T 19) = true := by decide +kernel
theorem c_p_step : chkF md.nm (md.df 20) (md.T 20) = true := by decide +kernel
theorem c_p_parted : chkF md.nm (md.df 42) (md.T 42) = true := by decide +kernel
theorem c_p_alike : chkF md.nm (md.df 43) (md.T 43) = true := by decide +kernel
theorem c_p_parting : chkF md.nm (md.df 44) (md.T 44) = true := by decide +kernel
theorem c_p_like_rules : chkF md.nm (md.df 45) (md.T 45) = true := by decide +kernel
theorem c_l_law_sack : chkF md.nm (md.df 1000) (md.T 1000) = true := by decide +kernel
theorem c_l_law_grab : chkF md.nm (md.df 1001) (md.T 1001) = true := by decide +kernel
theorem c_l_law_one_of : chkF md.nm (md.df 1002) (md.T 1002) = true := by decide +kernel
theorem c_l_law_values : chkF md.nm (md.df 1003) (md.T 1003) = true := by decide +kernel
theorem c_l_law_rule : chkF md.nm (md.df 1004) (md.T 1004) = true := by decide +kernel
theorem c_l_law_events : chkF md.nm (md.df 1005) (md.T 1005) = true := by decide +kernel
theorem c_l_law_new : chkF md.nm (md.df 1020) (md.T 1020) = true := by decide +kernel
theorem c_l_law_holds : chkF md.nm (md.df 1021) (md.T 1021) = true := by decide +kernel
theorem c_l_law_longer : chkF md.nm (md.df 1022) (md.T 1022) = true := by decide +kernel
theorem c_l_law_out : chkF md.nm (md.df 1023) (md.T 1023) = true := by decide +kernel
theorem c_l_law_claim : chkF md.nm (md.df 1024) (md.T 1024) = true := by decide +kernel
theorem c_l_law_body : chkF md.nm (md.df 1025) (md.T 1025) = true := by decide +kernel
theorem c_l_law_older : chkF md.nm (md.df 1026) (md.T 1026) = true := by decide +kernel
theorem c_l_law_on : chkF md.nm (md.df 1027) (md.T 1027) = true := by decide +kernel
theorem c_l_law_fewest : chkF md.nm (md.df 1100) (md.T 1100) = true := by decide +kernel
theorem c_l_law_parts : chkF md.nm (md.df 1101) (md.T 1101) = true := by decide +kernel
theorem c_l_law : chkF md.nm (md.df 1999) (md.T 1999) = true := by decide +kernel
theorem chk : md.ids.all (fun f => chkF md.nm (md.df f) (md.T f)) = true := by
  rw [List.all_eq_true]
  intro f hf
  have hf : f ∈ ids := hf
  simp only [ids, List.mem_cons, List.not_mem_nil, or_false] at hf
  rcases hf with rfl | rfl | rfl | rfl | rfl | rfl | rfl | rfl | rfl | rfl | rfl | rfl | rfl | rfl | rfl | rfl | rfl | rfl | rfl | rfl | rfl | rfl | rfl | rfl | rfl | rfl | rfl | rfl | rfl | rfl | rfl | rfl | rfl | rfl | rfl | rfl | rfl | rfl
  · exact c_p_values_of
  · exact c_p_two_of
  · exact c_p_is_same
  · exact c_p_is_rule
  · exact c_p_need_rule
  · exact c_p_with_part
  · exact c_p_rules_near
  · exact c_p_near
  · exact c_p_begin
  · exact c_p_changed
  · exact c_p_is_covered
  · exact c_p_moved
  · exact c_p_day_older
  · exact c_p_claimed
  · exact c_p_bodied
  · exact c_p_a_day_later
  · exact c_p_step
  · exact c_p_parted
  · exact c_p_alike
  · exact c_p_parting
  · exact c_p_like_rules
  · exact c_l_law_sack
  · exact c_l_law_grab
  · exact c_l_law_one_of
  · exact c_l_law_values
  · exact c_l_law_rule
  · exact c_l_law_events
  · exact c_l_law_new
  · exact c_l_law_holds
  · exact c_l_law_longer
  · exact c_l_law_out
  · exact c_l_law_claim
  · exact c_l_law_body
  · exact c_l_law_older
  · exact c_l_law_on
  · exact c_l_law_fewest
  · exact c_l_law_parts
  · exact c_l_law
theorem b_p_values_of : BindsP d_p_values_of := fun _ _ _ _ _ _ us hl => match us, hl with | [_], _ => rfl
theorem b_p_two_of : BindsP d_p_two_of := fun _ _ _ _ _ _ us hl => match us, hl with | [_], _ => rfl
theorem b_p_is_same : BindsP d_p_is_same := fun _ _ _ _ _ _ us hl => match us, hl with | [_, _], _ => rfl
theorem b_p_is_rule : BindsP d_p_is_rule := fun _ _ _ _ _ _ us hl => match us, hl with | [_], _ => rfl
theorem b_p_need_rule : BindsP d_p_need_rule := fun _ _ _ _ _ _ us hl => match us, hl with | [_], _ => rfl
theorem b_p_with_part : BindsP d_p_with_part := fun _ _ _ _ _ _ us hl => match us, hl with | [_, _, _], _ => rfl
theorem b_p_rules_near : BindsP d_p_rules_near := fun _ _ _ _ _ _ us hl => match us, hl with | [_], _ => rfl
theorem b_p_near : BindsP d_p_near := fun _ _ _ _ _ _ us hl => match us, hl with | [_], _ => rfl
theorem b_p_begin : BindsP d_p_begin := fun _ _ _ _ _ _ us hl => match us, hl with | [_], _ => rfl
theorem b_p_changed : BindsP d_p_changed := fun _ _ _ _ _ _ us hl => match us, hl with | [_, _, _, _], _ => rfl
theorem b_p_is_covered : BindsP d_p_is_covered := fun _ _ _ _ _ _ us hl => match us, hl with | [_, _, _], _ => rfl
theorem b_p_moved : BindsP d_p_moved := fun _ _ _ _ _ _ us hl => match us, hl with | [_, _], _ => rfl
theorem b_p_day_older : BindsP d_p_day_older := fun _ _ _ _ _ _ us hl => match us, hl with | [_], _ => rfl
theorem b_p_claimed : BindsP d_p_claimed := fun _ _ _ _ _ _ us hl => match us, hl with | [_, _], _ => rfl
theorem b_p_bodied : BindsP d_p_bodied := fun _ _ _ _ _ _ us hl => match us, hl with | [_, _], _ => rfl
theorem b_p_a_day_later : BindsP d_p_a_day_later := fun _ _ _ _ _ _ us hl => match us, hl with | [_, _], _ => rfl
theorem b_p_step : BindsP d_p_step := fun _ _ _ _ _ _ us hl => match us, hl with | [_, _, _], _ => rfl
theorem b_p_parted : BindsP d_p_parted := fun _ _ _ _ _ _ us hl => match us, hl with | [_, _], _ => rfl
theorem b_p_alike : BindsP d_p_alike := fun _ _ _ _ _ _ us hl => match us, hl with | [_, _], _ => rfl
theorem b_p_parting : BindsP d_p_parting := fun _ _ _ _ _ _ us hl => match us, hl with | [_, _], _ => rfl
theorem b_p_like_rules : BindsP d_p_like_rules := fun _ _ _ _ _ _ us hl => match us, hl with | [_], _ => rfl
theorem b_l_law_sack : BindsP d_l_law_sack := fun _ _ _ _ _ _ us hl => match us, hl with | [_, _], _ => rfl
theorem b_l_law_grab : BindsP d_l_law_grab := fun _ _ _ _ _ _ us hl => match us, hl with | [_, _], _ => rfl
theorem b_l_law_one_of : BindsP d_l_law_one_of := fun _ _ _ _ _ _ us hl => match us, hl with | [_, _], _ => rfl
theorem b_l_law_values : BindsP d_l_law_values := fun _ _ _ _ _ _ us hl => match us, hl with | [], _ => rfl
theorem b_l_law_rule : BindsP d_l_law_rule := fun _ _ _ _ _ _ us hl => match us, hl with | [_], _ => rfl
theorem b_l_law_events : BindsP d_l_law_events := fun _ _ _ _ _ _ us hl => match us, hl with | [], _ => rfl
theorem b_l_law_new : BindsP d_l_law_new := fun _ _ _ _ _ _ us hl => match us, hl with | [_], _ => rfl
theorem b_l_law_holds : BindsP d_l_law_holds := fun _ _ _ _ _ _ us hl => match us, hl with | [_, _, _], _ => rfl
theorem b_l_law_longer : BindsP d_l_law_longer := fun _ _ _ _ _ _ us hl => match us, hl with | [_, _, _, _], _ => rfl
theorem b_l_law_out : BindsP d_l_law_out := fun _ _ _ _ _ _ us hl => match us, hl with | [_, _], _ => rfl
theorem b_l_law_claim : BindsP d_l_law_claim := fun _ _ _ _ _ _ us hl => match us, hl with | [_, _], _ => rfl
theorem b_l_law_body : BindsP d_l_law_body := fun _ _ _ _ _ _ us hl => match us, hl with | [_, _], _ => rfl
theorem b_l_law_older : BindsP d_l_law_older := fun _ _ _ _ _ _ us hl => match us, hl with | [_], _ => rfl
theorem b_l_law_on : BindsP d_l_law_on := fun _ _ _ _ _ _ us hl => match us, hl with | [_, _, _], _ => rfl
theorem b_l_law_fewest : BindsP d_l_law_fewest := fun _ _ _ _ _ _ us hl => match us, hl with | [_, _], _ => rfl
theorem b_l_law_parts : BindsP d_l_law_parts := fun _ _ _ _ _ _ us hl => match us, hl with | [_, _, _], _ => rfl
theorem b_l_law : BindsP d_l_law := fun _ _ _ _ _ _ us hl => match us, hl with | [_], _ => rfl
theorem binds : BindsAll (md.ids.map md.df) := ⟨b_p_values_of, b_p_two_of, b_p_is_same, b_p_is_rule, b_p_need_rule, b_p_with_part, b_p_rules_near, b_p_near, b_p_begin, b_p_changed, b_p_is_covered, b_p_moved, b_p_day_older, b_p_claimed, b_p_bodied, b_p_a_day_later, b_p_step, b_p_parted, b_p_alike, b_p_parting, b_p_like_rules, b_l_law_sack, b_l_law_grab, b_l_law_one_of, b_l_law_values, b_l_law_rule, b_l_law_events, b_l_law_new, b_l_law_holds, b_l_law_longer, b_l_law_out, b_l_law_claim, b_l_law_body, b_l_law_older, b_l_law_on, b_l_law_fewest, b_l_law_parts, b_l_law, trivial⟩
theorem subs : ∀ x c b, md.sub x c = some b → x ∈ md.eids ∧ c ∈ md.eids := by
  intro x c b h
  have h2 := He.lookup_memK (show stab.lookup (x, c) = some b from h)
  simp only [stab, List.mem_cons, List.not_mem_nil, or_false, Prod.mk.injEq] at h2
  rcases h2 with ⟨⟨rfl, rfl⟩, _⟩ | ⟨⟨rfl, rfl⟩, _⟩ | ⟨⟨rfl, rfl⟩, _⟩ | ⟨⟨rfl, rfl⟩, _⟩ <;> exact ⟨by decide, by decide⟩
end Mp
/-! Pu0: the small language, evaluated by rewriting. -/
namespace Mp
/-! ### pieces that wait for their first part -/
def varE (o : Option (Option D)) (mm : Mm) : Option RE := match o with
  | some (some d) => okE d mm
  | _ => none
def un1 (o : U1) (r : Option RE) : Option RE := bindE r (unS o)
def bin1 (o : B2) (r : Option RE) (f : Mm → Option RE) : Option RE := bindE r fun x mm1 => bindE (f mm1) (binS o x)
def bin2 (o : B2) (x : D) (r : Option RE) : Option RE := bindE r (binS o x)
def mth1 (o : B2) (r : Option RE) (f : Mm → Option RE) : Option RE := bindE r fun x mm1 => if recvOk o x mm1 then bindE (f mm1) (binS o x) else none
def cE {α : Type} (p : Bool) (a b : α) : α := match p with
  | true => a
  | false => b
def andE (r : Option RE) (f : Mm → Option RE) : Option RE := bindE r fun x mm1 => (match x with | .bl true => f mm1 | .bl false => okE (.bl false) mm1 | _ => none)
def orE (r : Option RE) (f : Mm → Option RE) : Option RE := bindE r fun x mm1 => (match x with | .bl true => okE (.bl true) mm1 | .bl false => f mm1 | _ => none)
def notE (r : Option RE) : Option RE := bindE r fun x mm1 => (match x with | .bl b => okE (.bl (!b)) mm1 | _ => none)
def iteE (r : Option RE) (f g : Mm → Option RE) : Option RE := bindE r fun x mm1 => (match x with | .bl true => f mm1 | .bl false => g mm1 | _ => none)
def chn1 (o p : B2) (r : Option RE) (f g : Mm → Option RE) : Option RE := bindE r fun x mm1 => bindE (f mm1) fun y mm2 => bindE (binS o x y mm2) fun z mm3 => (match z with
    | .bl true => bindE (g mm3) (binS p y)
    | .bl false => okE (.bl false) mm3
    | _ => none)
def chn2 (o p : B2) (x : D) (r : Option RE) (g : Mm → Option RE) : Option RE := bindE r fun y mm2 => bindE (binS o x y mm2) fun z mm3 => (match z with
    | .bl true => bindE (g mm3) (binS p y)
    | .bl false => okE (.bl false) mm3
    | _ => none)
def tupE (r : Option RL) : Option RE := match r with
    | some (.ok ds mm1) => if ds.length ≤ szl then okE (.tup ds) mm1 else none
    | some (.ex x mm1) => some (.ex x mm1)
    | none => none
def lstE (r : Option RL) : Option RE := match r with
    | some (.ok ds mm1) => if pureDs ds && decide (ds.length ≤ szl) then okE (.lst ds) mm1 else none
    | some (.ex x mm1) => some (.ex x mm1)
    | none => none
def nlsE (r : Option RL) : Option RE := match r with
    | some (.ok ds mm1) => if pureDs ds && decide (ds.length ≤ szl) then okE (.m mm1.length) (mm1 ++ [.mu (.lst ds)]) else none
    | some (.ex x mm1) => some (.ex x mm1)
    | none => none
def callE (r : Option RL) (cf : List D → Mm → Option FR) : Option RE := match r with
    | some (.ok ds mm1) => callS cf ds mm1
    | some (.ex x mm1) => some (.ex x mm1)
    | none => none
def okL (ds : List D) (mm : Mm) : Option RL := some (.ok ds mm)
def con1 (r : Option RE) (f : Mm → Option RL) : Option RL := match r with
    | some (.ok d mm1) => (match f mm1 with
      | some (.ok ds mm2) => some (.ok (d :: ds) mm2)
      | r => r)
    | some (.ex x mm1) => some (.ex x mm1)
    | none => none
def con2 (d : D) (r : Option RL) : Option RL := match r with
      | some (.ok ds mm2) => some (.ok (d :: ds) mm2)
      | r => r
def slc1 (r : Option RE) (nl nh : Bool) (f g : Mm → Option RE) : Option RE := bindE r fun x mm1 => bindE (f mm1) fun l mm2 => (match partS nl l with
    | none => none
    | some l => bindE (g mm2) fun h mm3 => (match partS nh h with
      | none => none
      | some h => slcS x l h mm3))
def slc2 (x : D) (nl nh : Bool) (r : Option RE) (g : Mm → Option RE) : Option RE := bindE r fun l mm2 => (match partS nl l with
    | none => none
    | some l => bindE (g mm2) fun h mm3 => (match partS nh h with
      | none => none
      | some h => slcS x l h mm3))
def slc3 (x : D) (l : Option Int) (nh : Bool) (r : Option RE) : Option RE := bindE r fun h mm3 => (match partS nh h with
      | none => none
      | some h => slcS x l h mm3)
def nxS (sl : Sl) (mm : Mm) : Option RS := some (.nx sl mm)
def rtS (d : D) (mm : Mm) : Option RS := some (.rt d mm)
def seqS (r : Option RS) (k : Sl → Mm → Option RS) : Option RS := match r with
    | some (.nx sl1 mm1) => k sl1 mm1
    | r => r
def asgS (i : Nat) (sl : Sl) (r : Option RE) : Option RS := match r with
    | some (.ok d mm1) => some (.nx (sl.set i (some d)) mm1)
    | some (.ex x mm1) => some (.ex x sl mm1)
    | none => none
def unpS (is : List Nat) (sl : Sl) (r : Option RE) : Option RS := match r with
    | some (.ok d mm1) => (match bindT (.tp is) d sl with | some sl1 => some (.nx sl1 mm1) | none => none)
    | some (.ex x mm1) => some (.ex x sl mm1)
    | none => none
def par1 (i j : Nat) (sl : Sl) (r : Option RE) (f : Mm → Option RE) : Option RS := match r with
    | some (.ok d mm1) => (match f mm1 with
      | some (.ok e mm2) => some (.nx ((sl.set i (some d)).set j (some e)) mm2)
      | some (.ex x mm1) => some (.ex x sl mm1)
      | none => none)
    | some (.ex x mm1) => some (.ex x sl mm1)
    | none => none
def par2 (i j : Nat) (sl : Sl) (d : D) (r : Option RE) : Option RS := match r with
      | some (.ok e mm2) => some (.nx ((sl.set i (some d)).set j (some e)) mm2)
      | some (.ex x mm1) => some (.ex x sl mm1)
      | none => none
def expS (sl : Sl) (r : Option RE) : Option RS := match r with
    | some (.ok _ mm1) => some (.nx sl mm1)
    | some (.ex x mm1) => some (.ex x sl mm1)
    | none => none
def retS (sl : Sl) (r : Option RE) : Option RS := match r with
    | some (.ok d mm1) => some (.rt d mm1)
    | some (.ex x mm1) => some (.ex x sl mm1)
    | none => none
def ifS (sl : Sl) (r : Option RE) (f g : Mm → Option RS) : Option RS := match r with
    | some (.ok (.bl true) mm1) => f mm1
    | some (.ok (.bl false) mm1) => g mm1
    | some (.ex x mm1) => some (.ex x sl mm1)
    | _ => none
def endF (b : Nat) (r : Option RS) : Option FR := match r with
      | some (.nx _ mm) => finF b .non mm
      | some (.rt d mm) => finF b d mm
      | some (.ex x _ mm) => exF b x mm
      | _ => none
section
variable {gv : Nat → D} {cf : Nat → List D → Mm → Option FR} {sub : Nat → Nat → Option Bool} {sl : Sl} {mm : Mm}
@[simp] theorem e_var {i : Nat} : semE gv cf (.var i) sl mm = varE sl[i]? mm := by simp only [semE]; rfl
@[simp] theorem varE_ok {d : D} : varE (some (some d)) mm = okE d mm := rfl
@[simp] theorem e_cst {d : D} : semE gv cf (.cst d) sl mm = okE d mm := by simp only [semE]
@[simp] theorem e_glb {i : Nat} : semE gv cf (.glb i) sl mm = okE (gv i) mm := by simp only [semE]
@[simp] theorem e_tup {es : Es} : semE gv cf (.tup es) sl mm = tupE (semEs gv cf es sl mm) := by simp only [semE]; rfl
@[simp] theorem e_lst {es : Es} : semE gv cf (.lst es) sl mm = lstE (semEs gv cf es sl mm) := by simp only [semE]; rfl
@[simp] theorem e_nls {es : Es} : semE gv cf (.nls es) sl mm = nlsE (semEs gv cf es sl mm) := by simp only [semE]; rfl
@[simp] theorem e_un {o : U1} {a : E} : semE gv cf (.un o a) sl mm = un1 o (semE gv cf a sl mm) := by simp only [semE]; rfl
@[simp] theorem e_bin {o : B2} {a b : E} : semE gv cf (.bin o a b) sl mm = bin1 o (semE gv cf a sl mm) (semE gv cf b sl) := by simp only [semE]; rfl
@[simp] theorem e_mth {o : B2} {a b : E} : semE gv cf (.mth o a b) sl mm = mth1 o (semE gv cf a sl mm) (semE gv cf b sl) := by simp only [semE]; rfl
@[simp] theorem e_not {a : E} : semE gv cf (.not a) sl mm = notE (semE gv cf a sl mm) := by simp only [semE]; rfl
@[simp] theorem e_and {a b : E} : semE gv cf (.and a b) sl mm = andE (semE gv cf a sl mm) (semE gv cf b sl) := by simp only [semE]; rfl
@[simp] theorem e_or {a b : E} : semE gv cf (.or a b) sl mm = orE (semE gv cf a sl mm) (semE gv cf b sl) := by simp only [semE]; rfl
@[simp] theorem e_ite {c a b : E} : semE gv cf (.ite c a b) sl mm = iteE (semE gv cf c sl mm) (semE gv cf a sl) (semE gv cf b sl) := by simp only [semE]; rfl
@[simp] theorem e_chn {o p : B2} {a b c : E} : semE gv cf (.chn o p a b c) sl mm = chn1 o p (semE gv cf a sl mm) (semE gv cf b sl) (semE gv cf c sl) := by simp only [semE]; rfl
@[simp] theorem e_call {f : Nat} {es : Es} : semE gv cf (.call f es) sl mm = callE (semEs gv cf es sl mm) (cf f) := by simp only [semE]; rfl
@[simp] theorem e_slc {a lo hi : E} : semE gv cf (.slc a lo hi) sl mm = slc1 (semE gv cf a sl mm) (isNo lo) (isNo hi) (semE gv cf lo sl) (semE gv cf hi sl) := by simp only [semE]; rfl
@[simp] theorem e_no : semE gv cf .no sl mm = okE .non mm := by simp only [semE]
@[simp] theorem es_nil : semEs gv cf .nil sl mm = okL [] mm := by simp only [semEs]; rfl
@[simp] theorem es_cons {e : E} {es : Es} : semEs gv cf (.cons e es) sl mm = con1 (semE gv cf e sl mm) (semEs gv cf es sl) := by simp only [semEs]; rfl
@[simp] theorem con1_ok {d : D} {f : Mm → Option RL} : con1 (okE d mm) f = con2 d (f mm) := rfl
@[simp] theorem con2_ok {d : D} {ds : List D} : con2 d (okL ds mm) = okL (d :: ds) mm := rfl
@[simp] theorem un1_ok {o : U1} {d : D} : un1 o (okE d mm) = unS o d mm := rfl
@[simp] theorem bin1_ok {o : B2} {d : D} {f : Mm → Option RE} : bin1 o (okE d mm) f = bin2 o d (f mm) := rfl
@[simp] theorem bin2_ok {o : B2} {d e : D} : bin2 o d (okE e mm) = binS o d e mm := rfl
@[simp] theorem andE_t {f : Mm → Option RE} : andE (okE (.bl true) mm) f = f mm := rfl
@[simp] theorem andE_f {f : Mm → Option RE} : andE (okE (.bl false) mm) f = okE (.bl false) mm := rfl
theorem andE_b {p : Bool} {f : Mm → Option RE} : andE (okE (.bl p) mm) f = cE p (f mm) (okE (.bl false) mm) := by cases p <;> rfl
@[simp] theorem orE_t {f : Mm → Option RE} : orE (okE (.bl true) mm) f = okE (.bl true) mm := rfl
@[simp] theorem orE_f {f : Mm → Option RE} : orE (okE (.bl false) mm) f = f mm := rfl
theorem orE_b {p : Bool} {f : Mm → Option RE} : orE (okE (.bl p) mm) f = cE p (okE (.bl true) mm) (f mm) := by cases p <;> rfl
@[simp] theorem notE_ok {b : Bool} : notE (okE (.bl b) mm) = okE (.bl (!b)) mm := rfl
@[simp] theorem iteE_t {f g : Mm → Option RE} : iteE (okE (.bl true) mm) f g = f mm := rfl
@[simp] theorem iteE_f {f g : Mm → Option RE} : iteE (okE (.bl false) mm) f g = g mm := rfl
theorem iteE_b {p : Bool} {f g : Mm → Option RE} : iteE (okE (.bl p) mm) f g = cE p (f mm) (g mm) := by cases p <;> rfl
@[simp] theorem cE_t {α : Type} {a b : α} : cE true a b = a := rfl
@[simp] theorem cE_f {α : Type} {a b : α} : cE false a b = b := rfl
@[simp] theorem cE_and {p q : Bool} : cE p (okE (.bl q) mm) (okE (.bl false) mm) = okE (.bl (p && q)) mm := by cases p <;> rfl
@[simp] theorem cE_or {p q : Bool} : cE p (okE (.bl true) mm) (okE (.bl q) mm) = okE (.bl (p || q)) mm := by cases p <;> rfl
@[simp] theorem chn1_ok {o p : B2} {d : D} {f g : Mm → Option RE} : chn1 o p (okE d mm) f g = chn2 o p d (f mm) g := rfl
theorem chn2_ok {o p : B2} {d e : D} {g : Mm → Option RE} : chn2 o p d (okE e mm) g = andE (binS o d e mm) (fun mm3 => bin2 p e (g mm3)) := rfl
@[simp] theorem tupE_ok {ds : List D} : tupE (okL ds mm) = if ds.length ≤ 16777216 then okE (.tup ds) mm else none := rfl
@[simp] theorem lstE_ok {ds : List D} : lstE (okL ds mm) = if pureDs ds && decide (ds.length ≤ 16777216) then okE (.lst ds) mm else none := rfl
@[simp] theorem nlsE_ok {ds : List D} : nlsE (okL ds mm) = if pureDs ds && decide (ds.length ≤ 16777216) then okE (.m mm.length) (mm ++ [.mu (.lst ds)]) else none := rfl
@[simp] theorem callE_ok {ds : List D} {g : List D → Mm → Option FR} : callE (okL ds mm) g = callS g ds mm := rfl
@[simp] theorem slc1_ok {x : D} {a b : Bool} {f g : Mm → Option RE} : slc1 (okE x mm) a b f g = slc2 x a b (f mm) g := rfl
@[simp] theorem slc2_no {x d : D} {b : Bool} {g : Mm → Option RE} : slc2 x true b (okE d mm) g = slc3 x none b (g mm) := rfl
@[simp] theorem slc2_int {x : D} {i : Int} {b : Bool} {g : Mm → Option RE} : slc2 x false b (okE (.int i) mm) g = slc3 x (some i) b (g mm) := rfl
@[simp] theorem slc3_no {x d : D} {l : Option Int} : slc3 x l true (okE d mm) = slcS x l none mm := rfl
@[simp] theorem slc3_int {x : D} {i : Int} {l : Option Int} : slc3 x l false (okE (.int i) mm) = slcS x l (some i) mm := rfl
@[simp] theorem b_nilE : semB sub gv cf .nil sl mm = nxS sl mm := by simp only [semB]; rfl
@[simp] theorem b_consE {s : S} {b : B} : semB sub gv cf (.cons s b) sl mm = seqS (semS sub gv cf s sl mm) (semB sub gv cf b) := by simp only [semB]; rfl
@[simp] theorem seqS_nx {k : Sl → Mm → Option RS} : seqS (nxS sl mm) k = k sl mm := rfl
@[simp] theorem seqS_rt {d : D} {k : Sl → Mm → Option RS} : seqS (rtS d mm) k = rtS d mm := rfl
@[simp] theorem seqS_ex {x : Ex} {k : Sl → Mm → Option RS} : seqS (some (.ex x sl mm)) k = some (.ex x sl mm) := rfl
@[simp] theorem seqS_cE {p : Bool} {a b : Option RS} {k : Sl → Mm → Option RS} : seqS (cE p a b) k = cE p (seqS a k) (seqS b k) := by cases p <;> rfl
@[simp] theorem t_asg {i : Nat} {e : E} : semS sub gv cf (.asg i e) sl mm = asgS i sl (semE gv cf e sl mm) := by simp only [semS]; rfl
@[simp] theorem asgS_ok {i : Nat} {d : D} : asgS i sl (okE d mm) = nxS (sl.set i (some d)) mm := rfl
@[simp] theorem asgS_cE {i : Nat} {p : Bool} {a b : Option RE} : asgS i sl (cE p a b) = cE p (asgS i sl a) (asgS i sl b) := by cases p <;> rfl
@[simp] theorem t_unp {is : List Nat} {e : E} : semS sub gv cf (.unp is e) sl mm = unpS is sl (semE gv cf e sl mm) := by simp only [semS]; rfl
@[simp] theorem unpS_ok {is : List Nat} {xs : List D} : unpS is sl (okE (.tup xs) mm) = if xs.length = is.length then nxS ((is.zip xs).foldl (fun sl p => sl.set p.1 (some p.2)) sl) mm else none := by
  by_cases h : xs.length = is.length <;> simp [unpS, okE, bindT, h, nxS]
@[simp] theorem t_par {i j : Nat} {a b : E} : semS sub gv cf (.par i j a b) sl mm = par1 i j sl (semE gv cf a sl mm) (semE gv cf b sl) := by simp only [semS]; rfl
@[simp] theorem par1_ok {i j : Nat} {d : D} {f : Mm → Option RE} : par1 i j sl (okE d mm) f = par2 i j sl d (f mm) := rfl
@[simp] theorem par2_ok {i j : Nat} {d e : D} : par2 i j sl d (okE e mm) = nxS ((sl.set i (some d)).set j (some e)) mm := rfl
@[simp] theorem t_exp {e : E} : semS sub gv cf (.exp e) sl mm = expS sl (semE gv cf e sl mm) := by simp only [semS]; rfl
@[simp] theorem expS_ok {d : D} : expS sl (okE d mm) = nxS sl mm := rfl
@[simp] theorem expS_ex {x : Ex} : expS sl (some (.ex x mm)) = some (.ex x sl mm) := rfl
@[simp] theorem t_ret {e : E} : semS sub gv cf (.ret e) sl mm = retS sl (semE gv cf e sl mm) := by simp only [semS]; rfl
@[simp] theorem retS_ok {d : D} : retS sl (okE d mm) = rtS d mm := rfl
@[simp] theorem retS_cE {p : Bool} {a b : Option RE} : retS sl (cE p a b) = cE p (retS sl a) (retS sl b) := by cases p <;> rfl
@[simp] theorem t_ifs {c : E} {a b : B} : semS sub gv cf (.ifs c a b) sl mm = ifS sl (semE gv cf c sl mm) (semB sub gv cf a sl) (semB sub gv cf b sl) := by
  simp only [semS]; rfl
@[simp] theorem ifS_t {f g : Mm → Option RS} : ifS sl (okE (.bl true) mm) f g = f mm := rfl
@[simp] theorem ifS_f {f g : Mm → Option RS} : ifS sl (okE (.bl false) mm) f g = g mm := rfl
theorem ifS_b {p : Bool} {f g : Mm → Option RS} : ifS sl (okE (.bl p) mm) f g = cE p (f mm) (g mm) := by cases p <;> rfl
@[simp] theorem ifS_cE {p : Bool} {a b : Option RE} {f g : Mm → Option RS} : ifS sl (cE p a b) f g = cE p (ifS sl a f g) (ifS sl b f g) := by cases p <;> rfl
@[simp] theorem t_rse {c : Nat} : semS sub gv cf (.rse c .nil) sl mm = some (.ex ⟨c, []⟩ sl mm) := by simp only [semS, semEs]
@[simp] theorem endF_nx {b : Nat} : endF b (nxS sl mm) = finF b .non mm := rfl
@[simp] theorem endF_rt {b : Nat} {d : D} : endF b (rtS d mm) = finF b d mm := rfl
@[simp] theorem endF_ex {b : Nat} {x : Ex} : endF b (some (.ex x sl mm)) = exF b x mm := rfl
@[simp] theorem endF_cE {b : Nat} {p : Bool} {x y : Option RS} : endF b (cE p x y) = cE p (endF b x) (endF b y) := by cases p <;> rfl
end
theorem callF_succ {sub : Nat → Nat → Option Bool} {T : Nat → FDef} {gv : Nat → D} {n f : Nat} {args : List D} {bs : Mm} : callF sub T gv (n + 1) f args bs =
    if args.length == (T f).np then endF bs.length (semB sub gv (callF sub T gv n) (T f).body (startS (T f).ns args) bs) else none := by
  unfold callF
  rfl
@[simp] theorem pu_non : pureD .non = true := rfl
@[simp] theorem pu_int {i : Int} : pureD (.int i) = true := rfl
@[simp] theorem pu_bl {i : Bool} : pureD (.bl i) = true := rfl
@[simp] theorem pu_str {i : Tx} : pureD (.str i) = true := rfl
@[simp] theorem pu_tup {i : List D} : pureD (.tup i) = pureDs i := by simp only [pureD]
@[simp] theorem pu_lst {i : List D} : pureD (.lst i) = pureDs i := by simp only [pureD]
@[simp] theorem pu_nil : pureDs [] = true := rfl
@[simp] theorem pu_cons {d : D} {i : List D} : pureDs (d :: i) = (pureD d && pureDs i) := by simp only [pureDs]
/-! ### calls by pure values -/
def resP (r : Option FR) (mm : Mm) : Option RE := match r with
  | none => none
  | some (.rt d bs new) => if bs.length = 0 then (match backD [] mm.length d with
        | some d' => some (.ok d' (mm ++ new))
        | none => none) else none
  | some (.ex x bs) => if bs.length = 0 then some (.ex x mm) else none
theorem okArg_pure {d : D} (h : pureD d = true) : okArg d = true := by cases d <;> first | exact h | rfl
theorem all_pure : ∀ {ds : List D}, pureDs ds = true → ds.all okArg = true ∧ lentOf ds = [] ∧ ∀ n, argsOf n ds = ds
  | [], _ => ⟨rfl, rfl, fun _ => rfl⟩
  | d :: ds, h => by
    simp only [pureDs, Bool.and_eq_true] at h
    obtain ⟨a, b, c⟩ := all_pure h.2
    refine ⟨by rw [List.all_cons, okArg_pure h.1, a]; rfl, ?_, fun n => ?_⟩
    · cases d <;> first | exact b | (have := h.1; simp [pureD] at this)
    · cases d <;> first | (show _ :: argsOf n ds = _; rw [c]) | (have := h.1; simp [pureD] at this)
theorem callS_pp {cf : List D → Mm → Option FR} {ds : List D} {mm : Mm} (h : pureDs ds = true) : callS cf ds mm = resP (cf ds []) mm := by
  obtain ⟨a, b, c⟩ := all_pure h
  unfold callS
  rw [a, b, c]
  simp only [List.nodup_nil, decide_true, Bool.and_self, if_true, takeMu, List.length_nil]
  cases cf ds [] with
  | none => rfl
  | some r => cases r <;> simp only [resP, putMu] <;> (try rfl)
def callS2 := callS
@[simp] theorem callS_p {cf : List D → Mm → Option FR} {ds : List D} {mm : Mm} : callS cf ds mm = if pureDs ds = true then resP (cf ds []) mm else callS2 cf ds mm := by
  by_cases h : pureDs ds = true
  · rw [if_pos h]; exact callS_pp h
  · rw [if_neg h]; rfl
def resP2 := resP
@[simp] theorem resP_rt {d : D} {mm : Mm} : resP (some (.rt d [] [])) mm = if pureD d = true then okE d mm else resP2 (some (.rt d [] [])) mm := by
  by_cases h : pureD d = true
  · simp [resP, backD, h, okE]
  · rw [if_neg h]; rfl
@[simp] theorem resP_ex {x : Ex} {mm : Mm} : resP (some (.ex x [])) mm = some (.ex x mm) := rfl
theorem resP_cE {p : Bool} {a b : Option FR} {mm : Mm} : resP (cE p a b) mm = cE p (resP a mm) (resP b mm) := by cases p <;> rfl
def finF2 := finF
@[simp] theorem finF_p {d : D} {mm : Mm} : finF 0 d mm = if pureD d = true then some (.rt d [] []) else finF2 0 d mm := by
  by_cases h : pureD d = true
  · simp [finF, h]
  · rw [if_neg h]; rfl
@[simp] theorem exF_p {x : Ex} {mm : Mm} : exF 0 x mm = some (.ex x []) := by simp [exF]
theorem finF_p2 {d : D} {mm : Mm} (h : pureD d = true) : finF 0 d mm = some (.rt d [] []) := by simp [finF, h]
/-! ### operators by shapes -/
section
variable {mm : Mm}
@[simp] theorem rdv_int {i : Int} : rd mm (.int i) = .int i := rfl
@[simp] theorem rdv_str {s : Tx} : rd mm (.str s) = .str s := rfl
@[simp] theorem rdv_bl {s : Bool} : rd mm (.bl s) = .bl s := rfl
@[simp] theorem rdv_non : rd mm .non = .non := rfl
@[simp] theorem rdv_tup {s : List D} : rd mm (.tup s) = .tup s := rfl
@[simp] theorem rdv_lst {s : List D} : rd mm (.lst s) = .lst s := rfl
@[simp] theorem o_add {i j : Int} : binS .add (.int i) (.int j) mm = okE (.int (i + j)) mm := rfl
@[simp] theorem o_sub {i j : Int} : binS .sub (.int i) (.int j) mm = okE (.int (i - j)) mm := rfl
@[simp] theorem o_min {i j : Int} : binS .min2 (.int i) (.int j) mm = okE (.int (min i j)) mm := by
  simp only [binS]; congr 1; congr 1; omega
@[simp] theorem o_lt {i j : Int} : binS .lt (.int i) (.int j) mm = okE (.bl (decide (i < j))) mm := rfl
@[simp] theorem o_le {i j : Int} : binS .le (.int i) (.int j) mm = okE (.bl (decide (i ≤ j))) mm := rfl
@[simp] theorem o_gt {i j : Int} : binS .gt (.int i) (.int j) mm = okE (.bl (decide (j < i))) mm := rfl
@[simp] theorem o_ge {i j : Int} : binS .ge (.int i) (.int j) mm = okE (.bl (decide (j ≤ i))) mm := rfl
@[simp] theorem o_eqI {i j : Int} : binS .eq (.int i) (.int j) mm = okE (.bl (decide (i = j))) mm := rfl
@[simp] theorem o_eqT {i j : Tx} : binS .eq (.str i) (.str j) mm = okE (.bl (decide (i = j))) mm := rfl
@[simp] theorem o_neT {i j : Tx} : binS .ne (.str i) (.str j) mm = okE (.bl (!decide (i = j))) mm := rfl
@[simp] theorem o_max {i j : Int} : binS .max2 (.int i) (.int j) mm = okE (.int (max i j)) mm := by
  simp only [binS]; congr 1; congr 1; omega
@[simp] theorem u_neg {i : Int} : unS .neg (.int i) mm = okE (.int (-i)) mm := rfl
@[simp] theorem u_int {i : Int} : unS .int (.int i) mm = okE (.int i) mm := rfl
@[simp] theorem u_intB {b : Bool} : unS .int (.bl b) mm = okE (.int (if b = true then 1 else 0)) mm := rfl
@[simp] theorem u_isN0 : unS .isN .non mm = okE (.bl true) mm := rfl
@[simp] theorem u_isNt {xs : List D} : unS .isN (.tup xs) mm = okE (.bl false) mm := rfl
@[simp] theorem u_notN0 : unS .notN .non mm = okE (.bl false) mm := rfl
@[simp] theorem u_notNt {xs : List D} : unS .notN (.tup xs) mm = okE (.bl true) mm := rfl
@[simp] theorem o_mem2 {x y z : Tx} : binS .mem (.str x) (.tup [.str y, .str z]) mm = okE (.bl (decide (x = y) || decide (x = z))) mm := by
  simp [binS, memS, rd, okEq, hgt, hgts, memD, eqD]
  congr 1
  by_cases h : x = y <;> by_cases h2 : x = z <;> simp [h, h2, eq_comm] <;> simp_all [eq_comm]
theorem ix_tup {xs : List D} (k : Nat) {x : D} (h : xs[k]? = some x) : binS .idx (.tup xs) (.int (k : Int)) mm = okE x mm := by
  have hk : k < xs.length := (List.getElem?_eq_some_iff.mp h).1
  have e : atD xs (k : Int) = some x := by
    show (L2.ixN xs.length (k : Int)).bind _ = _
    unfold L2.ixN
    rw [if_pos (by omega), if_pos (by omega)]
    simpa using h
  simp [binS, idxS, rd, e]
theorem ix_lst {xs : List D} (k : Nat) {x : D} (h : xs[k]? = some x) : binS .idx (.lst xs) (.int (k : Int)) mm = okE x mm := by
  have hk : k < xs.length := (List.getElem?_eq_some_iff.mp h).1
  have e : atD xs (k : Int) = some x := by
    show (L2.ixN xs.length (k : Int)).bind _ = _
    unfold L2.ixN
    rw [if_pos (by omega), if_pos (by omega)]
    simpa using h
  simp [binS, idxS, rd, e]
@[simp] theorem o_ix_tup0 {a0 : D} {xs : List D} : binS .idx (.tup (a0 :: xs)) (.int 0) mm = okE a0 mm := ix_tup 0 rfl
@[simp] theorem o_ix_tup1 {a0 a1 : D} {xs : List D} : binS .idx (.tup (a0 :: a1 :: xs)) (.int 1) mm = okE a1 mm := ix_tup 1 rfl
@[simp] theorem o_ix_tup2 {a0 a1 a2 : D} {xs : List D} : binS .idx (.tup (a0 :: a1 :: a2 :: xs)) (.int 2) mm = okE a2 mm := ix_tup 2 rfl
@[simp] theorem o_ix_tup3 {a0 a1 a2 a3 : D} {xs : List D} : binS .idx (.tup (a0 :: a1 :: a2 :: a3 :: xs)) (.int 3) mm = okE a3 mm := ix_tup 3 rfl
@[simp] theorem o_ix_tup4 {a0 a1 a2 a3 a4 : D} {xs : List D} : binS .idx (.tup (a0 :: a1 :: a2 :: a3 :: a4 :: xs)) (.int 4) mm = okE a4 mm := ix_tup 4 rfl
@[simp] theorem o_ix_tup5 {a0 a1 a2 a3 a4 a5 : D} {xs : List D} : binS .idx (.tup (a0 :: a1 :: a2 :: a3 :: a4 :: a5 :: xs)) (.int 5) mm = okE a5 mm := ix_tup 5 rfl
@[simp] theorem o_ix_tup6 {a0 a1 a2 a3 a4 a5 a6 : D} {xs : List D} : binS .idx (.tup (a0 :: a1 :: a2 :: a3 :: a4 :: a5 :: a6 :: xs)) (.int 6) mm = okE a6 mm := ix_tup 6 rfl
@[simp] theorem o_ix_tup7 {a0 a1 a2 a3 a4 a5 a6 a7 : D} {xs : List D} : binS .idx (.tup (a0 :: a1 :: a2 :: a3 :: a4 :: a5 :: a6 :: a7 :: xs)) (.int 7) mm = okE a7 mm := ix_tup 7 rfl
@[simp] theorem o_ix_tup8 {a0 a1 a2 a3 a4 a5 a6 a7 a8 : D} {xs : List D} : binS .idx (.tup (a0 :: a1 :: a2 :: a3 :: a4 :: a5 :: a6 :: a7 :: a8 :: xs)) (.int 8) mm = okE a8 mm := ix_tup 8 rfl
@[simp] theorem o_ix_lst0 {a0 : D} {xs : List D} : binS .idx (.lst (a0 :: xs)) (.int 0) mm = okE a0 mm := ix_lst 0 rfl
@[simp] theorem o_ix_lst1 {a0 a1 : D} {xs : List D} : binS .idx (.lst (a0 :: a1 :: xs)) (.int 1) mm = okE a1 mm := ix_lst 1 rfl
@[simp] theorem o_ix_lst2 {a0 a1 a2 : D} {xs : List D} : binS .idx (.lst (a0 :: a1 :: a2 :: xs)) (.int 2) mm = okE a2 mm := ix_lst 2 rfl
@[simp] theorem o_ix_lst3 {a0 a1 a2 a3 : D} {xs : List D} : binS .idx (.lst (a0 :: a1 :: a2 :: a3 :: xs)) (.int 3) mm = okE a3 mm := ix_lst 3 rfl
@[simp] theorem o_ix_lst4 {a0 a1 a2 a3 a4 : D} {xs : List D} : binS .idx (.lst (a0 :: a1 :: a2 :: a3 :: a4 :: xs)) (.int 4) mm = okE a4 mm := ix_lst 4 rfl
@[simp] theorem o_ix_lst5 {a0 a1 a2 a3 a4 a5 : D} {xs : List D} : binS .idx (.lst (a0 :: a1 :: a2 :: a3 :: a4 :: a5 :: xs)) (.int 5) mm = okE a5 mm := ix_lst 5 rfl
@[simp] theorem o_ix_lst6 {a0 a1 a2 a3 a4 a5 a6 : D} {xs : List D} : binS .idx (.lst (a0 :: a1 :: a2 :: a3 :: a4 :: a5 :: a6 :: xs)) (.int 6) mm = okE a6 mm := ix_lst 6 rfl
@[simp] theorem o_ix_lst7 {a0 a1 a2 a3 a4 a5 a6 a7 : D} {xs : List D} : binS .idx (.lst (a0 :: a1 :: a2 :: a3 :: a4 :: a5 :: a6 :: a7 :: xs)) (.int 7) mm = okE a7 mm := ix_lst 7 rfl
@[simp] theorem o_ix_lst8 {a0 a1 a2 a3 a4 a5 a6 a7 a8 : D} {xs : List D} : binS .idx (.lst (a0 :: a1 :: a2 :: a3 :: a4 :: a5 :: a6 :: a7 :: a8 :: xs)) (.int 8) mm = okE a8 mm := ix_lst 8 rfl
end
end Mp
/-! Pu1: loops, lent objects, texts, over Pu0 (for all laws). -/
namespace Mp
/-! ### loops -/
def seqI (r : Option RE) : Option RI := match bindE r frzS with
    | some (.ok d mm1) => (match listItems d with | some xs => some (.ok xs mm1) | none => none)
    | some (.ex x mm1) => some (.ex x mm1)
    | none => none
def okI2 (xs : List D) (mm : Mm) : Option RI := some (.ok xs mm)
def forI (tg : Tg) (body : Sl → Mm → Option RS) (r : Option RI) (sl : Sl) : Option RS := match r with
    | some (.ok xs mm1) => forS tg body xs sl mm1
    | some (.ex x mm1) => some (.ex x sl mm1)
    | none => none
def nextF (r : Option RS) (k : Sl → Mm → Option RS) : Option RS := match r with
      | some (.nx sl2 mm2) => k sl2 mm2
      | some (.ct sl2 mm2) => k sl2 mm2
      | some (.bk sl2 mm2) => some (.nx sl2 mm2)
      | r => r
def lcI (mu : Bool) (tg : Tg) (cnd elt : Sl → Mm → Option RE) (sl : Sl) (r : Option RI) : Option RE := match r with
    | some (.ok xs mm1) => bindE (lcS tg cnd elt sl xs [] mm1) fun d mm2 => if mu then okE (.m mm2.length) (mm2 ++ [.mu d]) else okE d mm2
    | some (.ex x mm1) => some (.ex x mm1)
    | none => none
def zip1 (r : Option RE) (f : Mm → Option RE) : Option RI := match bindE r frzS with
    | some (.ok d mm1) => (match bindE (f mm1) frzS with
      | some (.ok e mm2) => (match d, e with | .tup xs, .tup ys => some (.ok (zipD xs ys) mm2) | .lst xs, .lst ys => some (.ok (zipD xs ys) mm2) | .tup xs, .lst ys => some (.ok (zipD xs ys) mm2) | _, _ => none)
      | some (.ex x mm1) => some (.ex x mm1)
      | none => none)
    | some (.ex x mm1) => some (.ex x mm1)
    | none => none
def rng1 (r : Option RE) : Option RI := match r with
    | some (.ok (.int n) mm1) => if small64 (4 * n) then some (.ok (rngL 0 n.toNat) mm1) else none
    | some (.ex x mm1) => some (.ex x mm1)
    | _ => none
section
variable {gv : Nat → D} {cf : Nat → List D → Mm → Option FR} {sub : Nat → Nat → Option Bool} {sl : Sl} {mm : Mm} {tg : Tg}
@[simp] theorem i_seqE {a : E} : semI gv cf (.seq a) sl mm = seqI (semE gv cf a sl mm) := by simp only [semI]; rfl
@[simp] theorem i_rngE {a : E} : semI gv cf (.rng a) sl mm = rng1 (semE gv cf a sl mm) := by simp only [semI]; rfl
@[simp] theorem i_zipE {a b : E} : semI gv cf (.zip a b) sl mm = zip1 (semE gv cf a sl mm) (semE gv cf b sl) := by simp only [semI]; rfl
@[simp] theorem seqI_tup {xs : List D} : seqI (okE (.tup xs) mm) = okI2 xs mm := rfl
@[simp] theorem seqI_lst {xs : List D} : seqI (okE (.lst xs) mm) = okI2 xs mm := rfl
@[simp] theorem rng1_ok {i : Int} : rng1 (okE (.int i) mm) = if small64 (4 * i) = true then okI2 (rngL 0 i.toNat) mm else none := rfl
@[simp] theorem zip1_tup {xs ys : List D} {f : Mm → Option RE} (h : f mm = okE (.tup ys) mm) : zip1 (okE (.tup xs) mm) f = okI2 (zipD xs ys) mm := by
  simp only [zip1, bindE, okE, frzS] at h ⊢
  rw [h]; rfl
@[simp] theorem t_for {it : It} {b : B} : semS sub gv cf (.for tg it b) sl mm = forI tg (semB sub gv cf b) (semI gv cf it sl mm) sl := by simp only [semS]; rfl
@[simp] theorem forI_ok {xs : List D} {body : Sl → Mm → Option RS} : forI tg body (okI2 xs mm) sl = forS tg body xs sl mm := rfl
@[simp] theorem forS_nil {body : Sl → Mm → Option RS} : forS tg body [] sl mm = nxS sl mm := rfl
theorem forS_cons {x : D} {xs : List D} {body : Sl → Mm → Option RS} : forS tg body (x :: xs) sl mm = (match bindT tg x sl with
    | none => none
    | some sl1 => nextF (body sl1 mm) (forS tg body xs)) := by
  simp only [forS]; cases bindT tg x sl <;> rfl
@[simp] theorem nextF_nx {k : Sl → Mm → Option RS} : nextF (nxS sl mm) k = k sl mm := rfl
@[simp] theorem nextF_rt {d : D} {k : Sl → Mm → Option RS} : nextF (rtS d mm) k = rtS d mm := rfl
@[simp] theorem e_lc {mu : Bool} {elt cnd : E} {it : It} : semE gv cf (.lc mu tg elt it cnd) sl mm = lcI mu tg (semE gv cf cnd) (semE gv cf elt) sl (semI gv cf it sl mm) := by simp only [semE]; rfl
@[simp] theorem lcI_ok {cnd elt : Sl → Mm → Option RE} {xs : List D} {mu : Bool} : lcI mu tg cnd elt sl (okI2 xs mm) = bindE (lcS tg cnd elt sl xs [] mm) fun d mm2 => if mu then okE (.m mm2.length) (mm2 ++ [.mu d]) else okE d mm2 := rfl
@[simp] theorem mth1_ok {o : B2} {d : D} {f : Mm → Option RE} : mth1 o (okE d mm) f = if recvOk o d mm = true then bin2 o d (f mm) else none := rfl
theorem lcS_cons {cnd elt : Sl → Mm → Option RE} {x : D} {xs acc : List D} {sl' : Sl} {mm1 mm2 : Mm} {d : D} (h1 : bindT tg x (wipeS sl (tgIx tg)) = some sl') (h2 : cnd sl' mm = okE (.bl true) mm1) (h3 : elt sl' mm1 = okE d mm2) (h4 : pureD d = true) (h5 : acc.length < 16777216) :
    lcS tg cnd elt sl (x :: xs) acc mm = lcS tg cnd elt sl xs (acc ++ [d]) mm2 := by
  simp only [okE] at h2 h3
  simp [lcS, h1, h2, h3, h4, szl, h5]
theorem lcS_map {α : Type} {cnd elt : Sl → Mm → Option RE} (f g : α → D) : ∀ (xs : List α) (acc : List D), (∀ x ∈ xs, ∃ sl', bindT tg (f x) (wipeS sl (tgIx tg)) = some sl' ∧ cnd sl' mm = okE (.bl true) mm ∧ elt sl' mm = okE (g x) mm ∧ pureD (g x) = true) →
    acc.length + xs.length ≤ 16777216 → lcS tg cnd elt sl (xs.map f) acc mm = okE (.lst (acc ++ xs.map g)) mm
  | [], acc, _, _ => by simp [lcS]
  | x :: xs, acc, h, hl => by
    obtain ⟨sl', h1, h2, h3, h4⟩ := h x (by simp)
    simp only [List.length_cons] at hl
    rw [List.map_cons, lcS_cons h1 h2 h3 h4 (by omega), lcS_map f g xs _ (fun y hy => h y (by simp [hy])) (by simp; omega)]
    simp
end
theorem splitT_spl {a b : Tx} (hb : b ≠ []) (hk : b.all (· < 256) = true) : splitT a b = TL.spl b 0 [] a := by
  unfold splitT
  rw [show PySem.Txt.split (toS a) (toS b) = (TL.spl b 0 [] a).map SX.S from SX.split_S hb hk, List.map_map]
  exact List.map_id _
abbrev tAnew : Tx := [97, 110, 101, 119]
abbrev tNew : Tx := [110, 101, 119]
abbrev tLonger : Tx := [108, 111, 110, 103, 101, 114]
abbrev tSame : Tx := [115, 97, 109, 101]
abbrev tFirst : Tx := [102, 105, 114, 115, 116]
abbrev tGood : Tx := [103, 111, 111, 100]
abbrev tAlien : Tx := [97, 108, 105, 101, 110]
abbrev tCame : Tx := [99, 97, 109, 101]
abbrev tEither : Tx := [101, 105, 116, 104, 101, 114]
abbrev tThing : Tx := [116, 104, 105, 110, 103]
abbrev tStays : Tx := [115, 116, 97, 121, 115]
abbrev tEnds : Tx := [101, 110, 100, 115]
abbrev tNothing : Tx := [110, 111, 116, 104, 105, 110, 103]
abbrev tRefused : Tx := [114, 101, 102, 117, 115, 101, 100]
abbrev tPaid : Tx := [112, 97, 105, 100]
abbrev tBroken : Tx := [98, 114, 111, 107, 101, 110]
abbrev tDone : Tx := [100, 111, 110, 101]
abbrev tBody : Tx := [98, 111, 100, 121]
abbrev tClaim : Tx := [99, 108, 97, 105, 109]
abbrev tBreak : Tx := [98, 114, 101, 97, 107]
abbrev tDay : Tx := [100, 97, 121]
abbrev tFetch : Tx := [102, 101, 116, 99, 104]
abbrev tPut : Tx := [112, 117, 116]
@[simp] theorem pu_m {k : Nat} : pureD (.m k) = false := rfl
@[simp] theorem isNo_no : isNo .no = true := rfl
@[simp] theorem isNo_cst {d : D} : isNo (.cst d) = false := rfl
@[simp] theorem isNo_var {d : Nat} : isNo (.var d) = false := rfl
@[simp] theorem isNo_bin {o : B2} {a b : E} : isNo (.bin o a b) = false := rfl
theorem allBl_rep {α : Type} : ∀ xs : List α, allBl (xs.map fun _ => D.bl true) = some (xs.map fun _ => true)
  | [] => rfl
  | _ :: xs => by simp only [List.map_cons, allBl, allBl_rep xs, Option.map_some]
section
variable {mm : Mm}
@[simp] theorem u_isTup {xs : List D} : unS (.isi .tuple) (.tup xs) mm = okE (.bl true) mm := rfl
@[simp] theorem u_lenT {xs : List D} : unS .len (.tup xs) mm = okE (.int xs.length) mm := rfl
@[simp] theorem u_lenL {xs : List D} : unS .len (.lst xs) mm = okE (.int xs.length) mm := rfl
@[simp] theorem bindE_ok {d : D} {f : D → Mm → Option RE} : bindE (okE d mm) f = f d mm := rfl
end
/-! ### stores, lent objects -/
def sto3 (o : Option M) (k : Nat) (j : Int) (d : D) (sl : Sl) (mm : Mm) : Option RS := match o with
          | some (.mu (.lst xs)) => (match ixP xs.length j with
            | some p => if pureD d then some (.nx sl (mm.set k (.mu (.lst (xs.set p d))))) else none
            | none => none)
          | _ => none
def sto2 (o : Option (Option D)) (d : D) (sl : Sl) (r : Option RE) : Option RS := match o with
      | some (some (.m k)) => (match r with
        | some (.ok (.int j) mm2) => sto3 mm2[k]? k j d sl mm2
        | some (.ex x mm1) => some (.ex x sl mm1)
        | _ => none)
      | _ => none
def sto1 (i : Nat) (sl : Sl) (r : Option RE) (f : Mm → Option RE) : Option RS := match r with
    | some (.ok d mm1) => sto2 sl[i]? d sl (f mm1)
    | some (.ex x mm1) => some (.ex x sl mm1)
    | none => none
section
variable {gv : Nat → D} {cf : Nat → List D → Mm → Option FR} {sub : Nat → Nat → Option Bool} {sl : Sl} {mm : Mm}
@[simp] theorem t_sto {i : Nat} {ix e : E} : semS sub gv cf (.sto i ix e) sl mm = sto1 i sl (semE gv cf e sl mm) (semE gv cf ix sl) := by simp only [semS]; rfl
@[simp] theorem sto1_ok {i : Nat} {d : D} {f : Mm → Option RE} : sto1 i sl (okE d mm) f = sto2 sl[i]? d sl (f mm) := rfl
@[simp] theorem sto2_ok {k : Nat} {d : D} {j : Int} : sto2 (some (some (.m k))) d sl (okE (.int j) mm) = sto3 mm[k]? k j d sl mm := rfl
end
theorem lent_pure {d : D} (h : pureD d = true) (ds : List D) : lentOf (d :: ds) = lentOf ds ∧ ∀ n, argsOf n (d :: ds) = d :: argsOf n ds := by
  cases d <;> first | exact ⟨rfl, fun _ => rfl⟩ | cases h
theorem callS_m2 {cf : List D → Mm → Option FR} {k : Nat} {d v c c' : D} {mm : Mm} (hk : mm[k]? = some (.mu c)) (hd : pureD d = true) (hv : pureD v = true) (h : cf [.m 0, d] [.mu c] = some (.rt v [.mu c'] [])) : callS cf [.m k, d] mm = okE v (mm.set k (.mu c')) := by
  obtain ⟨l1, l2⟩ := lent_pure hd []
  have a1 : lentOf [.m k, d] = [k] := by show k :: lentOf [d] = _; rw [l1]; rfl
  have a2 : argsOf 0 [.m k, d] = [.m 0, d] := by show .m 0 :: argsOf 1 [d] = _; rw [l2]; rfl
  have a3 : [D.m k, d].all okArg = true := by
    show (true && (okArg d && true)) = true
    rw [okArg_pure hd]; rfl
  simp [callS, a1, a2, a3, takeMu, hk, h, backD, hv, putMu, okE]
theorem callS_m1 {cf : List D → Mm → Option FR} {k : Nat} {v c c' : D} {mm : Mm} (hk : mm[k]? = some (.mu c)) (hv : pureD v = true) (h : cf [.m 0] [.mu c] = some (.rt v [.mu c'] [])) : callS cf [.m k] mm = okE v (mm.set k (.mu c')) := by
  have a3 : [D.m k].all okArg = true := rfl
  simp [callS, lentOf, argsOf, a3, takeMu, hk, h, backD, hv, putMu, okE]
/-! ### the sack -/
abbrev sk (g s : Int) : D := .lst [.int g, .int s]
def SkOk (s : Int) : Prop := 0 ≤ s ∧ s < 2147483648
section
variable {mm : Mm}
theorem o_mul1 {i j : Int} (h : small64 j = true) : binS .mul (.int i) (.int j) mm = okE (.int (i * j)) mm := by simp [binS, rd, h]
theorem o_mul2 {i j : Int} (h : small64 i = true) : binS .mul (.int i) (.int j) mm = okE (.int (i * j)) mm := by simp [binS, rd, h]
theorem o_fdiv {i j : Int} (h : 0 < j) (h2 : j < 1073741824) : binS .fdiv (.int i) (.int j) mm = okE (.int (i / j)) mm := by simp [binS, h, h2]
theorem o_mod {i j : Int} (h : 0 < j) : binS .mod (.int i) (.int j) mm = okE (.int (i % j)) mm := by simp [binS, h]
end
inductive AllP {α : Type} (P : α → D → Prop) : List α → List D → Prop
  | nil : AllP P [] []
  | cons {x : α} {d : D} {xs : List α} {ds : List D} : P x d → AllP P xs ds → AllP P (x :: xs) (d :: ds)
theorem AllP.len {α : Type} {P : α → D → Prop} {xs : List α} {ds : List D} (h : AllP P xs ds) : ds.length = xs.length := by
  induction h with
  | nil => rfl
  | cons _ _ ih => simp [ih]
theorem AllP.cons_inv {α : Type} {P : α → D → Prop} {x : α} {xs : List α} {ds : List D} (h : AllP P (x :: xs) ds) : ∃ d es, ds = d :: es ∧ P x d ∧ AllP P xs es := by
  cases h with
  | cons a b => exact ⟨_, _, rfl, a, b⟩
theorem AllP.nil_inv {α : Type} {P : α → D → Prop} {ds : List D} (h : AllP P [] ds) : ds = [] := by
  cases h; rfl
/-- a comprehension that takes from the sack -/
theorem lcS_sack {α : Type} {tg : Tg} {cnd elt : Sl → Mm → Option RE} {sl : Sl} (f : α → D) (P : α → D → Prop) : ∀ (xs : List α) (acc : List D) (g s : Int), SkOk s →
    (∀ x ∈ xs, ∀ g s, SkOk s → ∃ sl' d g' s', bindT tg (f x) (wipeS sl (tgIx tg)) = some sl' ∧ cnd sl' [.mu (sk g s)] = okE (.bl true) [.mu (sk g s)] ∧ elt sl' [.mu (sk g s)] = okE d [.mu (sk g' s')] ∧ SkOk s' ∧ pureD d = true ∧ P x d) → acc.length + xs.length ≤ 16777216 →
    ∃ ds g' s', lcS tg cnd elt sl (xs.map f) acc [.mu (sk g s)] = okE (.lst (acc ++ ds)) [.mu (sk g' s')] ∧ SkOk s' ∧ AllP P xs ds ∧ pureDs ds = true
  | [], acc, g, s, hs, _, _ => ⟨[], g, s, by simp [lcS], hs, .nil, rfl⟩
  | x :: xs, acc, g, s, hs, h, hl => by
    obtain ⟨sl', d, g1, s1, h1, h2, h3, hs1, hp, hP⟩ := h x (by simp) g s hs
    simp only [List.length_cons] at hl
    obtain ⟨ds, g2, s2, e, hs2, hA, hD⟩ := lcS_sack f P xs (acc ++ [d]) g1 s1 hs1 (fun y hy => h y (by simp [hy])) (by simp; omega)
    refine ⟨d :: ds, g2, s2, ?_, hs2, .cons hP hA, by simp [hp, hD]⟩
    rw [List.map_cons, lcS_cons h1 h2 h3 hp (by omega), e]
    simp
@[simp] theorem e_call0 {gv : Nat → D} {cf : Nat → List D → Mm → Option FR} {sl : Sl} {mm : Mm} {f : Nat} : semE gv cf (.call0 f) sl mm = (match callS (cf f) [] mm with | some (.ok d mm1) => some (.ok d mm1) | _ => none) := by first | (simp only [semE]; done) | (simp only [semE]; rfl)
theorem forS_inv {tg : Tg} {body : Sl → Mm → Option RS} (I : Sl → Mm → Prop) : ∀ (xs : List D) (sl : Sl) (mm : Mm), I sl mm →
    (∀ x ∈ xs, ∀ sl mm, I sl mm → ∃ sl1, bindT tg x sl = some sl1 ∧ ∃ sl2 mm2, body sl1 mm = nxS sl2 mm2 ∧ I sl2 mm2) → ∃ sl' mm', forS tg body xs sl mm = nxS sl' mm' ∧ I sl' mm'
  | [], sl, mm, h, _ => ⟨sl, mm, rfl, h⟩
  | x :: xs, sl, mm, h, st => by
    obtain ⟨sl1, h1, sl2, mm2, h2, h3⟩ := st x (by simp) sl mm h
    obtain ⟨sl', mm', e, k⟩ := forS_inv I xs sl2 mm2 h3 fun y hy => st y (by simp [hy])
    refine ⟨sl', mm', ?_, k⟩
    rw [forS_cons, h1]
    show nextF (body sl1 mm) _ = _
    rw [h2, nextF_nx, e]
def tryS (sub : Nat → Nat → Option Bool) (hs : Hs) (r : Option RS) : Option RS := match r with
    | some (.ex x sl1 mm1) => (match hsS sub hs x with
      | none => none
      | some (some d) => some (.rt d mm1)
      | some none => some (.ex x sl1 mm1))
    | r => r
@[simp] theorem t_try {sub : Nat → Nat → Option Bool} {gv : Nat → D} {cf : Nat → List D → Mm → Option FR} {sl : Sl} {mm : Mm} {b : B} {hs : Hs} : semS sub gv cf (.try b hs) sl mm = tryS sub hs (semB sub gv cf b sl mm) := by simp only [semS]; rfl
/-- a value with an object of its own comes back -/
theorem resP_tm {x : D} {mm : Mm} {o : M} (h : pureD x = true) : resP (some (.rt (.tup [x, .m 0]) [] [o])) mm = okE (.tup [x, .m mm.length]) (mm ++ [o]) := by
  simp [resP, backD, pureD, pureDs, h, okE, backM]
theorem resP_m {mm : Mm} {o : M} : resP (some (.rt (.m 0) [] [o])) mm = okE (.m mm.length) (mm ++ [o]) := by
  simp [resP, backD, pureD, okE, backM]
end Mp
/-! Pv: what holds behind a piece of the small language (weakest preconditions), over Pu1. -/
namespace Mp
def WO (r : Option RE) (Q : D → Mm → Prop) : Prop := ∃ d m, r = some (.ok d m) ∧ Q d m
def WL (r : Option RL) (Q : List D → Mm → Prop) : Prop := ∃ ds m, r = some (.ok ds m) ∧ Q ds m
def WI (r : Option RI) (Q : List D → Mm → Prop) : Prop := ∃ ds m, r = some (.ok ds m) ∧ Q ds m
def WS (r : Option RS) (Q : RS → Prop) : Prop := ∃ x, r = some x ∧ Q x
/-- what a call gives: a value, the lent objects behind it, new objects -/
def WF (r : Option FR) (Q : D → Mm → Mm → Prop) : Prop := ∃ d bs new, r = some (.rt d bs new) ∧ Q d bs new
theorem WO.mono {r : Option RE} {Q Q' : D → Mm → Prop} (h : WO r Q) (f : ∀ d m, Q d m → Q' d m) : WO r Q' := by
  obtain ⟨d, m, e, q⟩ := h; exact ⟨d, m, e, f _ _ q⟩
theorem WS.mono {r : Option RS} {Q Q' : RS → Prop} (h : WS r Q) (f : ∀ x, Q x → Q' x) : WS r Q' := by
  obtain ⟨x, e, q⟩ := h; exact ⟨x, e, f _ q⟩
theorem WF.mono {r : Option FR} {Q Q' : D → Mm → Mm → Prop} (h : WF r Q) (f : ∀ d m k, Q d m k → Q' d m k) : WF r Q' := by
  obtain ⟨d, m, k, e, q⟩ := h; exact ⟨d, m, k, e, f _ _ _ q⟩
theorem WO.of {d : D} {mm : Mm} {r : Option RE} {Q : D → Mm → Prop} (e : r = okE d mm) (q : Q d mm) : WO r Q := ⟨d, mm, e, q⟩
section
variable {gv : Nat → D} {cf : Nat → List D → Mm → Option FR} {sub : Nat → Nat → Option Bool} {sl : Sl} {mm : Mm} {Q : D → Mm → Prop} {QL : List D → Mm → Prop} {QS : RS → Prop}
theorem we_var {i : Nat} {d : D} (h : sl[i]? = some (some d)) (q : Q d mm) : WO (semE gv cf (.var i) sl mm) Q := by
  rw [e_var, h]; exact ⟨d, mm, rfl, q⟩
theorem we_cst {d : D} (q : Q d mm) : WO (semE gv cf (.cst d) sl mm) Q := by rw [e_cst]; exact ⟨d, mm, rfl, q⟩
theorem we_glb {i : Nat} (q : Q (gv i) mm) : WO (semE gv cf (.glb i) sl mm) Q := by rw [e_glb]; exact ⟨gv i, mm, rfl, q⟩
theorem we_no (q : Q .non mm) : WO (semE gv cf .no sl mm) Q := by rw [e_no]; exact ⟨.non, mm, rfl, q⟩
def esLen : Es → Nat
  | .nil => 0
  | .cons _ es => esLen es + 1
theorem sem_len : ∀ (es : Es) (mm : Mm) {ds : List D} {m : Mm}, semEs gv cf es sl mm = some (.ok ds m) → ds.length = esLen es
  | .nil, mm, ds, m, h => by rw [es_nil] at h; cases h; rfl
  | .cons e es, mm, ds, m, h => by
    rw [es_cons] at h
    unfold con1 at h
    cases he : semE gv cf e sl mm with
    | none => rw [he] at h; cases h
    | some r =>
      rw [he] at h
      cases r with
      | ex x m1 => cases h
      | ok d m1 =>
        simp only [] at h
        cases h2 : semEs gv cf es sl m1 with
        | none => rw [h2] at h; cases h
        | some r2 =>
          rw [h2] at h
          cases r2 with
          | ex x m1 => cases h
          | ok ds2 m2 =>
            cases h
            simp only [List.length_cons, esLen, sem_len es m1 h2]
theorem we_tup {es : Es} (w : WL (semEs gv cf es sl mm) fun ds m => Q (.tup ds) m) (hl : esLen es ≤ 16777216 := by decide) : WO (semE gv cf (.tup es) sl mm) Q := by
  obtain ⟨ds, m, e, q⟩ := w
  have := sem_len es mm e
  rw [e_tup, e]
  exact ⟨.tup ds, m, by show (if ds.length ≤ 16777216 then _ else _) = _; rw [if_pos (by omega)]; rfl, q⟩
theorem we_lst {es : Es} (w : WL (semEs gv cf es sl mm) fun ds m => pureDs ds = true ∧ Q (.lst ds) m) (hl : esLen es ≤ 16777216 := by decide) : WO (semE gv cf (.lst es) sl mm) Q := by
  obtain ⟨ds, m, e, p, q⟩ := w
  have := sem_len es mm e
  rw [e_lst, e]
  exact ⟨.lst ds, m, by show (if pureDs ds && decide (ds.length ≤ 16777216) then _ else _) = _; rw [if_pos (by simp [p]; omega)]; rfl, q⟩
theorem we_nls {es : Es} (w : WL (semEs gv cf es sl mm) fun ds m => pureDs ds = true ∧ Q (.m m.length) (m ++ [.mu (.lst ds)])) (hl : esLen es ≤ 16777216 := by decide) : WO (semE gv cf (.nls es) sl mm) Q := by
  obtain ⟨ds, m, e, p, q⟩ := w
  have := sem_len es mm e
  rw [e_nls, e]
  exact ⟨.m m.length, m ++ [.mu (.lst ds)], by show (if pureDs ds && decide (ds.length ≤ 16777216) then _ else _) = _; rw [if_pos (by simp [p]; omega)]; rfl, q⟩
theorem wl_nil (q : QL [] mm) : WL (semEs gv cf .nil sl mm) QL := by rw [es_nil]; exact ⟨[], mm, rfl, q⟩
theorem wl_cons {e : E} {es : Es} (w : WO (semE gv cf e sl mm) fun d m => WL (semEs gv cf es sl m) fun ds m2 => QL (d :: ds) m2) : WL (semEs gv cf (.cons e es) sl mm) QL := by
  obtain ⟨d, m, e1, ds, m2, e2, q⟩ := w
  rw [es_cons, e1]
  refine ⟨d :: ds, m2, ?_, q⟩
  show con2 d (semEs gv cf es sl m) = _
  rw [e2]; rfl
theorem we_un {o : U1} {a : E} (w : WO (semE gv cf a sl mm) fun d m => WO (unS o d m) Q) : WO (semE gv cf (.un o a) sl mm) Q := by
  obtain ⟨d, m, e, d2, m2, e2, q⟩ := w
  rw [e_un, e]
  exact ⟨d2, m2, e2, q⟩
theorem we_bin {o : B2} {a b : E} (w : WO (semE gv cf a sl mm) fun d m => WO (semE gv cf b sl m) fun d2 m2 => WO (binS o d d2 m2) Q) : WO (semE gv cf (.bin o a b) sl mm) Q := by
  obtain ⟨d, m, e, d2, m2, e2, d3, m3, e3, q⟩ := w
  rw [e_bin, e]
  refine ⟨d3, m3, ?_, q⟩
  show bin2 o d (semE gv cf b sl m) = _
  rw [e2]; exact e3
theorem we_mth {o : B2} {a b : E} (w : WO (semE gv cf a sl mm) fun d m => recvOk o d m = true ∧ WO (semE gv cf b sl m) fun d2 m2 => WO (binS o d d2 m2) Q) : WO (semE gv cf (.mth o a b) sl mm) Q := by
  obtain ⟨d, m, e, hr, d2, m2, e2, d3, m3, e3, q⟩ := w
  rw [e_mth, e]
  refine ⟨d3, m3, ?_, q⟩
  show (if recvOk o d m then bin2 o d (semE gv cf b sl m) else none) = _
  rw [if_pos hr, e2]; exact e3
theorem we_not {a : E} (w : WO (semE gv cf a sl mm) fun d m => ∃ b, d = .bl b ∧ Q (.bl (!b)) m) : WO (semE gv cf (.not a) sl mm) Q := by
  obtain ⟨d, m, e, b, rfl, q⟩ := w
  rw [e_not, e]; exact ⟨_, _, rfl, q⟩
theorem we_and {a b : E} (w : WO (semE gv cf a sl mm) fun d m => ∃ p, d = .bl p ∧ (p = true → WO (semE gv cf b sl m) Q) ∧ (p = false → Q (.bl false) m)) : WO (semE gv cf (.and a b) sl mm) Q := by
  obtain ⟨d, m, e, p, rfl, h1, h2⟩ := w
  rw [e_and, e]
  cases p with
  | true => exact h1 rfl
  | false => exact ⟨_, _, rfl, h2 rfl⟩
theorem we_or {a b : E} (w : WO (semE gv cf a sl mm) fun d m => ∃ p, d = .bl p ∧ (p = true → Q (.bl true) m) ∧ (p = false → WO (semE gv cf b sl m) Q)) : WO (semE gv cf (.or a b) sl mm) Q := by
  obtain ⟨d, m, e, p, rfl, h1, h2⟩ := w
  rw [e_or, e]
  cases p with
  | true => exact ⟨_, _, rfl, h1 rfl⟩
  | false => exact h2 rfl
theorem we_ite {c a b : E} (w : WO (semE gv cf c sl mm) fun d m => ∃ p, d = .bl p ∧ (p = true → WO (semE gv cf a sl m) Q) ∧ (p = false → WO (semE gv cf b sl m) Q)) : WO (semE gv cf (.ite c a b) sl mm) Q := by
  obtain ⟨d, m, e, p, rfl, h1, h2⟩ := w
  rw [e_ite, e]
  cases p with
  | true => exact h1 rfl
  | false => exact h2 rfl
theorem we_chn {o p : B2} {a b c : E} (w : WO (semE gv cf a sl mm) fun x m1 => WO (semE gv cf b sl m1) fun y m2 => WO (binS o x y m2) fun z m3 => ∃ t, z = .bl t ∧ (t = true → WO (semE gv cf c sl m3) fun u m4 => WO (binS p y u m4) Q) ∧ (t = false → Q (.bl false) m3)) :
    WO (semE gv cf (.chn o p a b c) sl mm) Q := by
  obtain ⟨x, m1, e1, y, m2, e2, z, m3, e3, t, rfl, h1, h2⟩ := w
  rw [e_chn, e1]
  unfold chn1
  cases t with
  | true =>
    obtain ⟨u, m4, e4, v, m5, e5, q⟩ := h1 rfl
    refine ⟨v, m5, ?_, q⟩
    simp only [bindE, okE, e2, e3, e4, e5]
  | false =>
    refine ⟨.bl false, m3, ?_, h2 rfl⟩
    simp only [bindE, okE, e2, e3]
theorem we_call {f : Nat} {es : Es} (w : WL (semEs gv cf es sl mm) fun ds m => WO (callS (cf f) ds m) Q) : WO (semE gv cf (.call f es) sl mm) Q := by
  obtain ⟨ds, m, e, d2, m2, e2, q⟩ := w
  rw [e_call, e]; exact ⟨d2, m2, e2, q⟩
theorem we_call0 {f : Nat} (w : WO (callS (cf f) [] mm) Q) : WO (semE gv cf (.call0 f) sl mm) Q := by
  obtain ⟨d, m, e, q⟩ := w
  rw [e_call0, e]; exact ⟨d, m, rfl, q⟩
theorem we_slc {a lo hi : E} (w : WO (semE gv cf a sl mm) fun x m1 => WO (semE gv cf lo sl m1) fun l m2 => ∃ l', partS (isNo lo) l = some l' ∧ WO (semE gv cf hi sl m2) fun h m3 => ∃ h', partS (isNo hi) h = some h' ∧ WO (slcS x l' h' m3) Q) :
    WO (semE gv cf (.slc a lo hi) sl mm) Q := by
  obtain ⟨x, m1, e1, l, m2, e2, l', p1, h, m3, e3, h', p2, d, m4, e4, q⟩ := w
  refine ⟨d, m4, ?_, q⟩
  rw [e_slc, e1]
  unfold slc1
  simp only [bindE, e2, p1, e3, p2, e4]
theorem wi_seq {a : E} {QI : List D → Mm → Prop} (w : WO (semE gv cf a sl mm) fun d m => ∃ xs m2, bindE (okE d m) frzS = okE (.lst xs) m2 ∧ QI xs m2 ∨ bindE (okE d m) frzS = okE (.tup xs) m2 ∧ QI xs m2) : WI (semI gv cf (.seq a) sl mm) QI := by
  obtain ⟨d, m, e, xs, m2, h⟩ := w
  rw [i_seqE, e]
  rcases h with ⟨e2, q⟩ | ⟨e2, q⟩
  · refine ⟨xs, m2, ?_, q⟩
    unfold seqI
    have e2 : bindE (some (RE.ok d m)) frzS = okE (.lst xs) m2 := e2
    rw [e2]; rfl
  · refine ⟨xs, m2, ?_, q⟩
    unfold seqI
    have e2 : bindE (some (RE.ok d m)) frzS = okE (.tup xs) m2 := e2
    rw [e2]; rfl
theorem wi_tup {a : E} {QI : List D → Mm → Prop} (w : WO (semE gv cf a sl mm) fun d m => ∃ xs, d = .tup xs ∧ QI xs m) : WI (semI gv cf (.seq a) sl mm) QI := by
  obtain ⟨d, m, e, xs, rfl, q⟩ := w
  exact wi_seq ⟨_, m, e, xs, m, .inr ⟨rfl, q⟩⟩
theorem wi_lst {a : E} {QI : List D → Mm → Prop} (w : WO (semE gv cf a sl mm) fun d m => ∃ xs, d = .lst xs ∧ QI xs m) : WI (semI gv cf (.seq a) sl mm) QI := by
  obtain ⟨d, m, e, xs, rfl, q⟩ := w
  exact wi_seq ⟨_, m, e, xs, m, .inl ⟨rfl, q⟩⟩
theorem wi_rng {a : E} {QI : List D → Mm → Prop} (w : WO (semE gv cf a sl mm) fun d m => ∃ n : Nat, d = .int (n : Int) ∧ n ≤ 1000000 ∧ QI ((List.range n).map fun i : Nat => .int (i : Int)) m) : WI (semI gv cf (.rng a) sl mm) QI := by
  obtain ⟨d, m, e, n, rfl, hn, q⟩ := w
  rw [i_rngE, e]
  have hs : small64 (4 * (n : Int)) = true := by simp only [small64, Bool.and_eq_true, decide_eq_true_eq]; omega
  refine ⟨_, m, ?_, q⟩
  show (if small64 (4 * (n : Int)) = true then okI2 (rngL 0 (n : Int).toNat) m else none) = _
  rw [if_pos hs]
  show okI2 ((List.range n).map _) m = _
  simp only [Int.zero_add]
  rfl
/-! statements -/
theorem wb_nil (q : QS (.nx sl mm)) : WS (semB sub gv cf .nil sl mm) QS := by rw [b_nilE]; exact ⟨_, rfl, q⟩
/-- behind a statement -/
def thenB (k : Sl → Mm → Prop) (Q : RS → Prop) : RS → Prop
  | .nx sl mm => k sl mm
  | r => Q r
theorem wb_cons {s : S} {b : B} (w : WS (semS sub gv cf s sl mm) (thenB (fun sl1 mm1 => WS (semB sub gv cf b sl1 mm1) QS) QS)) : WS (semB sub gv cf (.cons s b) sl mm) QS := by
  obtain ⟨x, e, q⟩ := w
  rw [b_consE, e]
  cases x with
  | nx sl1 mm1 => exact q
  | rt d m => exact ⟨_, rfl, q⟩
  | bk s m => exact ⟨_, rfl, q⟩
  | ct s m => exact ⟨_, rfl, q⟩
  | ex x s m => exact ⟨_, rfl, q⟩
theorem ws_asg {i : Nat} {e : E} (w : WO (semE gv cf e sl mm) fun d m => QS (.nx (sl.set i (some d)) m)) : WS (semS sub gv cf (.asg i e) sl mm) QS := by
  obtain ⟨d, m, e, q⟩ := w
  rw [t_asg, e]; exact ⟨_, rfl, q⟩
theorem ws_unp {is : List Nat} {e : E} (w : WO (semE gv cf e sl mm) fun d m => ∃ sl1, bindT (.tp is) d sl = some sl1 ∧ QS (.nx sl1 m)) : WS (semS sub gv cf (.unp is e) sl mm) QS := by
  obtain ⟨d, m, e, sl1, h, q⟩ := w
  rw [t_unp, e]
  refine ⟨_, ?_, q⟩
  simp only [unpS, h]
theorem ws_par {i j : Nat} {a b : E} (w : WO (semE gv cf a sl mm) fun d m => WO (semE gv cf b sl m) fun d2 m2 => QS (.nx ((sl.set i (some d)).set j (some d2)) m2)) : WS (semS sub gv cf (.par i j a b) sl mm) QS := by
  obtain ⟨d, m, e, d2, m2, e2, q⟩ := w
  rw [t_par, e]
  refine ⟨_, ?_, q⟩
  show par2 i j sl d (semE gv cf b sl m) = _
  rw [e2]; rfl
theorem ws_exp {e : E} (w : WO (semE gv cf e sl mm) fun _ m => QS (.nx sl m)) : WS (semS sub gv cf (.exp e) sl mm) QS := by
  obtain ⟨d, m, e, q⟩ := w
  rw [t_exp, e]; exact ⟨_, rfl, q⟩
theorem ws_ret {e : E} (w : WO (semE gv cf e sl mm) fun d m => QS (.rt d m)) : WS (semS sub gv cf (.ret e) sl mm) QS := by
  obtain ⟨d, m, e, q⟩ := w
  rw [t_ret, e]; exact ⟨_, rfl, q⟩
theorem ws_ifs {c : E} {a b : B} (w : WO (semE gv cf c sl mm) fun d m => ∃ p, d = .bl p ∧ (p = true → WS (semB sub gv cf a sl m) QS) ∧ (p = false → WS (semB sub gv cf b sl m) QS)) : WS (semS sub gv cf (.ifs c a b) sl mm) QS := by
  obtain ⟨d, m, e, p, rfl, h1, h2⟩ := w
  rw [t_ifs, e]
  cases p with
  | true => exact h1 rfl
  | false => exact h2 rfl
/-- a test that is known to fail -/
theorem ws_if0 {c : E} {a b : B} (w : WO (semE gv cf c sl mm) fun d m => d = .bl false ∧ WS (semB sub gv cf b sl m) QS) : WS (semS sub gv cf (.ifs c a b) sl mm) QS :=
  ws_ifs (w.mono fun d m ⟨e, q⟩ => ⟨false, e, fun h => (by cases h), fun _ => q⟩)
theorem ws_if1 {c : E} {a b : B} (w : WO (semE gv cf c sl mm) fun d m => d = .bl true ∧ WS (semB sub gv cf a sl m) QS) : WS (semS sub gv cf (.ifs c a b) sl mm) QS :=
  ws_ifs (w.mono fun d m ⟨e, q⟩ => ⟨true, e, fun _ => q, fun h => (by cases h)⟩)
theorem we_or0 {a b : E} (w : WO (semE gv cf a sl mm) fun d m => d = .bl false ∧ WO (semE gv cf b sl m) Q) : WO (semE gv cf (.or a b) sl mm) Q :=
  we_or (w.mono fun d m ⟨e, q⟩ => ⟨false, e, fun h => (by cases h), fun _ => q⟩)
theorem we_or1 {a b : E} (w : WO (semE gv cf a sl mm) fun d m => d = .bl true ∧ Q (.bl true) m) : WO (semE gv cf (.or a b) sl mm) Q :=
  we_or (w.mono fun d m ⟨e, q⟩ => ⟨true, e, fun _ => q, fun h => (by cases h)⟩)
theorem we_and0 {a b : E} (w : WO (semE gv cf a sl mm) fun d m => d = .bl false ∧ Q (.bl false) m) : WO (semE gv cf (.and a b) sl mm) Q :=
  we_and (w.mono fun d m ⟨e, q⟩ => ⟨false, e, fun h => (by cases h), fun _ => q⟩)
theorem we_and1 {a b : E} (w : WO (semE gv cf a sl mm) fun d m => d = .bl true ∧ WO (semE gv cf b sl m) Q) : WO (semE gv cf (.and a b) sl mm) Q :=
  we_and (w.mono fun d m ⟨e, q⟩ => ⟨true, e, fun _ => q, fun h => (by cases h)⟩)
theorem ws_for {tg : Tg} {it : It} {b : B} (w : WI (semI gv cf it sl mm) fun xs m => WS (forS tg (semB sub gv cf b) xs sl m) QS) : WS (semS sub gv cf (.for tg it b) sl mm) QS := by
  obtain ⟨xs, m, e, q⟩ := w
  rw [t_for, e]; exact q
/-- a for by its invariant (behind so many items); the body goes on -/
theorem wf_inv {tg : Tg} {body : Sl → Mm → Option RS} {QS : RS → Prop} (I : List D → Sl → Mm → Prop) : ∀ (xs : List D) (sl : Sl) (mm : Mm), I xs sl mm →
    (∀ x r sl mm, I (x :: r) sl mm → ∃ sl1, bindT tg x sl = some sl1 ∧ WS (body sl1 mm) fun y => match y with | .nx sl2 mm2 => I r sl2 mm2 | .ct sl2 mm2 => I r sl2 mm2 | _ => False) →
    (∀ sl mm, I [] sl mm → QS (.nx sl mm)) → WS (forS tg body xs sl mm) QS
  | [], sl, mm, h, _, q => ⟨_, rfl, q sl mm h⟩
  | x :: xs, sl, mm, h, st, q => by
    obtain ⟨sl1, e1, y, e2, hy⟩ := st x xs sl mm h
    rw [forS_cons, e1]
    show WS (nextF (body sl1 mm) _) QS
    rw [e2]
    cases y with
    | nx sl2 mm2 => exact wf_inv I xs sl2 mm2 hy st q
    | ct sl2 mm2 => exact wf_inv I xs sl2 mm2 hy st q
    | rt _ _ => exact hy.elim
    | bk _ _ => exact hy.elim
    | ex _ _ _ => exact hy.elim
/-- the same, where the items are known to be some list's -/
theorem wf_mem {tg : Tg} {body : Sl → Mm → Option RS} {QS : RS → Prop} (I : Sl → Mm → Prop) (xs : List D) (sl : Sl) (mm : Mm) (h : I sl mm)
    (st : ∀ x ∈ xs, ∀ sl mm, I sl mm → ∃ sl1, bindT tg x sl = some sl1 ∧ WS (body sl1 mm) fun y => match y with | .nx sl2 mm2 => I sl2 mm2 | .ct sl2 mm2 => I sl2 mm2 | _ => False)
    (q : ∀ sl mm, I sl mm → QS (.nx sl mm)) : WS (forS tg body xs sl mm) QS := by
  refine wf_inv (fun r sl mm => (∀ x ∈ r, x ∈ xs) ∧ I sl mm) xs sl mm ⟨fun _ h => h, h⟩ (fun x r sl mm hI => ?_) fun sl mm h => q sl mm h.2
  obtain ⟨sl1, e1, w⟩ := st x (hI.1 x (by simp)) sl mm hI.2
  refine ⟨sl1, e1, w.mono fun y hy => ?_⟩
  have hr : ∀ x ∈ r, x ∈ xs := fun z hz => hI.1 z (by simp [hz])
  cases y with
  | nx sl2 mm2 => exact ⟨hr, hy⟩
  | ct sl2 mm2 => exact ⟨hr, hy⟩
  | rt _ _ => exact hy
  | bk _ _ => exact hy
  | ex _ _ _ => exact hy
theorem ws_sto {i : Nat} {ix e : E} (w : WO (semE gv cf e sl mm) fun d m => ∃ k, sl[i]? = some (some (.m k)) ∧ pureD d = true ∧ WO (semE gv cf ix sl m) fun j m2 => ∃ (n : Nat) (xs : List D), j = .int (n : Int) ∧ m2[k]? = some (.mu (.lst xs)) ∧ n < xs.length ∧ QS (.nx sl (m2.set k (.mu (.lst (xs.set n d)))))) :
    WS (semS sub gv cf (.sto i ix e) sl mm) QS := by
  obtain ⟨d, m, e1, k, hk, hp, j, m2, e2, n, xs, rfl, hm, hn, q⟩ := w
  rw [t_sto, e1]
  refine ⟨_, ?_, q⟩
  show sto2 sl[i]? d sl (semE gv cf ix sl m) = _
  rw [hk, e2]
  show sto3 m2[k]? k n d sl m2 = _
  rw [hm]
  have hx : ixP xs.length (n : Int) = some n := by
    show L2.ixN xs.length (n : Int) = _
    unfold L2.ixN
    rw [if_pos (by omega), if_pos (by omega)]
    rfl
  simp only [sto3, hx, hp, if_true]
theorem wo_app {k : Nat} {xs : List D} {b : D} (hk : mm[k]? = some (.mu (.lst xs))) (hp : pureD b = true) (hl : xs.length < 16777216) (q : Q .non (mm.set k (.mu (.lst (xs ++ [b]))))) : WO (binS .app (.m k) b mm) Q :=
  ⟨_, _, by simp only [binS, hk, hp, Bool.true_and, szl, hl, decide_true, if_true]; rfl, q⟩
theorem recv_app {k : Nat} {xs : List D} (hk : mm[k]? = some (.mu (.lst xs))) : recvOk .app (.m k) mm = true := by simp [recvOk, rd, hk, M.val]
/-! calls -/
theorem wc_pure {g : List D → Mm → Option FR} {ds : List D} {d : D} (h : g ds [] = some (.rt d [] [])) (hp : pureDs ds = true) (hd : pureD d = true) (q : Q d mm) : WO (callS g ds mm) Q := by
  rw [callS_pp hp, h, resP_rt, if_pos hd]; exact ⟨_, _, rfl, q⟩
theorem wc_new {g : List D → Mm → Option FR} {ds : List D} {o : M} (h : g ds [] = some (.rt (.m 0) [] [o])) (hp : pureDs ds = true) (q : Q (.m mm.length) (mm ++ [o])) : WO (callS g ds mm) Q := by
  rw [callS_pp hp, h, resP_m]; exact ⟨_, _, rfl, q⟩
theorem wc_m1 {g : List D → Mm → Option FR} {k : Nat} {v c c' : D} (hk : mm[k]? = some (.mu c)) (h : g [.m 0] [.mu c] = some (.rt v [.mu c'] [])) (hv : pureD v = true) (q : Q v (mm.set k (.mu c'))) : WO (callS g [.m k] mm) Q := by
  rw [callS_m1 hk hv h]; exact ⟨_, _, rfl, q⟩
theorem wc_m2 {g : List D → Mm → Option FR} {k : Nat} {d v c c' : D} (hk : mm[k]? = some (.mu c)) (hd : pureD d = true) (h : g [.m 0, d] [.mu c] = some (.rt v [.mu c'] [])) (hv : pureD v = true) (q : Q v (mm.set k (.mu c'))) : WO (callS g [.m k, d] mm) Q := by
  rw [callS_m2 hk hd hv h]; exact ⟨_, _, rfl, q⟩
end
/-! the sack, drawn from -/
def SkC (c : D) : Prop := ∃ g s, SkOk s ∧ c = sk g s
/-- a draw: a value with P, the sack behind it -/
def Dr (g : List D → Mm → Option FR) (ds : List D) (P : D → Prop) : Prop := ∀ c, SkC c → ∃ v c', SkC c' ∧ P v ∧ pureD v = true ∧ g (.m 0 :: ds) [.mu c] = some (.rt v [.mu c'] [])
theorem wc_dr1 {g : List D → Mm → Option FR} {P : D → Prop} (h : Dr g [] P) {mm : Mm} {k : Nat} {c : D} {Q : D → Mm → Prop} (hk : mm[k]? = some (.mu c)) (hc : SkC c)
    (q : ∀ v c', P v → pureD v = true → SkC c' → Q v (mm.set k (.mu c'))) : WO (callS g [.m k] mm) Q := by
  obtain ⟨v, c', h1, h2, h3, e⟩ := h c hc
  exact wc_m1 hk e h3 (q v c' h2 h3 h1)
theorem wc_dr2 {g : List D → Mm → Option FR} {P : D → Prop} {d : D} (h : Dr g [d] P) {mm : Mm} {k : Nat} {c : D} {Q : D → Mm → Prop} (hk : mm[k]? = some (.mu c)) (hc : SkC c) (hd : pureD d = true)
    (q : ∀ v c', P v → pureD v = true → SkC c' → Q v (mm.set k (.mu c'))) : WO (callS g [.m k, d] mm) Q := by
  obtain ⟨v, c', h1, h2, h3, e⟩ := h c hc
  exact wc_m2 hk hd e h3 (q v c' h2 h3 h1)
/-- a def's body, from what holds behind it -/
theorem callF_of {sub : Nat → Nat → Option Bool} {T : Nat → FDef} {gv : Nat → D} {n f : Nat} {args : List D} {bs : Mm} {r : Option FR} {fd : FDef} (hT : T f = fd) (hn : (args.length == fd.np) = true)
    (w : WS (semB sub gv (callF sub T gv n) fd.body (startS fd.ns args) bs) fun x => match x with | .nx _ mm => finF bs.length .non mm = r | .rt d mm => finF bs.length d mm = r | .ex x _ mm => exF bs.length x mm = r | _ => False) :
    callF sub T gv (n + 1) f args bs = r := by
  obtain ⟨x, e, q⟩ := w
  rw [callF_succ, hT, if_pos hn, e]
  cases x with
  | nx s m => exact q
  | rt d m => exact q
  | ex x s m => exact q
  | bk _ _ => exact q.elim
  | ct _ _ => exact q.elim
/-- the same, for a draw: the sack alone is lent -/
theorem callF_dr {sub : Nat → Nat → Option Bool} {T : Nat → FDef} {gv : Nat → D} {n f : Nat} {ds : List D} {P : D → Prop} {fd : FDef} (hT : T f = fd) (hn : ((D.m 0 :: ds).length == fd.np) = true)
    (w : ∀ c, SkC c → WS (semB sub gv (callF sub T gv n) fd.body (startS fd.ns (.m 0 :: ds)) [.mu c]) fun x => match x with | .rt d m => P d ∧ pureD d = true ∧ ∃ c', SkC c' ∧ m[0]? = some (.mu c') | _ => False) :
    Dr (callF sub T gv (n + 1) f) ds P := fun c hc => by
  obtain ⟨x, e, q⟩ := w c hc
  cases x with
  | rt d m =>
    obtain ⟨h1, h2, c', h3, h4⟩ := q
    refine ⟨d, c', h3, h1, h2, ?_⟩
    rw [callF_succ, hT, if_pos hn, e]
    have ht : m.take 1 = [.mu c'] := by
      cases m with
      | nil => simp at h4
      | cons a m => simp at h4; subst h4; rfl
    show finF 1 d m = _
    unfold finF
    rw [ht, h2]
    rfl
  | nx s m => exact q.elim
  | ex x s m => exact q.elim
  | bk _ _ => exact q.elim
  | ct _ _ => exact q.elim
end Mp
/-! Pv2: more rules over Pv: comprehensions, equality, turns one by one. -/
namespace Mp
theorem WO.eq {r : Option RE} {v : D} {mm : Mm} (h : WO r fun d m => d = v ∧ m = mm) : r = okE v mm := by
  obtain ⟨d, m, e, rfl, rfl⟩ := h; exact e
theorem lcS_fm {tg : Tg} {cnd elt : Sl → Mm → Option RE} {sl : Sl} {mm : Mm} (p : D → Bool) (g : D → D) : ∀ (xs acc : List D), (∀ x ∈ xs, ∃ sl', bindT tg x (wipeS sl (tgIx tg)) = some sl' ∧ cnd sl' mm = okE (.bl (p x)) mm ∧ (p x = true → elt sl' mm = okE (g x) mm ∧ pureD (g x) = true)) →
    acc.length + xs.length ≤ 16777216 → lcS tg cnd elt sl xs acc mm = okE (.lst (acc ++ (xs.filter p).map g)) mm
  | [], acc, _, _ => by simp [lcS]
  | x :: xs, acc, h, hl => by
    obtain ⟨sl', h1, h2, h3⟩ := h x (by simp)
    simp only [List.length_cons] at hl
    cases hp : p x with
    | true =>
      rw [hp] at h2
      obtain ⟨h4, h5⟩ := h3 hp
      rw [lcS_cons h1 h2 h4 h5 (by omega), lcS_fm p g xs _ (fun y hy => h y (by simp [hy])) (by simp; omega)]
      simp [hp]
    | false =>
      rw [hp] at h2
      have e : lcS tg cnd elt sl (x :: xs) acc mm = lcS tg cnd elt sl xs acc mm := by
        simp only [okE] at h2
        simp [lcS, h1, h2]
      rw [e, lcS_fm p g xs acc (fun y hy => h y (by simp [hy])) (by omega)]
      simp [hp]
section
variable {gv : Nat → D} {cf : Nat → List D → Mm → Option FR} {sub : Nat → Nat → Option Bool} {sl : Sl} {mm : Mm} {Q : D → Mm → Prop} {QL : List D → Mm → Prop} {QS : RS → Prop}
/-- a comprehension whose test and element leave all as it is -/
theorem we_lc {tg : Tg} {elt cnd : E} {it : It} (p : D → Bool) (g : D → D) (w : WI (semI gv cf it sl mm) fun xs m => xs.length ≤ 16777216 ∧
    (∀ x ∈ xs, ∃ sl', bindT tg x (wipeS sl (tgIx tg)) = some sl' ∧ WO (semE gv cf cnd sl' m) (fun d m' => d = .bl (p x) ∧ m' = m) ∧ (p x = true → WO (semE gv cf elt sl' m) (fun d m' => d = g x ∧ m' = m) ∧ pureD (g x) = true)) ∧
    Q (.lst ((xs.filter p).map g)) m) : WO (semE gv cf (.lc false tg elt it cnd) sl mm) Q := by
  obtain ⟨xs, m, e, hl, h, q⟩ := w
  rw [e_lc, e]
  refine ⟨_, m, ?_, q⟩
  show bindE (lcS tg _ _ sl xs [] m) _ = _
  rw [lcS_fm p g xs [] (fun x hx => by
    obtain ⟨sl', h1, h2, h3⟩ := h x hx
    exact ⟨sl', h1, h2.eq, fun hp => ⟨(h3 hp).1.eq, (h3 hp).2⟩⟩) (by simpa using hl)]
  rfl
theorem we_lcM {tg : Tg} {elt cnd : E} {it : It} (p : D → Bool) (g : D → D) (w : WI (semI gv cf it sl mm) fun xs m => xs.length ≤ 16777216 ∧
    (∀ x ∈ xs, ∃ sl', bindT tg x (wipeS sl (tgIx tg)) = some sl' ∧ WO (semE gv cf cnd sl' m) (fun d m' => d = .bl (p x) ∧ m' = m) ∧ (p x = true → WO (semE gv cf elt sl' m) (fun d m' => d = g x ∧ m' = m) ∧ pureD (g x) = true)) ∧
    Q (.m m.length) (m ++ [.mu (.lst ((xs.filter p).map g))])) : WO (semE gv cf (.lc true tg elt it cnd) sl mm) Q := by
  obtain ⟨xs, m, e, hl, h, q⟩ := w
  rw [e_lc, e]
  refine ⟨_, _, ?_, q⟩
  show bindE (lcS tg _ _ sl xs [] m) _ = _
  rw [lcS_fm p g xs [] (fun x hx => by
    obtain ⟨sl', h1, h2, h3⟩ := h x hx
    exact ⟨sl', h1, h2.eq, fun hp => ⟨(h3 hp).1.eq, (h3 hp).2⟩⟩) (by simpa using hl)]
  rfl
theorem filter_none {p : D → Bool} : ∀ {xs : List D}, (∀ x ∈ xs, p x = false) → xs.filter p = []
  | [], _ => rfl
  | x :: xs, h => by rw [List.filter_cons, h x (by simp)]; exact filter_none fun y hy => h y (by simp [hy])
theorem wf_nil {tg : Tg} {body : Sl → Mm → Option RS} (q : QS (.nx sl mm)) : WS (forS tg body [] sl mm) QS := ⟨_, rfl, q⟩
/-- behind a turn -/
def turnF (k : Sl → Mm → Prop) (Q : RS → Prop) : RS → Prop
  | .nx sl mm => k sl mm
  | .ct sl mm => k sl mm
  | .bk sl mm => Q (.nx sl mm)
  | r => Q r
theorem wf_cons {tg : Tg} {body : Sl → Mm → Option RS} {x : D} {xs : List D} {sl1 : Sl} (h : bindT tg x sl = some sl1) (w : WS (body sl1 mm) (turnF (fun sl2 mm2 => WS (forS tg body xs sl2 mm2) QS) QS)) : WS (forS tg body (x :: xs) sl mm) QS := by
  obtain ⟨y, e, q⟩ := w
  rw [forS_cons, h]
  show WS (nextF (body sl1 mm) _) QS
  rw [e]
  cases y with
  | nx sl2 mm2 => exact q
  | ct sl2 mm2 => exact q
  | bk sl2 mm2 => exact ⟨_, rfl, q⟩
  | rt d m => exact ⟨_, rfl, q⟩
  | ex x s m => exact ⟨_, rfl, q⟩
end
mutual
theorem eqD_self : ∀ v : D, hgt v < 100 → eqD v v = true
  | .non, _ => rfl
  | .bl b, _ => by simp [eqD]
  | .int _, _ => by simp [eqD]
  | .str _, _ => by simp [eqD]
  | .tup xs, h => by
    simp only [hgt] at h
    simp only [eqD]; exact eqDs_self xs (by omega)
  | .lst xs, h => by
    simp only [hgt] at h
    simp only [eqD]; exact eqDs_self xs (by omega)
  | .dct _ _, h => by simp only [hgt] at h; omega
  | .dtu _ _, h => by simp only [hgt] at h; omega
  | .obj _ _, h => by simp only [hgt] at h; omega
  | .m _, h => by simp only [hgt] at h; omega
theorem eqDs_self : ∀ xs : List D, hgts xs < 100 → eqDs xs xs = true
  | [], _ => rfl
  | x :: xs, h => by
    simp only [hgts] at h
    simp only [eqDs, eqD_self x (by omega), eqDs_self xs (by omega), Bool.and_self]
end
theorem rd_low {v : D} (h : hgt v < 100) {mm : Mm} : rd mm v = v := by
  cases v <;> first | rfl | (simp only [hgt] at h; omega)
theorem wo_eqL {a b : D} {mm : Mm} {Q : D → Mm → Prop} (ha : hgt a ≤ 64) (hb : hgt b ≤ 64) (q : Q (.bl (eqD a b)) mm) : WO (binS .eq a b mm) Q := by
  refine WO.of ?_ q
  show eqS a b false mm = _
  unfold eqS
  rw [rd_low (show hgt a < 100 by omega), rd_low (show hgt b < 100 by omega)]
  simp [okEq, ha, hb]
theorem wo_neL {a b : D} {mm : Mm} {Q : D → Mm → Prop} (ha : hgt a ≤ 64) (hb : hgt b ≤ 64) (q : Q (.bl (!eqD a b)) mm) : WO (binS .ne a b mm) Q := by
  refine WO.of ?_ q
  show eqS a b true mm = _
  unfold eqS
  rw [rd_low (show hgt a < 100 by omega), rd_low (show hgt b < 100 by omega)]
  simp [okEq, ha, hb]
/-- two equal things of any kind (what is read) -/
theorem wo_ne0 {a b v : D} {mm : Mm} {Q : D → Mm → Prop} (ha : rd mm a = v) (hb : rd mm b = v) (hv : hgt v ≤ 64) (q : Q (.bl false) mm) : WO (binS .ne a b mm) Q := by
  refine WO.of ?_ q
  show eqS a b true mm = _
  unfold eqS
  rw [ha, hb]
  simp [okEq, hv, eqD_self v (by omega)]
theorem wo_eq1 {a b v : D} {mm : Mm} {Q : D → Mm → Prop} (ha : rd mm a = v) (hb : rd mm b = v) (hv : hgt v ≤ 64) (q : Q (.bl true) mm) : WO (binS .eq a b mm) Q := by
  refine WO.of ?_ q
  show eqS a b false mm = _
  unfold eqS
  rw [ha, hb]
  simp [okEq, hv, eqD_self v (by omega)]
end Mp
/-! Pv3: while, dicts, three names at once, over Pv2. -/
namespace Mp
section
variable {gv : Nat → D} {cf : Nat → List D → Mm → Option FR} {sub : Nat → Nat → Option Bool} {sl : Sl} {mm : Mm} {Q : D → Mm → Prop} {QL : List D → Mm → Prop} {QS : RS → Prop}
theorem bindE_some {d : D} {m : Mm} {f : D → Mm → Option RE} {r : Option RE} (h : r = some (.ok d m)) : bindE r f = f d m := by rw [h]; rfl
theorem we_dn {tk : Bool} (q : Q (.m mm.length) (mm ++ [.mu (if tk then .dtu [] [] else .dct [] [])])) : WO (semE gv cf (.dn tk) sl mm) Q := ⟨_, _, by simp only [semE]; rfl, q⟩
theorem we_d1 {k v : E} (w : WO (semE gv cf k sl mm) fun y m => WO (semE gv cf v sl m) fun d m2 => isKD y = true ∧ pureD d = true ∧ Q (.m m2.length) (m2 ++ [.mu (.dtu [y] [d])])) : WO (semE gv cf (.d1 k v) sl mm) Q := by
  obtain ⟨y, m, e1, d, m2, e2, h1, h2, q⟩ := w
  refine ⟨_, _, ?_, q⟩
  simp only [semE]
  rw [bindE_some e1, bindE_some e2, h1, h2]; rfl
theorem we_get1 {a k : E} (w : WO (semE gv cf a sl mm) fun c m => isDct (rd m c) = true ∧ WO (semE gv cf k sl m) fun y m2 => WO (getS c y .non m2) Q) : WO (semE gv cf (.get1 a k) sl mm) Q := by
  obtain ⟨c, m, e1, h, y, m2, e2, d, m3, e3, q⟩ := w
  refine ⟨d, m3, ?_, q⟩
  simp only [semE]
  rw [bindE_some e1, h, if_pos rfl, bindE_some e2]; exact e3
theorem we_get2 {a k x : E} (w : WO (semE gv cf a sl mm) fun c m => isDct (rd m c) = true ∧ WO (semE gv cf k sl m) fun y m2 => WO (semE gv cf x sl m2) fun z m3 => WO (getS c y z m3) Q) : WO (semE gv cf (.get2 a k x) sl mm) Q := by
  obtain ⟨c, m, e1, h, y, m2, e2, z, m3, e3, d, m4, e4, q⟩ := w
  refine ⟨d, m4, ?_, q⟩
  simp only [semE]
  rw [bindE_some e1, h, if_pos rfl, bindE_some e2, bindE_some e3]; exact e4
theorem ws_par3 {i j l : Nat} {a b c : E} (w : WO (semE gv cf a sl mm) fun u m1 => WO (semE gv cf b sl m1) fun v m2 => WO (semE gv cf c sl m2) fun x m3 => QS (.nx (((sl.set i (some u)).set j (some v)).set l (some x)) m3)) : WS (semS sub gv cf (.par3 i j l a b c) sl mm) QS := by
  obtain ⟨u, m1, e1, v, m2, e2, x, m3, e3, q⟩ := w
  refine ⟨_, ?_, q⟩
  simp only [semS, semEs, e1, e2, e3]
theorem ws_std {i : Nat} {ix e : E} (w : WO (semE gv cf e sl mm) fun d m => ∃ k, sl[i]? = some (some (.m k)) ∧ pureD d = true ∧ WO (semE gv cf ix sl m) fun y m2 => ∃ c c', m2[k]? = some (.mu c) ∧ putD c y d = some c' ∧ QS (.nx sl (m2.set k (.mu c')))) :
    WS (semS sub gv cf (.std i ix e) sl mm) QS := by
  obtain ⟨d, m, e1, k, hk, hp, y, m2, e2, c, c', hm, hc, q⟩ := w
  refine ⟨_, ?_, q⟩
  simp only [semS, e1, hk, e2, hm, hp, if_true, hc]
/-- in, not in a dict of tuples -/
theorem wo_memU {a b : D} {ks vs : List D} (hb : rd mm b = .dtu ks vs) (ha : isKD a = true) (hk : ks.all isKD = true) (q : Q (.bl (memD a ks)) mm) : WO (binS .mem a b mm) Q :=
  WO.of (by
    show memS a b false mm = _
    unfold memS
    rw [hb]
    simp [ha, hk]) q
theorem wo_nmemU {a b : D} {ks vs : List D} (hb : rd mm b = .dtu ks vs) (ha : isKD a = true) (hk : ks.all isKD = true) (q : Q (.bl (!memD a ks)) mm) : WO (binS .nmem a b mm) Q :=
  WO.of (by
    show memS a b true mm = _
    unfold memS
    rw [hb]
    simp [ha, hk]) q
theorem wo_idxU {a b : D} {ks vs : List D} {j : Nat} {x : D} (ha : rd mm a = .dtu ks vs) (hb : isKD b = true) (hk : ks.all isKD = true) (hj : idxOfD b ks = some j) (hx : vs[j]? = some x) (q : Q x mm) : WO (binS .idx a b mm) Q :=
  WO.of (by
    show idxS a b mm = _
    unfold idxS
    rw [ha]
    simp [hb, hk, hj, hx]) q
theorem putD_newU {ks vs : List D} {y d : D} (h1 : isKD y = true) (h2 : ks.all isKD = true) (h3 : ks.length < 16777216) (h4 : idxOfD y ks = none) : putD (.dtu ks vs) y d = some (.dtu (ks ++ [y]) (vs ++ [d])) := by
  have h3 : ks.length < szl := h3
  simp only [putD, h1, h2, h3, decide_true, Bool.and_self, if_true, h4]
theorem putD_oldU {ks vs : List D} {y d : D} {j : Nat} (h1 : isKD y = true) (h2 : ks.all isKD = true) (h3 : ks.length < 16777216) (h4 : idxOfD y ks = some j) : putD (.dtu ks vs) y d = some (.dtu ks (vs.set j d)) := by
  have h3 : ks.length < szl := h3
  simp only [putD, h1, h2, h3, decide_true, Bool.and_self, if_true, h4]
theorem putD_newK {ks vs : List D} {y d : D} (h1 : isKT y = true) (h2 : ks.all isKT = true) (h3 : ks.length < 16777216) (h4 : idxOfD y ks = none) : putD (.dct ks vs) y d = some (.dct (ks ++ [y]) (vs ++ [d])) := by
  have h3 : ks.length < szl := h3
  simp only [putD, h1, h2, h3, decide_true, Bool.and_self, if_true, h4]
theorem putD_oldK {ks vs : List D} {y d : D} {j : Nat} (h1 : isKT y = true) (h2 : ks.all isKT = true) (h3 : ks.length < 16777216) (h4 : idxOfD y ks = some j) : putD (.dct ks vs) y d = some (.dct ks (vs.set j d)) := by
  have h3 : ks.length < szl := h3
  simp only [putD, h1, h2, h3, decide_true, Bool.and_self, if_true, h4]
theorem wo_memK {a b : D} {ks vs : List D} (hb : rd mm b = .dct ks vs) (ha : isKT a = true) (hk : ks.all isKT = true) (q : Q (.bl (memD a ks)) mm) : WO (binS .mem a b mm) Q :=
  WO.of (by
    show memS a b false mm = _
    unfold memS
    rw [hb]
    simp [ha, hk]) q
theorem wo_nmemK {a b : D} {ks vs : List D} (hb : rd mm b = .dct ks vs) (ha : isKT a = true) (hk : ks.all isKT = true) (q : Q (.bl (!memD a ks)) mm) : WO (binS .nmem a b mm) Q :=
  WO.of (by
    show memS a b true mm = _
    unfold memS
    rw [hb]
    simp [ha, hk]) q
theorem wo_idxK {a b : D} {ks vs : List D} {j : Nat} {x : D} (ha : rd mm a = .dct ks vs) (hb : isKT b = true) (hk : ks.all isKT = true) (hj : idxOfD b ks = some j) (hx : vs[j]? = some x) (q : Q x mm) : WO (binS .idx a b mm) Q :=
  WO.of (by
    show idxS a b mm = _
    unfold idxS
    rw [ha]
    simp [hb, hk, hj, hx]) q
/-- what a while's turn leaves -/
def turnW (k : Sl → Mm → Prop) (Q : RS → Prop) : RS → Prop
  | .nx sl mm => k sl mm
  | .ct sl mm => k sl mm
  | .bk sl mm => Q (.nx sl mm)
  | r => Q r
theorem whl_by {cnd : Sl → Mm → Option RE} {body : Sl → Mm → Option RS} (I : Nat → Sl → Mm → Prop)
    (st : ∀ n sl mm, I n sl mm → WO (cnd sl mm) fun d m => ∃ t, d = .bl t ∧ (t = true → WS (body sl m) (turnW (fun sl2 mm2 => ∃ n', n' < n ∧ I n' sl2 mm2) QS)) ∧ (t = false → QS (.nx sl m))) :
    ∀ (fuel n : Nat) (sl : Sl) (mm : Mm), n < fuel → I n sl mm → WS (whlS cnd body fuel sl mm) QS := by
  intro fuel
  induction fuel with
  | zero => intro n sl mm h; omega
  | succ fuel ih =>
    intro n sl mm hn hI
    obtain ⟨d, m, e, t, rfl, h1, h2⟩ := st n sl mm hI
    cases t with
    | false => exact ⟨.nx sl m, by simp only [whlS, e], h2 rfl⟩
    | true =>
      obtain ⟨y, e2, hy⟩ := h1 rfl
      cases y with
      | nx sl2 mm2 =>
        obtain ⟨n', hn', hI'⟩ := hy
        obtain ⟨z, e3, hz⟩ := ih n' sl2 mm2 (by omega) hI'
        exact ⟨z, by simp only [whlS, e, e2]; exact e3, hz⟩
      | ct sl2 mm2 =>
        obtain ⟨n', hn', hI'⟩ := hy
        obtain ⟨z, e3, hz⟩ := ih n' sl2 mm2 (by omega) hI'
        exact ⟨z, by simp only [whlS, e, e2]; exact e3, hz⟩
      | bk sl2 mm2 => exact ⟨_, by simp only [whlS, e, e2], hy⟩
      | rt d m => exact ⟨_, by simp only [whlS, e, e2], hy⟩
      | ex x s m => exact ⟨_, by simp only [whlS, e, e2], hy⟩
theorem ws_whl {c : E} {b : B} (I : Nat → Sl → Mm → Prop) {n : Nat} (hI : I n sl mm) (hn : n < 1000000000000)
    (st : ∀ n sl mm, I n sl mm → WO (semE gv cf c sl mm) fun d m => ∃ t, d = .bl t ∧ (t = true → WS (semB sub gv cf b sl m) (turnW (fun sl2 mm2 => ∃ n', n' < n ∧ I n' sl2 mm2) QS)) ∧ (t = false → QS (.nx sl m))) :
    WS (semS sub gv cf (.whl c b) sl mm) QS := by
  have h := whl_by (QS := QS) I st wMost n sl mm hn hI
  obtain ⟨x, e, q⟩ := h
  exact ⟨x, by simp only [semS]; exact e, q⟩
theorem wi_dtu {a : E} {QI : List D → Mm → Prop} (w : WO (semE gv cf a sl mm) fun d m => ∃ ks vs, d = .dtu ks vs ∧ QI ks m) : WI (semI gv cf (.seq a) sl mm) QI := by
  obtain ⟨d, m, e, ks, vs, rfl, q⟩ := w
  rw [i_seqE, e]
  exact ⟨ks, m, rfl, q⟩
/-- a list of the activation is walked -/
theorem wi_m {a : E} {QI : List D → Mm → Prop} (w : WO (semE gv cf a sl mm) fun d m => ∃ k xs, d = .m k ∧ m[k]? = some (.mu (.lst xs)) ∧ QI xs (m.set k (.fz (.lst xs)))) : WI (semI gv cf (.seq a) sl mm) QI := by
  obtain ⟨d, m, e, k, xs, rfl, hk, q⟩ := w
  refine wi_seq ⟨_, m, e, xs, _, .inl ⟨?_, q⟩⟩
  simp only [bindE, okE, frzS, hk]
theorem wo_frzM {k : Nat} {c : D} (hk : mm[k]? = some (.mu c)) (q : Q c (mm.set k (.fz c))) : WO (unS .frz (.m k) mm) Q :=
  WO.of (by simp only [unS, frzS, hk]) q
theorem wo_frzD {d : D} (h : ∀ k, d ≠ .m k) (q : Q d mm) : WO (unS .frz d mm) Q :=
  WO.of (by cases d <;> first | rfl | exact absurd rfl (h _)) q
/-- a for, by what holds behind the items done -/
theorem wf_pre {α : Type} {tg : Tg} {body : Sl → Mm → Option RS} {QS : RS → Prop} (f : α → D) (I : List α → Sl → Mm → Prop) (xs : List α) (sl : Sl) (mm : Mm) (h0 : I [] sl mm)
    (st : ∀ a x b, xs = a ++ x :: b → ∀ sl mm, I a sl mm → ∃ sl1, bindT tg (f x) sl = some sl1 ∧ WS (body sl1 mm) fun y => match y with | .nx sl2 mm2 => I (a ++ [x]) sl2 mm2 | .ct sl2 mm2 => I (a ++ [x]) sl2 mm2 | _ => False)
    (q : ∀ sl mm, I xs sl mm → QS (.nx sl mm)) : WS (forS tg body (xs.map f) sl mm) QS := by
  refine wf_inv (fun r sl mm => ∃ a b, xs = a ++ b ∧ r = b.map f ∧ I a sl mm) (xs.map f) sl mm ⟨[], xs, rfl, rfl, h0⟩ (fun y r sl mm hI => ?_) fun sl mm hI => ?_
  · obtain ⟨a, b, e, hb, h⟩ := hI
    cases b with
    | nil => cases hb
    | cons x b =>
      injection hb with e1 e2
      subst e1; subst e2
      obtain ⟨sl1, h1, w⟩ := st a x b e sl mm h
      refine ⟨sl1, h1, w.mono fun y hy => ?_⟩
      cases y with
      | nx sl2 mm2 => exact ⟨a ++ [x], b, by simp [e], rfl, hy⟩
      | ct sl2 mm2 => exact ⟨a ++ [x], b, by simp [e], rfl, hy⟩
      | rt _ _ => exact hy
      | bk _ _ => exact hy
      | ex _ _ _ => exact hy
  · obtain ⟨a, b, e, hb, h⟩ := hI
    cases b with
    | nil => rw [List.append_nil] at e; subst e; exact q sl mm h
    | cons x b => cases hb
/-- the same, where a turn may also hand a value back -/
theorem wf_preR {α : Type} {tg : Tg} {body : Sl → Mm → Option RS} {QS : RS → Prop} (f : α → D) (I : List α → Sl → Mm → Prop) (xs : List α)
    (st : ∀ a x b, xs = a ++ x :: b → ∀ sl mm, I a sl mm → ∃ sl1, bindT tg (f x) sl = some sl1 ∧ WS (body sl1 mm) fun y => match y with | .nx sl2 mm2 => I (a ++ [x]) sl2 mm2 | .ct sl2 mm2 => I (a ++ [x]) sl2 mm2 | .rt d m => QS (.rt d m) | _ => False)
    (q : ∀ sl mm, I xs sl mm → QS (.nx sl mm)) : ∀ (b a : List α), xs = a ++ b → ∀ sl mm, I a sl mm → WS (forS tg body (b.map f) sl mm) QS
  | [], a, e, sl, mm, h => by
    rw [List.append_nil] at e; subst e
    exact ⟨_, rfl, q sl mm h⟩
  | x :: b, a, e, sl, mm, h => by
    obtain ⟨sl1, e1, y, e2, hy⟩ := st a x b e sl mm h
    rw [List.map_cons, forS_cons, e1]
    show WS (nextF (body sl1 mm) _) QS
    rw [e2]
    cases y with
    | nx sl2 mm2 => exact wf_preR f I xs st q b (a ++ [x]) (by simp [e]) sl2 mm2 hy
    | ct sl2 mm2 => exact wf_preR f I xs st q b (a ++ [x]) (by simp [e]) sl2 mm2 hy
    | rt d m => exact ⟨_, rfl, hy⟩
    | bk _ _ => exact hy.elim
    | ex _ _ _ => exact hy.elim
end
end Mp
/-! Pw: the operators, each by what it gives, over Pv3. -/
namespace Mp
section
variable {mm : Mm} {Q : D → Mm → Prop}
theorem wo_eqI {a b : Int} (q : Q (.bl (decide (a = b))) mm) : WO (binS .eq (.int a) (.int b) mm) Q := WO.of (by simp) q
theorem wo_neI {a b : Int} (q : Q (.bl (!decide (a = b))) mm) : WO (binS .ne (.int a) (.int b) mm) Q := WO.of (by show eqS _ _ _ _ = _; simp [eqS, okEq, hgt, eqD, rd]) q
theorem wo_eqT {a b : Tx} (q : Q (.bl (decide (a = b))) mm) : WO (binS .eq (.str a) (.str b) mm) Q := WO.of (by simp) q
theorem wo_neT {a b : Tx} (q : Q (.bl (!decide (a = b))) mm) : WO (binS .ne (.str a) (.str b) mm) Q := WO.of (by show eqS _ _ _ _ = _; simp [eqS, okEq, hgt, eqD, rd]) q
theorem wo_ltI {a b : Int} (q : Q (.bl (decide (a < b))) mm) : WO (binS .lt (.int a) (.int b) mm) Q := WO.of rfl q
theorem wo_leI {a b : Int} (q : Q (.bl (decide (a ≤ b))) mm) : WO (binS .le (.int a) (.int b) mm) Q := WO.of rfl q
theorem wo_gtI {a b : Int} (q : Q (.bl (decide (b < a))) mm) : WO (binS .gt (.int a) (.int b) mm) Q := WO.of rfl q
theorem wo_geI {a b : Int} (q : Q (.bl (decide (b ≤ a))) mm) : WO (binS .ge (.int a) (.int b) mm) Q := WO.of rfl q
theorem wo_addI {a b : Int} (q : Q (.int (a + b)) mm) : WO (binS .add (.int a) (.int b) mm) Q := WO.of rfl q
theorem wo_subI {a b : Int} (q : Q (.int (a - b)) mm) : WO (binS .sub (.int a) (.int b) mm) Q := WO.of rfl q
theorem wo_min2 {a b : Int} (q : Q (.int (if b < a then b else a)) mm) : WO (binS .min2 (.int a) (.int b) mm) Q := WO.of rfl q
theorem wo_max2 {a b : Int} (q : Q (.int (if b > a then b else a)) mm) : WO (binS .max2 (.int a) (.int b) mm) Q := WO.of rfl q
theorem wo_intB {p : Prop} [Decidable p] (q : Q (.int (if p then 1 else 0)) mm) : WO (unS .int (.bl (decide p)) mm) Q := WO.of (by by_cases h : p <;> simp [unS, h]) q
theorem wo_intb {b : Bool} (q : Q (.int (if b then 1 else 0)) mm) : WO (unS .int (.bl b) mm) Q := WO.of rfl q
theorem wo_addT {xs ys : List D} (h : xs.length + ys.length ≤ 16777216) (q : Q (.tup (xs ++ ys)) mm) : WO (binS .add (.tup xs) (.tup ys) mm) Q :=
  WO.of (by show (if xs.length + ys.length ≤ 16777216 then _ else _) = _; rw [if_pos h]) q
theorem wo_addL {a b : D} {xs ys : List D} (ha : rd mm a = .lst xs) (hb : rd mm b = .lst ys) (h : xs.length + ys.length ≤ 16777216) (q : Q (.lst (xs ++ ys)) mm) : WO (binS .add a b mm) Q :=
  WO.of (by
    show addS a b mm = _
    unfold addS
    rw [ha, hb]
    show (if xs.length + ys.length ≤ 16777216 then _ else _) = _; rw [if_pos h]) q
/-- an index that is not negative -/
theorem wo_ixT {a : D} {xs : List D} {i : Nat} {x : D} (ha : rd mm a = .tup xs) (hx : xs[i]? = some x) (q : Q x mm) : WO (binS .idx a (.int (i : Int)) mm) Q :=
  WO.of (by
    show idxS a (.int (i : Int)) mm = _
    unfold idxS
    rw [ha]
    have hi : i < xs.length := (List.getElem?_eq_some_iff.mp hx).1
    have hn : L2.ixN xs.length (i : Int) = some i := by
      unfold L2.ixN
      rw [if_pos (by omega), if_pos (by omega)]
      rfl
    show (match L2.atI xs (i : Int) with | some x => okE x mm | none => none) = _
    unfold L2.atI
    rw [hn]
    simp only [Option.bind_some, hx]) q
theorem wo_ixL {a : D} {xs : List D} {i : Nat} {x : D} (ha : rd mm a = .lst xs) (hx : xs[i]? = some x) (q : Q x mm) : WO (binS .idx a (.int (i : Int)) mm) Q :=
  WO.of (by
    show idxS a (.int (i : Int)) mm = _
    unfold idxS
    rw [ha]
    have hi : i < xs.length := (List.getElem?_eq_some_iff.mp hx).1
    have hn : L2.ixN xs.length (i : Int) = some i := by
      unfold L2.ixN
      rw [if_pos (by omega), if_pos (by omega)]
      rfl
    show (match L2.atI xs (i : Int) with | some x => okE x mm | none => none) = _
    unfold L2.atI
    rw [hn]
    simp only [Option.bind_some, hx]) q
theorem wo_lenL {a : D} {xs : List D} (ha : rd mm a = .lst xs) (q : Q (.int (xs.length : Int)) mm) : WO (unS .len a mm) Q :=
  WO.of (by
    show (match rd mm a with | .str s => _ | .tup xs => _ | .lst xs => okE (.int (xs.length : Int)) mm | _ => none) = _
    rw [ha]) q
theorem wo_lenT {xs : List D} (q : Q (.int (xs.length : Int)) mm) : WO (unS .len (.tup xs) mm) Q := WO.of rfl q
theorem rd_m {k : Nat} {c : M} (h : mm[k]? = some c) : rd mm (.m k) = c.val := by
  show (match mm[k]? with | some x => x.val | none => .non) = _
  rw [h]
theorem wo_memL {a b : D} {xs : List D} (hb : rd mm b = .lst xs) (ha : hgt a ≤ 64) (hx : hgts xs + 1 ≤ 64) (q : Q (.bl (memD a xs)) mm) : WO (binS .mem a b mm) Q :=
  WO.of (by
    show memS a b false mm = _
    unfold memS
    rw [hb]
    simp [okEq, hgt, ha, hx]) q
theorem wo_memT {a b : D} {xs : List D} (hb : rd mm b = .tup xs) (ha : hgt a ≤ 64) (hx : hgts xs + 1 ≤ 64) (q : Q (.bl (memD a xs)) mm) : WO (binS .mem a b mm) Q :=
  WO.of (by
    show memS a b false mm = _
    unfold memS
    rw [hb]
    simp [okEq, hgt, ha, hx]) q
theorem wo_getN {a b x : D} {ks vs : List D} (ha : rd mm a = .dct ks vs) (hb : isKT b = true) (hk : ks.all isKT = true) (hi : idxOfD b ks = none) (q : Q x mm) : WO (getS a b x mm) Q :=
  WO.of (by unfold getS; rw [ha]; simp [hb, hk, hi]) q
theorem wo_getK {a b x y : D} {ks vs : List D} {j : Nat} (ha : rd mm a = .dct ks vs) (hb : isKT b = true) (hk : ks.all isKT = true) (hi : idxOfD b ks = some j) (hy : vs[j]? = some y) (q : Q y mm) : WO (getS a b x mm) Q :=
  WO.of (by unfold getS; rw [ha]; simp [hb, hk, hi, hy]) q
end
/-- a try whose body raises what is caught -/
theorem ws_tryX {sub : Nat → Nat → Option Bool} {gv : Nat → D} {cf : Nat → List D → Mm → Option FR} {sl sl1 : Sl} {mm mm1 : Mm} {QS : RS → Prop} {b : B} {hs : Hs} {x : Ex} {d : D} (h : semB sub gv cf b sl mm = some (.ex x sl1 mm1)) (hh : hsS sub hs x = some (some d)) (q : QS (.rt d mm1)) : WS (semS sub gv cf (.try b hs) sl mm) QS := by
  rw [t_try, h]
  exact ⟨_, by simp only [tryS, hh], q⟩
end Mp
/-! Ba: rules, parts, stands, events, what events do (no program in sight), over Pv. -/
namespace Mp
structure Ru where
  c : Int
  b : Tx
  p : Tx
  o : Int
  k : Int
  l : Tx
  m : Tx
  a : Bool
  r : Bool
abbrev Ru.d (r : Ru) : D := .tup [.int r.c, .str r.b, .str r.p, .int r.o, .int r.k, .str r.l, .str r.m, .bl r.a, .bl r.r]
structure Good (r : Ru) : Prop where
  c1 : 1 ≤ r.c
  c2 : r.c ≤ 4
  b : r.b = tAnew ∨ r.b = tLonger ∨ r.b = tNew ∨ r.b = tSame
  p : r.p = tAnew ∨ r.p = tLonger ∨ r.p = tSame
  o1 : 0 ≤ r.o
  o2 : r.o ≤ 3
  k1 : 0 ≤ r.k
  k2 : r.k ≤ 8
  l : r.l = tEither ∨ r.l = tFirst ∨ r.l = tThing
  m : r.m = tEnds ∨ r.m = tStays
  ck : r.k = 0 ∨ r.c ≤ r.k
structure Pt where
  k : Tx
  w : Int
  s : Tx
  deriving DecidableEq
abbrev Pt.d (p : Pt) : D := .tup [.str p.k, .int p.w, .str p.s]
def dQ : Option Pt → D
  | none => .non
  | some p => p.d
structure Sd where
  age : Int
  left : Int
  p : Pt
  q : Option Pt
  deriving DecidableEq
abbrev Sd.d (s : Sd) : D := .tup [.int s.age, .int s.left, s.p.d, dQ s.q]
@[simp] theorem dQ_some {p : Pt} : dQ (some p) = .tup [.str p.k, .int p.w, .str p.s] := rfl
@[simp] theorem dQ_none : dQ none = .non := rfl
@[simp] theorem dQ_pure {q : Option Pt} : pureD (dQ q) = true := by cases q <;> simp [dQ]
@[simp] theorem dQ_isN {q : Option Pt} {mm : Mm} : unS .isN (dQ q) mm = okE (.bl q.isNone) mm := by cases q <;> rfl
@[simp] theorem dQ_notN {q : Option Pt} {mm : Mm} : unS .notN (dQ q) mm = okE (.bl q.isSome) mm := by cases q <;> rfl
def changedM (r : Ru) (age left : Int) (w : Tx) : Int :=
  let l := if w = tAnew ∨ w = tNew then r.c else if w = tLonger then min (left + 1) r.c else left
  if r.k = 0 then l else min l (r.k - age)
def coveredM (r : Ru) (left : Int) (p : Pt) : Bool :=
  let t := decide (0 < left) && (!decide (p.k = tAlien) || r.a)
  if r.l = tFirst then (if p.k = tCame then decide (0 < p.w) else t) else t || (decide (r.l = tEither) && decide (0 < p.w))
def movedM (r : Ru) (p : Pt) : Pt := if r.m = tStays then p else ⟨p.k, 0, p.s⟩
def olderM (p : Pt) : Pt := ⟨p.k, max 0 (p.w - 1), p.s⟩
def claimedM (r : Ru) (s : Sd) : Sd × Tx :=
  if s.p.s = tGood then (s, tNothing) else if coveredM r s.left s.p = false then (s, tRefused) else
    (⟨s.age, changedM r s.age s.left r.p, ⟨tCame, r.o, tGood⟩, if r.r = true then s.q else some ⟨(movedM r s.p).k, (movedM r s.p).w, tPaid⟩⟩, tPaid)
def bodiedM (r : Ru) (s : Sd) : Sd × Tx :=
  if s.left = 0 then (s, tRefused) else (⟨s.age, changedM r s.age s.left r.b, if r.b = tNew then ⟨tFirst, 0, tGood⟩ else s.p, s.q⟩, tPaid)
def dayM (r : Ru) (s : Sd) : Sd := ⟨if r.k = 0 then s.age else min (s.age + 1) r.k, max 0 (s.left - 1), olderM s.p, s.q.map olderM⟩
inductive Ev where | body | break | claim | day | fetch | put
  deriving DecidableEq
def Ev.t : Ev → Tx
  | .body => tBody
  | .break => tBreak
  | .claim => tClaim
  | .day => tDay
  | .fetch => tFetch
  | .put => tPut
abbrev Ev.d (e : Ev) : D := .tup [.str e.t]
def stepM (r : Ru) (s : Sd) (e : Ev) : Sd × Tx := match e with
  | .body => bodiedM r s
  | .claim => claimedM r s
  | .day => (dayM r s, tDone)
  | .break => let t : Sd := if s.p.s = tGood then ⟨s.age, s.left, ⟨s.p.k, s.p.w, tBroken⟩, s.q⟩ else s
    (t, if t = s then tNothing else tDone)
  | .fetch => let t : Sd := ⟨s.age, s.left, s.p, some ⟨tAlien, 0, tBroken⟩⟩
    (t, if t = s then tNothing else tDone)
  | .put => let t : Sd := match s.q with
      | none => s
      | some q => ⟨s.age, s.left, movedM r q, some (movedM r s.p)⟩
    (t, if t = s then tNothing else tDone)
theorem eq_Pt (p q : Pt) : eqD p.d q.d = decide (p = q) := by
  cases p; cases q
  simp [eqD, eqDs, Pt.d, Bool.and_comm]
theorem eq_dQ (p q : Option Pt) : eqD (dQ p) (dQ q) = decide (p = q) := by
  cases p <;> cases q
  · rfl
  · rfl
  · rfl
  · rename_i a b
    show eqD a.d b.d = _
    rw [eq_Pt]; simp
theorem eq_Sd (s t : Sd) : eqD s.d t.d = decide (s = t) := by
  rcases s with ⟨a, l, ⟨k, w, x⟩, q⟩
  rcases t with ⟨a', l', ⟨k', w', x'⟩, q'⟩
  simp only [eqD, eqDs, Sd.d, Pt.d, eq_dQ]
  simp [Sd.mk.injEq, Pt.mk.injEq, Bool.and_assoc]
theorem hgt_dQ (q : Option Pt) : hgt (dQ q) ≤ 1 := by cases q <;> simp [dQ, hgt, hgts]
theorem ne_Sd (s t : Sd) (mm : Mm) : binS .ne s.d t.d mm = okE (.bl (!decide (s = t))) mm := by
  have h1 := hgt_dQ s.q
  have h2 := hgt_dQ t.q
  have o1 : okEq s.d = true := by simp [okEq, Sd.d, hgt, hgts]; omega
  have o2 : okEq t.d = true := by simp [okEq, Sd.d, hgt, hgts]; omega
  show eqS s.d t.d true mm = _
  unfold eqS
  simp only [rdv_tup, o1, o2, Bool.and_self, if_true, eq_Sd]
structure GoodS (r : Ru) (s : Sd) : Prop where
  age : 0 ≤ s.age
  left : 0 ≤ s.left
  cap : r.k = 0 → s.age = 0
  own : 0 ≤ s.p.w
  loose : ∀ q, s.q = some q → 0 ≤ q.w
section
variable {mm : Mm}
@[simp] theorem slc_two {a b c : D} : slcS (.tup [a, b, c]) none (some 2) mm = okE (.tup [a, b]) mm := rfl
@[simp] theorem o_addT {xs ys : List D} : binS .add (.tup xs) (.tup ys) mm = if xs.length + ys.length ≤ 16777216 then okE (.tup (xs ++ ys)) mm else none := rfl
@[simp] theorem o_eqT1 {x y : Tx} : binS .eq (.tup [.str x]) (.tup [.str y]) mm = okE (.bl (decide (x = y))) mm := by
  show eqS _ _ _ _ = _
  simp [eqS, okEq, hgt, hgts, eqD, eqDs]
theorem eq_Sd2 (s t : Sd) (mm : Mm) : binS .eq s.d t.d mm = okE (.bl (decide (s = t))) mm := by
  have h1 := hgt_dQ s.q
  have h2 := hgt_dQ t.q
  have o1 : okEq s.d = true := by simp [okEq, Sd.d, hgt, hgts]; omega
  have o2 : okEq t.d = true := by simp [okEq, Sd.d, hgt, hgts]; omega
  show eqS s.d t.d false mm = _
  unfold eqS
  simp only [rdv_tup, o1, o2, Bool.and_self, if_true, eq_Sd]
  rfl
end
/-! ### what stays -/
theorem changed_nn {r : Ru} (g : Good r) {age left : Int} {w : Tx} (ha : r.k = 0 ∨ age ≤ r.k) (hl : 0 ≤ left) : 0 ≤ changedM r age left w := by
  have := g.c1
  unfold changedM
  simp only []
  split <;> split <;> (try split) <;> omega
abbrev s0 (r : Ru) : Sd := ⟨0, r.c, ⟨tFirst, 0, tGood⟩, none⟩
/-! ### stands stay good -/
structure GoodT (r : Ru) (s : Sd) : Prop extends GoodS r s where
  capb : s.age ≤ r.k
theorem good_s0 {r : Ru} (g : Good r) : GoodT r (s0 r) := by
  have h1 := g.c1
  have h2 := g.k1
  exact { age := by simp, left := by show 0 ≤ r.c; omega, cap := fun _ => rfl, own := by simp, loose := fun q h => (by cases h), capb := by show (0 : Int) ≤ r.k; omega }
theorem moved_own {r : Ru} {p : Pt} (h : 0 ≤ p.w) : 0 ≤ (movedM r p).w := by
  unfold movedM
  split
  · exact h
  · exact Int.le_refl 0
theorem good_step {r : Ru} (g : Good r) {s : Sd} (t : GoodT r s) (e : Ev) : GoodT r (stepM r s e).1 := by
  have c1 := g.c1
  have o1 := g.o1
  have k1 := g.k1
  have ta := t.age
  have tl := t.left
  have tc := t.cap
  have tw := t.own
  have tq := t.loose
  have tb := t.capb
  cases e
  · show GoodT r (bodiedM r s).1
    unfold bodiedM
    split
    · exact t
    · refine { age := ta, left := changed_nn g (.inr tb) tl, cap := tc, own := ?_, loose := tq, capb := tb }
      show 0 ≤ (if r.b = tNew then (⟨tFirst, 0, tGood⟩ : Pt) else s.p).w
      split
      · exact Int.le_refl 0
      · exact tw
  · show GoodT r (if s.p.s = tGood then (⟨s.age, s.left, ⟨s.p.k, s.p.w, tBroken⟩, s.q⟩ : Sd) else s)
    split
    · exact { age := ta, left := tl, cap := tc, own := tw, loose := tq, capb := tb }
    · exact t
  · show GoodT r (claimedM r s).1
    unfold claimedM
    split
    · exact t
    · split
      · exact t
      · refine { age := ta, left := changed_nn g (.inr tb) tl, cap := tc, own := o1, loose := fun q h => ?_, capb := tb }
        have h : (if r.r = true then s.q else some (⟨(movedM r s.p).k, (movedM r s.p).w, tPaid⟩ : Pt)) = some q := h
        split at h
        · exact tq q h
        · cases h; exact moved_own tw
  · show GoodT r (dayM r s)
    refine { age := ?_, left := ?_, cap := fun h => ?_, own := ?_, loose := fun q h => ?_, capb := ?_ }
    · show 0 ≤ (if r.k = 0 then s.age else min (s.age + 1) r.k); split <;> omega
    · show 0 ≤ max 0 (s.left - 1); omega
    · show (if r.k = 0 then s.age else min (s.age + 1) r.k) = 0; rw [if_pos h]; exact tc h
    · show 0 ≤ max 0 (s.p.w - 1); omega
    · have h : s.q.map olderM = some q := h
      obtain ⟨q', _, rfl⟩ := Option.map_eq_some_iff.mp h
      show 0 ≤ max 0 (q'.w - 1); omega
    · show (if r.k = 0 then s.age else min (s.age + 1) r.k) ≤ r.k; split <;> omega
  · exact { age := ta, left := tl, cap := tc, own := tw, loose := fun q h => (by cases h; exact Int.le_refl 0), capb := tb }
  · show GoodT r (match s.q with | none => s | some q => (⟨s.age, s.left, movedM r q, some (movedM r s.p)⟩ : Sd))
    cases hq : s.q with
    | none => exact t
    | some q => exact { age := ta, left := tl, cap := tc, own := moved_own (tq q hq), loose := fun q h => (by cases h; exact moved_own tw), capb := tb }
abbrev rowD (evs : List Ev) : D := .tup (evs.map Ev.d)
theorem pure_evs : ∀ evs : List Ev, pureDs (evs.map Ev.d) = true
  | [] => rfl
  | e :: evs => by rw [List.map_cons, pu_cons, pure_evs evs]; simp [Ev.d]
def runM (r : Ru) : Sd → List Ev → Sd × List Tx
  | s, [] => (s, [])
  | s, e :: es => ((runM r (stepM r s e).1 es).1, (stepM r s e).2 :: (runM r (stepM r s e).1 es).2)
theorem pure_strs : ∀ ws : List Tx, pureDs (ws.map .str) = true
  | [] => rfl
  | _ :: ws => by rw [List.map_cons, pu_cons, pure_strs ws]; rfl
end Mp
/-! Bf: all stands that can come about, in the order they are found (no program in sight), over Ba. -/
namespace Mp
/-! ### lists without doubles -/
theorem nd_len {α : Type} [DecidableEq α] : ∀ (xs ys : List α), xs.Nodup → (∀ x ∈ xs, x ∈ ys) → xs.length ≤ ys.length
  | [], _, _, _ => Nat.zero_le _
  | x :: xs, ys, h, hm => by
    have hx : x ∈ ys := hm x (by simp)
    rw [List.nodup_cons] at h
    have := nd_len xs (ys.erase x) h.2 fun z hz => by
      have hne : z ≠ x := fun e => h.1 (e ▸ hz)
      exact (List.mem_erase_of_ne hne).mpr (hm z (by simp [hz]))
    rw [List.length_erase_of_mem hx] at this
    have hp : 0 < ys.length := List.length_pos_of_mem hx
    simp only [List.length_cons]; omega
theorem nd_map {α β : Type} {f : α → β} : ∀ {xs : List α}, xs.Nodup → (∀ x ∈ xs, ∀ y ∈ xs, f x = f y → x = y) → (xs.map f).Nodup
  | [], _, _ => by simp
  | x :: xs, h, hf => by
    rw [List.nodup_cons] at h
    rw [List.map_cons, List.nodup_cons]
    refine ⟨fun hm => ?_, nd_map h.2 fun a ha b hb => hf a (by simp [ha]) b (by simp [hb])⟩
    obtain ⟨y, hy, e⟩ := List.mem_map.mp hm
    have := hf y (by simp [hy]) x (by simp) e
    exact h.1 (this ▸ hy)
theorem nd_at {α β : Type} {f : α → β} {xs : List α} (h : (xs.map f).Nodup) {i j : Nat} {x y : α} (hi : xs[i]? = some x) (hj : xs[j]? = some y) (e : f x = f y) : i = j := by
  have a : (xs.map f)[i]? = some (f x) := by rw [List.getElem?_map, hi]; rfl
  have b : (xs.map f)[j]? = some (f x) := by rw [List.getElem?_map, hj, e]; rfl
  obtain ⟨h1, e1⟩ := List.getElem?_eq_some_iff.mp a
  obtain ⟨h2, e2⟩ := List.getElem?_eq_some_iff.mp b
  exact (List.getElem_inj h).mp (e1.trans e2.symm)
theorem at_mem {α : Type} {xs : List α} {i : Nat} {x : α} (h : xs[i]? = some x) : x ∈ xs := List.mem_iff_getElem?.mpr ⟨i, h⟩
theorem mem_at {α : Type} {xs : List α} {x : α} (h : x ∈ xs) : ∃ i : Nat, xs[i]? = some x := List.mem_iff_getElem?.mp h
theorem at_lt {α : Type} {xs : List α} {i : Nat} {x : α} (h : xs[i]? = some x) : i < xs.length := (List.getElem?_eq_some_iff.mp h).1
theorem at_app {α : Type} {xs ys : List α} {i : Nat} {x : α} (h : xs[i]? = some x) : (xs ++ ys)[i]? = some x := by
  rw [List.getElem?_append_left (at_lt h)]; exact h
/-! ### stands are few -/
structure PtOk (p : Pt) : Prop where
  k : p.k = tFirst ∨ p.k = tCame ∨ p.k = tAlien
  w0 : 0 ≤ p.w
  w3 : p.w ≤ 3
  s : p.s = tGood ∨ p.s = tBroken ∨ p.s = tPaid
structure StOk (r : Ru) (s : Sd) : Prop extends GoodT r s where
  lc : s.left ≤ r.c
  pk : PtOk s.p
  qk : ∀ q, s.q = some q → PtOk q
def kC (k : Tx) : Nat := if k = tFirst then 0 else if k = tCame then 1 else 2
def sC (k : Tx) : Nat := if k = tGood then 0 else if k = tBroken then 1 else 2
def pC (p : Pt) : Nat := kC p.k * 12 + p.w.toNat * 3 + sC p.s
def qC : Option Pt → Nat
  | none => 36
  | some p => pC p
def stC (s : Sd) : Nat := s.age.toNat * 6660 + s.left.toNat * 1332 + pC s.p * 37 + qC s.q
theorem kC_lt (k : Tx) : kC k < 3 := by unfold kC; split <;> (try split) <;> omega
theorem sC_lt (k : Tx) : sC k < 3 := by unfold sC; split <;> (try split) <;> omega
theorem kC_inj {a b : Tx} (ha : a = tFirst ∨ a = tCame ∨ a = tAlien) (hb : b = tFirst ∨ b = tCame ∨ b = tAlien) (h : kC a = kC b) : a = b := by
  rcases ha with rfl | rfl | rfl <;> rcases hb with rfl | rfl | rfl <;> first | rfl | exact absurd h (by decide)
theorem sC_inj {a b : Tx} (ha : a = tGood ∨ a = tBroken ∨ a = tPaid) (hb : b = tGood ∨ b = tBroken ∨ b = tPaid) (h : sC a = sC b) : a = b := by
  rcases ha with rfl | rfl | rfl <;> rcases hb with rfl | rfl | rfl <;> first | rfl | exact absurd h (by decide)
theorem pC_lt {p : Pt} (h : PtOk p) : pC p < 36 := by
  have h1 := kC_lt p.k
  have h2 := sC_lt p.s
  have h3 := h.w0
  have h4 := h.w3
  unfold pC; omega
theorem pC_inj {p q : Pt} (hp : PtOk p) (hq : PtOk q) (h : pC p = pC q) : p = q := by
  have h1 := kC_lt p.k
  have h2 := sC_lt p.s
  have h3 := hp.w0
  have h4 := hp.w3
  have g1 := kC_lt q.k
  have g2 := sC_lt q.s
  have g3 := hq.w0
  have g4 := hq.w3
  unfold pC at h
  have e1 : kC p.k = kC q.k := by omega
  have e2 : p.w = q.w := by omega
  have e3 : sC p.s = sC q.s := by omega
  have e1 := kC_inj hp.k hq.k e1
  have e3 := sC_inj hp.s hq.s e3
  cases p; cases q
  simp only at e1 e2 e3
  rw [e1, e2, e3]
theorem qC_lt {q : Option Pt} (h : ∀ p, q = some p → PtOk p) : qC q < 37 := by
  cases q with
  | none => show 36 < 37; omega
  | some p => have := pC_lt (h p rfl); show pC p < 37; omega
theorem qC_inj {p q : Option Pt} (hp : ∀ x, p = some x → PtOk x) (hq : ∀ x, q = some x → PtOk x) (h : qC p = qC q) : p = q := by
  cases p with
  | none =>
    cases q with
    | none => rfl
    | some q => have := pC_lt (hq q rfl); have h : 36 = pC q := h; omega
  | some p =>
    cases q with
    | none => have := pC_lt (hp p rfl); have h : pC p = 36 := h; omega
    | some q => rw [pC_inj (hp p rfl) (hq q rfl) h]
theorem stC_lt {r : Ru} (g : Good r) {s : Sd} (h : StOk r s) : stC s < 59940 := by
  have h1 := pC_lt h.pk
  have h2 := qC_lt h.qk
  have h3 := h.capb
  have h4 := h.age
  have h5 := h.left
  have h6 := h.lc
  have h7 := g.k2
  have h8 := g.c2
  unfold stC; omega
theorem stC_inj {r : Ru} (g : Good r) {s t : Sd} (h : StOk r s) (k : StOk r t) (e : stC s = stC t) : s = t := by
  have h1 := pC_lt h.pk
  have h2 := qC_lt h.qk
  have h3 := h.capb
  have h4 := h.age
  have h5 := h.left
  have h6 := h.lc
  have h7 := g.k2
  have h8 := g.c2
  have k1 := pC_lt k.pk
  have k2 := qC_lt k.qk
  have k3 := k.capb
  have k4 := k.age
  have k5 := k.left
  have k6 := k.lc
  unfold stC at e
  have e1 : s.age = t.age := by omega
  have e2 : s.left = t.left := by omega
  have e3 : pC s.p = pC t.p := by omega
  have e4 : qC s.q = qC t.q := by omega
  have e3 := pC_inj h.pk k.pk e3
  have e4 := qC_inj h.qk k.qk e4
  cases s; cases t
  simp only at e1 e2 e3 e4
  rw [e1, e2, e3, e4]
theorem few {r : Ru} (g : Good r) {L : List Sd} (hn : L.Nodup) (h : ∀ s ∈ L, StOk r s) : L.length ≤ 59940 := by
  have a := nd_len (L.map stC) (List.range 59940) (nd_map hn fun x hx y hy e => stC_inj g (h x hx) (h y hy) e) fun n hn => by
    obtain ⟨s, hs, rfl⟩ := List.mem_map.mp hn
    rw [List.mem_range]; exact stC_lt g (h s hs)
  simpa using a
theorem ptok_first : PtOk ⟨tFirst, 0, tGood⟩ := ⟨.inl rfl, by simp, by simp, .inl rfl⟩
theorem stok_s0 {r : Ru} (g : Good r) : StOk r (s0 r) := { good_s0 g with lc := Int.le_refl _, pk := ptok_first, qk := fun q h => (by cases h) }
theorem ptok_moved {r : Ru} {p : Pt} (h : PtOk p) : PtOk (movedM r p) := by
  unfold movedM
  split
  · exact h
  · exact ⟨h.k, by simp, by simp, h.s⟩
theorem ptok_older {p : Pt} (h : PtOk p) : PtOk (olderM p) := by
  have h1 := h.w0
  have h2 := h.w3
  exact ⟨h.k, by show 0 ≤ max 0 (p.w - 1); omega, by show max 0 (p.w - 1) ≤ 3; omega, h.s⟩
theorem changed_le {r : Ru} {age left : Int} {w : Tx} (h : left ≤ r.c) : changedM r age left w ≤ r.c := by
  unfold changedM
  simp only []
  split <;> split <;> (try split) <;> omega
theorem stok_step {r : Ru} (g : Good r) {s : Sd} (t : StOk r s) (e : Ev) : StOk r (stepM r s e).1 := by
  have gt := good_step g t.toGoodT e
  have o1 := g.o1
  have o2 := g.o2
  have lc := t.lc
  have pk := t.pk
  have qk := t.qk
  have tl := t.left
  refine { gt with lc := ?_, pk := ?_, qk := ?_ }
  · cases e
    · show (bodiedM r s).1.left ≤ r.c
      unfold bodiedM
      split
      · exact lc
      · exact changed_le lc
    · show (if s.p.s = tGood then (⟨s.age, s.left, ⟨s.p.k, s.p.w, tBroken⟩, s.q⟩ : Sd) else s).left ≤ r.c
      split <;> exact lc
    · show (claimedM r s).1.left ≤ r.c
      unfold claimedM
      split
      · exact lc
      · split
        · exact lc
        · exact changed_le lc
    · show max 0 (s.left - 1) ≤ r.c
      have := g.c1; omega
    · exact lc
    · show (match s.q with | none => s | some q => (⟨s.age, s.left, movedM r q, some (movedM r s.p)⟩ : Sd)).left ≤ r.c
      cases s.q <;> exact lc
  · cases e
    · show PtOk (bodiedM r s).1.p
      unfold bodiedM
      split
      · exact pk
      · show PtOk (if r.b = tNew then (⟨tFirst, 0, tGood⟩ : Pt) else s.p)
        split
        · exact ptok_first
        · exact pk
    · show PtOk (if s.p.s = tGood then (⟨s.age, s.left, ⟨s.p.k, s.p.w, tBroken⟩, s.q⟩ : Sd) else s).p
      split
      · exact ⟨pk.k, pk.w0, pk.w3, .inr (.inl rfl)⟩
      · exact pk
    · show PtOk (claimedM r s).1.p
      unfold claimedM
      split
      · exact pk
      · split
        · exact pk
        · exact ⟨.inr (.inl rfl), o1, o2, .inl rfl⟩
    · exact ptok_older pk
    · exact pk
    · show PtOk (match s.q with | none => s | some q => (⟨s.age, s.left, movedM r q, some (movedM r s.p)⟩ : Sd)).p
      cases hq : s.q with
      | none => exact pk
      | some q => exact ptok_moved (qk q hq)
  · intro q h
    cases e
    · have h : (bodiedM r s).1.q = some q := h
      unfold bodiedM at h
      split at h <;> exact qk q h
    · have h : (if s.p.s = tGood then (⟨s.age, s.left, ⟨s.p.k, s.p.w, tBroken⟩, s.q⟩ : Sd) else s).q = some q := h
      split at h <;> exact qk q h
    · have h : (claimedM r s).1.q = some q := h
      unfold claimedM at h
      split at h
      · exact qk q h
      · split at h
        · exact qk q h
        · have h : (if r.r = true then s.q else some (⟨(movedM r s.p).k, (movedM r s.p).w, tPaid⟩ : Pt)) = some q := h
          split at h
          · exact qk q h
          · cases h
            have := ptok_moved (r := r) pk
            exact ⟨this.k, this.w0, this.w3, .inr (.inr rfl)⟩
    · have h : s.q.map olderM = some q := h
      obtain ⟨q', h1, rfl⟩ := Option.map_eq_some_iff.mp h
      exact ptok_older (qk q' h1)
    · cases h
      exact ⟨.inr (.inr rfl), by simp, by simp, .inr (.inl rfl)⟩
    · have h : (match s.q with | none => s | some q => (⟨s.age, s.left, movedM r q, some (movedM r s.p)⟩ : Sd)).q = some q := h
      cases hq : s.q with
      | none => rw [hq] at h; exact qk q (by rw [← h])
      | some x => rw [hq] at h; cases h; exact ptok_moved pk
/-! ### the search -/
structure Nd where
  s : Sd
  n : Nat
  p : Option (Sd × Ev)
  deriving DecidableEq
def EVS : List Ev := [.body, .break, .claim, .day, .fetch, .put]
theorem all_evs (e : Ev) : e ∈ EVS := by cases e <;> decide
abbrev nx (r : Ru) (x : Nd) (e : Ev) : Nd := ⟨(stepM r x.s e).1, x.n + 1, some (x.s, e)⟩
def addN (r : Ru) (x : Nd) (N : List Nd) (e : Ev) : List Nd := if (stepM r x.s e).1 ∈ N.map Nd.s then N else N ++ [nx r x e]
def visit (r : Ru) (x : Nd) (N : List Nd) : List Nd := EVS.foldl (addN r x) N
abbrev root (r : Ru) : Nd := ⟨s0 r, 0, none⟩
def bf (r : Ru) : Nat → List Nd
  | 0 => [root r]
  | i + 1 => match (bf r i)[i]? with
    | some x => visit r x (bf r i)
    | none => bf r i
theorem bf_at {r : Ru} {i : Nat} {x : Nd} (h : (bf r i)[i]? = some x) : bf r (i + 1) = visit r x (bf r i) := by simp only [bf, h]
theorem bf_no {r : Ru} {i : Nat} (h : (bf r i)[i]? = none) : bf r (i + 1) = bf r i := by simp only [bf, h]
theorem addN_pre (r : Ru) (x : Nd) (N : List Nd) (e : Ev) : ∃ t, addN r x N e = N ++ t := by
  unfold addN
  split
  · exact ⟨[], by simp⟩
  · exact ⟨_, rfl⟩
theorem addNs_pre (r : Ru) (x : Nd) : ∀ (a : List Ev) (N : List Nd), ∃ t, a.foldl (addN r x) N = N ++ t
  | [], N => ⟨[], by simp⟩
  | e :: a, N => by
    obtain ⟨t, h⟩ := addN_pre r x N e
    obtain ⟨t2, h2⟩ := addNs_pre r x a (addN r x N e)
    exact ⟨t ++ t2, by rw [List.foldl_cons, h2, h, List.append_assoc]⟩
theorem bf_pre1 (r : Ru) (i : Nat) : ∃ t, bf r (i + 1) = bf r i ++ t := by
  cases h : (bf r i)[i]? with
  | none => exact ⟨[], by rw [bf_no h, List.append_nil]⟩
  | some x => rw [bf_at h]; exact addNs_pre r x EVS (bf r i)
theorem bf_pre (r : Ru) (i k : Nat) : ∃ t, bf r (i + k) = bf r i ++ t := by
  induction k with
  | zero => exact ⟨[], by simp⟩
  | succ k ih =>
    obtain ⟨t, h⟩ := ih
    obtain ⟨t2, h2⟩ := bf_pre1 r (i + k)
    exact ⟨t ++ t2, by rw [← Nat.add_assoc, h2, h, List.append_assoc]⟩
/-- what holds of the stands found so far; m: the most events -/
structure BI (r : Ru) (m : Nat) (N : List Nd) : Prop where
  z : N[0]? = some (root r)
  nd : (N.map Nd.s).Nodup
  ok : ∀ x ∈ N, StOk r x.s
  way : ∀ (j : Nat) (x : Nd), N[j]? = some x → j ≠ 0 → ∃ k y e, k < j ∧ N[k]? = some y ∧ x = nx r y e
  srt : ∀ (j k : Nat) (x y : Nd), j ≤ k → N[j]? = some x → N[k]? = some y → x.n ≤ y.n
  top : ∀ x ∈ N, x.n ≤ m
theorem BI.up {r : Ru} {m m' : Nat} {N : List Nd} (b : BI r m N) (h : m ≤ m') : BI r m' N := { b with top := fun x hx => Nat.le_trans (b.top x hx) h }
theorem BI.add {r : Ru} (g : Good r) {N : List Nd} {x : Nd} {i : Nat} (b : BI r (x.n + 1) N) (hx : N[i]? = some x) (e : Ev) : BI r (x.n + 1) (addN r x N e) := by
  unfold addN
  split
  · exact b
  · rename_i hn
    have hl : ∀ (j : Nat) (y : Nd), (N ++ [nx r x e])[j]? = some y → N[j]? = some y ∨ j = N.length ∧ y = nx r x e := fun j y h => by
      by_cases hj : j < N.length
      · rw [List.getElem?_append_left hj] at h; exact .inl h
      · rw [List.getElem?_append_right (by omega)] at h
        have : j - N.length = 0 := by
          have := at_lt h; simpa using this
        rw [this] at h
        simp only [List.getElem?_cons_zero, Option.some.injEq] at h
        exact .inr ⟨by omega, h.symm⟩
    refine ⟨at_app b.z, ?_, ?_, ?_, ?_, ?_⟩
    · rw [List.map_append, List.map_cons, List.map_nil, List.nodup_append]
      exact ⟨b.nd, by simp, fun a ha c hc => by
        simp only [List.mem_singleton] at hc
        subst hc
        exact fun e => hn (e ▸ ha)⟩
    · intro y hy
      rcases List.mem_append.mp hy with hy | hy
      · exact b.ok y hy
      · simp only [List.mem_singleton] at hy
        subst hy
        exact stok_step g (b.ok x (at_mem hx)) e
    · intro j y h hj
      rcases hl j y h with h | ⟨rfl, rfl⟩
      · obtain ⟨k, z, e', h1, h2, h3⟩ := b.way j y h hj
        exact ⟨k, z, e', h1, at_app h2, h3⟩
      · exact ⟨i, x, e, at_lt hx, at_app hx, rfl⟩
    · intro j k y z hjk hy hz
      rcases hl j y hy with h | ⟨rfl, rfl⟩
      · rcases hl k z hz with h' | ⟨rfl, rfl⟩
        · exact b.srt j k y z hjk h h'
        · exact b.top y (at_mem h)
      · rcases hl k z hz with h' | ⟨rfl, rfl⟩
        · have := at_lt h'; omega
        · exact Nat.le_refl _
    · intro y hy
      rcases List.mem_append.mp hy with hy | hy
      · exact b.top y hy
      · simp only [List.mem_singleton] at hy
        subst hy; exact Nat.le_refl _
theorem BI.adds {r : Ru} (g : Good r) {x : Nd} {i : Nat} : ∀ (a : List Ev) {N : List Nd}, BI r (x.n + 1) N → N[i]? = some x → BI r (x.n + 1) (a.foldl (addN r x) N)
  | [], _, b, _ => b
  | e :: a, N, b, h => by
    rw [List.foldl_cons]
    obtain ⟨t, q⟩ := addN_pre r x N e
    exact BI.adds g a (b.add g h e) (by rw [q]; exact at_app h)
theorem bf_inv {r : Ru} (g : Good r) : ∀ i, ∃ m, BI r m (bf r i) ∧ ∀ x, (bf r i)[i]? = some x → m ≤ x.n + 1
  | 0 => ⟨0, ⟨rfl, by simp [bf], fun x hx => by
      simp only [bf, List.mem_singleton] at hx
      subst hx; exact stok_s0 g, fun j x h hj => by
      have := at_lt h
      simp only [bf, List.length_singleton] at this
      omega, fun j k x y _ h h' => by
      have hj := at_lt h
      have hk := at_lt h'
      simp only [bf, List.length_singleton] at hj hk
      obtain rfl : j = 0 := by omega
      obtain rfl : k = 0 := by omega
      rw [h] at h'; cases h'; exact Nat.le_refl _, fun x hx => by
      simp only [bf, List.mem_singleton] at hx
      subst hx; exact Nat.le_refl _⟩, fun x _ => Nat.zero_le _⟩
  | i + 1 => by
    obtain ⟨m, b, hm⟩ := bf_inv g i
    cases h : (bf r i)[i]? with
    | none =>
      rw [bf_no h]
      refine ⟨m, b, fun x hx => ?_⟩
      have := at_lt hx
      rw [List.getElem?_eq_none_iff] at h
      omega
    | some x =>
      have hm := hm x h
      have b' := BI.adds g EVS (b.up hm) h
      rw [bf_at h]
      refine ⟨x.n + 1, b', fun y hy => ?_⟩
      obtain ⟨t, q⟩ := addNs_pre r x EVS (bf r i)
      have hx' : (visit r x (bf r i))[i]? = some x := by unfold visit; rw [q]; exact at_app h
      have := b'.srt i (i + 1) x y (by omega) hx' hy
      omega
/-- in the midst of a visit -/
theorem bf_mid {r : Ru} (g : Good r) {i : Nat} {x : Nd} (h : (bf r i)[i]? = some x) (a : List Ev) : BI r (x.n + 1) (a.foldl (addN r x) (bf r i)) := by
  obtain ⟨m, b, hm⟩ := bf_inv g i
  exact BI.adds g a (b.up (hm x h)) h
theorem BI.few {r : Ru} (g : Good r) {m : Nat} {N : List Nd} (b : BI r m N) : N.length ≤ 59940 := by
  have := Mp.few g b.nd fun s hs => by
    obtain ⟨x, hx, rfl⟩ := List.mem_map.mp hs
    exact b.ok x hx
  simpa using this
theorem bf_few {r : Ru} (g : Good r) (i : Nat) : (bf r i).length ≤ 59940 := by
  obtain ⟨m, b, _⟩ := bf_inv g i
  exact b.few g
theorem bf_stay {r : Ru} {i : Nat} (h : (bf r i).length ≤ i) : ∀ k, bf r (i + k) = bf r i
  | 0 => rfl
  | k + 1 => by
    have ih := bf_stay h k
    rw [← Nat.add_assoc, bf_no (by rw [List.getElem?_eq_none_iff, ih]; omega), ih]
/-- all stands that can come about -/
theorem lim_ex : ∃ n : Nat, 60000 ≤ n := ⟨60000, Nat.le_refl _⟩
noncomputable def lim : Nat := lim_ex.choose
theorem lim_ge : 60000 ≤ lim := lim_ex.choose_spec
noncomputable def fin (r : Ru) : List Nd := bf r lim
theorem bf_fin {r : Ru} (g : Good r) {i : Nat} (h : (bf r i).length ≤ i) : bf r i = fin r := by
  have hl := lim_ge
  have hf : (bf r lim).length ≤ lim := by have := bf_few g lim; omega
  by_cases hi : i ≤ lim
  · have := bf_stay h (lim - i)
    rw [show i + (lim - i) = lim by omega] at this
    exact this.symm
  · have h2 : bf r (lim + (i - lim)) = bf r lim := bf_stay hf (i - lim)
    rw [show lim + (i - lim) = i by omega] at h2
    exact h2
theorem fin_inv {r : Ru} (g : Good r) : ∃ m, BI r m (fin r) := by
  obtain ⟨m, b, _⟩ := bf_inv g lim
  exact ⟨m, b⟩
theorem fin_few {r : Ru} (g : Good r) : (fin r).length ≤ 59940 := bf_few g lim
/-- what an index found stays there -/
theorem bf_keep {r : Ru} {i j : Nat} (h : i ≤ j) {k : Nat} {x : Nd} (hx : (bf r i)[k]? = some x) : (bf r j)[k]? = some x := by
  obtain ⟨t, q⟩ := bf_pre r i (j - i)
  rw [show i + (j - i) = j by omega] at q
  rw [q]; exact at_app hx
theorem addNs_has (r : Ru) (x : Nd) : ∀ (a : List Ev) (N : List Nd), ∀ e ∈ a, (stepM r x.s e).1 ∈ (a.foldl (addN r x) N).map Nd.s
  | [], _, e, h => by cases h
  | f :: a, N, e, h => by
    rw [List.foldl_cons]
    rcases List.mem_cons.mp h with rfl | h
    · obtain ⟨t, q⟩ := addNs_pre r x a (addN r x N e)
      rw [q, List.map_append]
      refine List.mem_append_left _ ?_
      unfold addN
      split
      · assumption
      · simp
    · exact addNs_has r x a _ e h
theorem bf_has {r : Ru} {i : Nat} : ∀ {j : Nat} {x : Nd}, j < i → (bf r i)[j]? = some x → j < (bf r j).length → ∀ e, (stepM r x.s e).1 ∈ (bf r i).map Nd.s := by
  intro j x hj hx hl e
  have h1 : (bf r j)[j]? = some x := by
    have h2 : (bf r j)[j]? = some (bf r j)[j] := List.getElem?_eq_getElem hl
    have h3 := bf_keep (Nat.le_of_lt hj) h2
    rw [hx] at h3
    rw [h2, h3]
  obtain ⟨t, q⟩ := bf_pre r (j + 1) (i - (j + 1))
  rw [show j + 1 + (i - (j + 1)) = i by omega] at q
  rw [q, List.map_append, bf_at h1]
  exact List.mem_append_left _ (addNs_has r x EVS _ e (all_evs e))
/-! ### ways -/
inductive Wy (r : Ru) (N : List Nd) : Nd → List Ev → Prop
  | z : root r ∈ N → Wy r N (root r) []
  | s {y : Nd} {evs : List Ev} (e : Ev) : Wy r N y evs → nx r y e ∈ N → Wy r N (nx r y e) (evs ++ [e])
theorem Wy.mem {r : Ru} {N : List Nd} {x : Nd} {evs : List Ev} (h : Wy r N x evs) : x ∈ N := by cases h <;> assumption
theorem Wy.len {r : Ru} {N : List Nd} {x : Nd} {evs : List Ev} (h : Wy r N x evs) : evs.length = x.n := by
  induction h with
  | z => rfl
  | s e _ _ ih => simp [ih]
theorem run_app (r : Ru) : ∀ (s : Sd) (a b : List Ev), (runM r s (a ++ b)).1 = (runM r (runM r s a).1 b).1
  | _, [], _ => rfl
  | s, e :: a, b => by show (runM r (stepM r s e).1 (a ++ b)).1 = _; rw [run_app r _ a b]; rfl
theorem Wy.run {r : Ru} {N : List Nd} {x : Nd} {evs : List Ev} (h : Wy r N x evs) : (runM r (s0 r) evs).1 = x.s := by
  induction h with
  | z => rfl
  | s e _ _ ih => rw [run_app, ih]; rfl
theorem BI.wy {r : Ru} {m : Nat} {N : List Nd} (b : BI r m N) : ∀ (j : Nat) (x : Nd), N[j]? = some x → ∃ evs, Wy r N x evs := by
  intro j
  induction j using Nat.strongRecOn with
  | _ j ih =>
    intro x h
    by_cases hj : j = 0
    · subst hj
      rw [b.z] at h; cases h
      exact ⟨[], .z (at_mem b.z)⟩
    · obtain ⟨k, y, e, hk, hy, rfl⟩ := b.way j x h hj
      obtain ⟨evs, w⟩ := ih k hk y hy
      exact ⟨evs ++ [e], .s e w (at_mem h)⟩
end Mp
/-! Bh: the harms that can come (no program in sight), and stands as keys, over Bf. -/
namespace Mp
abbrev tRevived : Tx := [114, 101, 118, 105, 118, 101, 100]
abbrev tTwice : Tx := [116, 119, 105, 99, 101]
def harmM (s : Sd) (e : Ev) (t : Sd) (w : Tx) : List Tx :=
  (if e = .claim ∧ w = tPaid ∧ s.p.k = tAlien then [tAlien] else []) ++ ((if e = .claim ∧ w = tRefused ∧ (0 < s.left ∧ s.p.k ≠ tAlien ∨ 0 < s.p.w) then [tRefused] else []) ++
    ((if s.left = 0 ∧ 0 < t.left then [tRevived] else []) ++ (if e = .claim ∧ w = tPaid ∧ s.p.s = tPaid then [tTwice] else [])))
def HW : List Tx := [tAlien, tRefused, tRevived, tTwice]
theorem harm_HW {s : Sd} {e : Ev} {t : Sd} {w h : Tx} (q : h ∈ harmM s e t w) : h ∈ HW := by
  unfold harmM at q
  simp only [List.mem_append] at q
  rcases q with q | q | q | q <;> split at q <;> simp at q <;> subst q <;> simp [HW]
abbrev Hq := List (Tx × Nd × Ev)
/-- what an event at a stand does -/
def hOne (r : Ru) (x : Nd) (e : Ev) : Hq := (harmM x.s e (stepM r x.s e).1 (stepM r x.s e).2).map fun h => (h, x, e)
def hNd (r : Ru) (x : Nd) : Hq := EVS.flatMap (hOne r x)
def addH (H : Hq) (q : Tx × Nd × Ev) : Hq := if q.1 ∈ H.map (·.1) then H else H ++ [q]
def hAll (l : Hq) : Hq := l.foldl addH []
theorem hAll_app (l : Hq) (q : Tx × Nd × Ev) : hAll (l ++ [q]) = addH (hAll l) q := by unfold hAll; rw [List.foldl_append]; rfl
theorem addH_mem {H : Hq} {q z : Tx × Nd × Ev} (h : z ∈ addH H q) : z ∈ H ∨ z = q := by
  unfold addH at h
  split at h
  · exact .inl h
  · rcases List.mem_append.mp h with h | h
    · exact .inl h
    · exact .inr (List.mem_singleton.mp h)
theorem addHs_mem : ∀ {l H : Hq} {z : Tx × Nd × Ev}, z ∈ l.foldl addH H → z ∈ H ∨ z ∈ l
  | [], _, _, h => .inl h
  | q :: l, H, z, h => by
    rw [List.foldl_cons] at h
    rcases addHs_mem h with h | h
    · rcases addH_mem h with h | rfl
      · exact .inl h
      · exact .inr (by simp)
    · exact .inr (by simp [h])
theorem hAll_mem {l : Hq} {z : Tx × Nd × Ev} (h : z ∈ hAll l) : z ∈ l := (addHs_mem h).resolve_left (by simp)
theorem addH_nd {H : Hq} (q : Tx × Nd × Ev) (h : (H.map (·.1)).Nodup) : ((addH H q).map (·.1)).Nodup := by
  unfold addH
  split
  · exact h
  · rename_i hn
    rw [List.map_append, List.map_cons, List.map_nil, List.nodup_append]
    exact ⟨h, by simp, fun a ha c hc => by
      simp only [List.mem_singleton] at hc
      subst hc
      exact fun e => hn (e ▸ ha)⟩
theorem addHs_nd : ∀ {l H : Hq}, (H.map (·.1)).Nodup → ((l.foldl addH H).map (·.1)).Nodup
  | [], _, h => h
  | q :: l, H, h => by rw [List.foldl_cons]; exact addHs_nd (addH_nd q h)
theorem hAll_nd (l : Hq) : ((hAll l).map (·.1)).Nodup := addHs_nd (by simp)
/-- a sequence of harms by the stands' order -/
def hSeq (r : Ru) (N : List Nd) : Hq := N.flatMap (hNd r)
noncomputable def hFin (r : Ru) : Hq := hAll (hSeq r (fin r))
theorem hOne_fst {r : Ru} {x : Nd} {e : Ev} {q : Tx × Nd × Ev} (h : q ∈ hOne r x e) : q.2.1 = x ∧ q.2.2 = e ∧ q.1 ∈ harmM x.s e (stepM r x.s e).1 (stepM r x.s e).2 := by
  obtain ⟨w, hw, rfl⟩ := List.mem_map.mp h
  exact ⟨rfl, rfl, hw⟩
theorem hNd_fst {r : Ru} {x : Nd} {q : Tx × Nd × Ev} (h : q ∈ hNd r x) : q.2.1 = x ∧ q.1 ∈ harmM x.s q.2.2 (stepM r x.s q.2.2).1 (stepM r x.s q.2.2).2 := by
  obtain ⟨e, _, h⟩ := List.mem_flatMap.mp h
  obtain ⟨h1, rfl, h3⟩ := hOne_fst h
  exact ⟨h1, h3⟩
theorem hSeq_fst {r : Ru} {N : List Nd} {q : Tx × Nd × Ev} (h : q ∈ hSeq r N) : q.2.1 ∈ N ∧ q.1 ∈ harmM q.2.1.s q.2.2 (stepM r q.2.1.s q.2.2).1 (stepM r q.2.1.s q.2.2).2 := by
  obtain ⟨x, hx, h⟩ := List.mem_flatMap.mp h
  obtain ⟨h1, h2⟩ := hNd_fst h
  subst h1
  exact ⟨hx, h2⟩
theorem hAll_few {r : Ru} {N : List Nd} {l : Hq} (h : ∀ q ∈ l, q.1 ∈ HW) : (hAll l).length ≤ 4 := by
  have := nd_len ((hAll l).map (·.1)) HW (hAll_nd l) fun w hw => by
    obtain ⟨q, hq, rfl⟩ := List.mem_map.mp hw
    exact h q (hAll_mem hq)
  simpa [HW] using this
theorem hNd_HW {r : Ru} {x : Nd} {q : Tx × Nd × Ev} (h : q ∈ hNd r x) : q.1 ∈ HW := harm_HW (hNd_fst h).2
theorem hSeq_HW {r : Ru} {N : List Nd} {q : Tx × Nd × Ev} (h : q ∈ hSeq r N) : q.1 ∈ HW := harm_HW (hSeq_fst h).2
/-! ### stands as keys -/
def ksD (N : List Nd) : List D := N.map fun x => x.s.d
theorem memD_st (s : Sd) : ∀ N : List Nd, memD s.d (ksD N) = decide (s ∈ N.map Nd.s)
  | [] => rfl
  | x :: N => by
    have ih := memD_st s N
    have e : memD s.d (ksD (x :: N)) = (eqD x.s.d s.d || memD s.d (ksD N)) := rfl
    rw [e, eq_Sd, ih]
    by_cases h : x.s = s
    · simp [h]
    · have h' : ¬ s = x.s := fun e => h e.symm
      simp [h, h']
theorem idxOfD_no (s : Sd) : ∀ N : List Nd, s ∉ N.map Nd.s → idxOfD s.d (ksD N) = none
  | [], _ => rfl
  | x :: N, h => by
    rw [List.map_cons, List.mem_cons] at h
    have h1 : ¬ x.s = s := fun e => h (.inl e.symm)
    have e : idxOfD s.d (ksD (x :: N)) = if eqD x.s.d s.d then some 0 else (idxOfD s.d (ksD N)).map (· + 1) := rfl
    rw [e, eq_Sd, decide_eq_false h1, idxOfD_no s N fun q => h (.inr q)]; rfl
theorem idxOfD_st : ∀ {N : List Nd}, (N.map Nd.s).Nodup → ∀ {j : Nat} {x : Nd}, N[j]? = some x → idxOfD x.s.d (ksD N) = some j
  | [], _, _, _, h => by simp at h
  | y :: N, hn, j, x, h => by
    rw [List.map_cons, List.nodup_cons] at hn
    have e : idxOfD x.s.d (ksD (y :: N)) = if eqD y.s.d x.s.d then some 0 else (idxOfD x.s.d (ksD N)).map (· + 1) := rfl
    rw [e, eq_Sd]
    cases j with
    | zero => simp only [List.getElem?_cons_zero, Option.some.injEq] at h; subst h; simp
    | succ j =>
      simp only [List.getElem?_cons_succ] at h
      have hne : ¬ y.s = x.s := fun e => hn.1 (e ▸ List.mem_map_of_mem (at_mem h))
      rw [decide_eq_false hne, idxOfD_st hn.2 h]; rfl
theorem keyD_dQ (q : Option Pt) (n : Nat) : keyD (dQ q) (n + 1) = true := by cases q <;> rfl
theorem isKD_st (s : Sd) : isKD s.d = true := by
  simp [isKD, keyDs, keyD, keyD_dQ]
theorem isKD_all : ∀ N : List Nd, (ksD N).all isKD = true := fun N => by
  rw [List.all_eq_true]
  intro d hd
  obtain ⟨x, _, rfl⟩ := List.mem_map.mp hd
  exact isKD_st x.s
theorem pure_st (s : Sd) : pureD s.d = true := by simp
theorem pure_map {α : Type} {f : α → D} (h : ∀ x, pureD (f x) = true) : ∀ xs : List α, pureDs (xs.map f) = true
  | [] => rfl
  | x :: xs => by rw [List.map_cons, pu_cons, h x, pure_map h xs]; rfl
theorem pure_ks (N : List Nd) : pureDs (ksD N) = true := pure_map (f := fun x : Nd => x.s.d) (fun x => pure_st x.s) N
theorem ks_at {N : List Nd} {j : Nat} {x : Nd} (h : N[j]? = some x) {α : Type} (f : Nd → D) : (N.map f)[j]? = some (f x) := by rw [List.getElem?_map, h]; rfl
theorem ks_app (N : List Nd) (x : Nd) : ksD (N ++ [x]) = ksD N ++ [x.s.d] := by simp [ksD]
theorem ks_len (N : List Nd) : (ksD N).length = N.length := by simp [ksD]
/-! ### harms as keys -/
def ksH (H : Hq) : List D := H.map fun q => .str q.1
theorem memD_h (w : Tx) : ∀ H : Hq, memD (.str w) (ksH H) = decide (w ∈ H.map (·.1))
  | [] => rfl
  | q :: H => by
    have ih := memD_h w H
    have e : memD (.str w) (ksH (q :: H)) = (decide (q.1 = w) || memD (.str w) (ksH H)) := rfl
    rw [e, ih]
    by_cases h : q.1 = w
    · simp [h]
    · have h' : ¬ w = q.1 := fun e => h e.symm
      simp [h, h']
theorem idxOfD_hno (w : Tx) : ∀ H : Hq, w ∉ H.map (·.1) → idxOfD (.str w) (ksH H) = none
  | [], _ => rfl
  | q :: H, h => by
    rw [List.map_cons, List.mem_cons] at h
    have h1 : ¬ q.1 = w := fun e => h (.inl e.symm)
    have e : idxOfD (.str w) (ksH (q :: H)) = if decide (q.1 = w) then some 0 else (idxOfD (.str w) (ksH H)).map (· + 1) := rfl
    rw [e, decide_eq_false h1, idxOfD_hno w H fun q => h (.inr q)]; rfl
theorem idxOfD_h : ∀ {H : Hq}, (H.map (·.1)).Nodup → ∀ {j : Nat} {q : Tx × Nd × Ev}, H[j]? = some q → idxOfD (.str q.1) (ksH H) = some j
  | [], _, _, _, h => by simp at h
  | y :: H, hn, j, q, h => by
    rw [List.map_cons, List.nodup_cons] at hn
    have e : idxOfD (.str q.1) (ksH (y :: H)) = if decide (y.1 = q.1) then some 0 else (idxOfD (.str q.1) (ksH H)).map (· + 1) := rfl
    rw [e]
    cases j with
    | zero => simp only [List.getElem?_cons_zero, Option.some.injEq] at h; subst h; simp
    | succ j =>
      simp only [List.getElem?_cons_succ] at h
      have hne : ¬ y.1 = q.1 := fun e => hn.1 (e ▸ List.mem_map_of_mem (at_mem h))
      rw [decide_eq_false hne, idxOfD_h hn.2 h]; rfl
theorem isKT_h (H : Hq) : (ksH H).all isKT = true := by
  rw [List.all_eq_true]
  intro d hd
  obtain ⟨x, _, rfl⟩ := List.mem_map.mp hd
  rfl
theorem pure_ksH (H : Hq) : pureDs (ksH H) = true := pure_map (f := fun q : Tx × Nd × Ev => D.str q.1) (fun _ => rfl) H
/-! ### harms, each with something -/
theorem isKT_tx (w : Tx) : isKT (.str w) = true := rfl
theorem take_next {α : Type} {xs : List α} {i : Nat} {x : α} (h : xs[i]? = some x) : xs.take (i + 1) = xs.take i ++ [x] := by
  have hl := at_lt h
  rw [List.take_add_one, h]; rfl
theorem take_keep (r : Ru) (i : Nat) (h : i ≤ (bf r i).length) : (bf r (i + 1)).take i = (bf r i).take i := by
  obtain ⟨t, q⟩ := bf_pre1 r i
  rw [q, List.take_append_of_le_length h]
end Mp
/-! Gb: a search over keys of any kind, with the rows that lead there (no program in sight), over Bf. -/
namespace Mp
structure Gn (K : Type) where
  k : K
  w : List Ev
section
variable {K : Type} [DecidableEq K] (f : K → Ev → K) (k0 : K)
abbrev gnx (x : Gn K) (e : Ev) : Gn K := ⟨f x.k e, x.w ++ [e]⟩
def gadd (x : Gn K) (N : List (Gn K)) (e : Ev) : List (Gn K) := if f x.k e ∈ N.map Gn.k then N else N ++ [gnx f x e]
def gvis (x : Gn K) (N : List (Gn K)) : List (Gn K) := EVS.foldl (gadd f x) N
def gbf : Nat → List (Gn K)
  | 0 => [⟨k0, []⟩]
  | i + 1 => match (gbf i)[i]? with
    | some x => gvis f x (gbf i)
    | none => gbf i
def grun : K → List Ev → K
  | k, [] => k
  | k, e :: es => grun (f k e) es
variable {f} {k0}
theorem grun_app : ∀ (k : K) (a b : List Ev), grun f k (a ++ b) = grun f (grun f k a) b
  | _, [], _ => rfl
  | k, e :: a, b => grun_app (f k e) a b
theorem gbf_at {i : Nat} {x : Gn K} (h : (gbf f k0 i)[i]? = some x) : gbf f k0 (i + 1) = gvis f x (gbf f k0 i) := by simp only [gbf, h]
theorem gbf_no {i : Nat} (h : (gbf f k0 i)[i]? = none) : gbf f k0 (i + 1) = gbf f k0 i := by simp only [gbf, h]
theorem gadd_pre (x : Gn K) (N : List (Gn K)) (e : Ev) : ∃ t, gadd f x N e = N ++ t := by
  unfold gadd
  split
  · exact ⟨[], by simp⟩
  · exact ⟨_, rfl⟩
theorem gadds_pre (x : Gn K) : ∀ (a : List Ev) (N : List (Gn K)), ∃ t, a.foldl (gadd f x) N = N ++ t
  | [], N => ⟨[], by simp⟩
  | e :: a, N => by
    obtain ⟨t, h⟩ := gadd_pre (f := f) x N e
    obtain ⟨t2, h2⟩ := gadds_pre x a (gadd f x N e)
    exact ⟨t ++ t2, by rw [List.foldl_cons, h2, h, List.append_assoc]⟩
theorem gbf_pre1 (i : Nat) : ∃ t, gbf f k0 (i + 1) = gbf f k0 i ++ t := by
  cases h : (gbf f k0 i)[i]? with
  | none => exact ⟨[], by rw [gbf_no h, List.append_nil]⟩
  | some x => rw [gbf_at h]; exact gadds_pre x EVS _
theorem gbf_pre (i k : Nat) : ∃ t, gbf f k0 (i + k) = gbf f k0 i ++ t := by
  induction k with
  | zero => exact ⟨[], by simp⟩
  | succ k ih =>
    obtain ⟨t, h⟩ := ih
    obtain ⟨t2, h2⟩ := gbf_pre1 (f := f) (k0 := k0) (i + k)
    exact ⟨t ++ t2, by rw [← Nat.add_assoc, h2, h, List.append_assoc]⟩
theorem gbf_keep {i j : Nat} (h : i ≤ j) {k : Nat} {x : Gn K} (hx : (gbf f k0 i)[k]? = some x) : (gbf f k0 j)[k]? = some x := by
  obtain ⟨t, q⟩ := gbf_pre (f := f) (k0 := k0) i (j - i)
  rw [show i + (j - i) = j by omega] at q
  rw [q]; exact at_app hx
/-- what holds of the keys found so far -/
structure GI (f : K → Ev → K) (k0 : K) (P : K → Prop) (m : Nat) (N : List (Gn K)) : Prop where
  z : N[0]? = some ⟨k0, []⟩
  nd : (N.map Gn.k).Nodup
  ok : ∀ x ∈ N, P x.k
  run : ∀ x ∈ N, grun f k0 x.w = x.k
  srt : ∀ (j k : Nat) (x y : Gn K), j ≤ k → N[j]? = some x → N[k]? = some y → x.w.length ≤ y.w.length
  top : ∀ x ∈ N, x.w.length ≤ m
  lev : ∀ (j : Nat) (x : Gn K), N[j]? = some x → x.w.length ≤ j
variable {P : K → Prop}
theorem GI.up {m m' : Nat} {N : List (Gn K)} (b : GI f k0 P m N) (h : m ≤ m') : GI f k0 P m' N := { b with top := fun x hx => Nat.le_trans (b.top x hx) h }
theorem GI.add (hP : ∀ k e, P k → P (f k e)) {N : List (Gn K)} {x : Gn K} {i : Nat} (b : GI f k0 P (x.w.length + 1) N) (hx : N[i]? = some x) (e : Ev) : GI f k0 P (x.w.length + 1) (gadd f x N e) := by
  unfold gadd
  split
  · exact b
  · rename_i hn
    have hl : ∀ (j : Nat) (y : Gn K), (N ++ [gnx f x e])[j]? = some y → N[j]? = some y ∨ j = N.length ∧ y = gnx f x e := fun j y h => by
      by_cases hj : j < N.length
      · rw [List.getElem?_append_left hj] at h; exact .inl h
      · rw [List.getElem?_append_right (by omega)] at h
        have : j - N.length = 0 := by
          have := at_lt h; simpa using this
        rw [this] at h
        simp only [List.getElem?_cons_zero, Option.some.injEq] at h
        exact .inr ⟨by omega, h.symm⟩
    refine ⟨at_app b.z, ?_, ?_, ?_, ?_, ?_, ?_⟩
    · rw [List.map_append, List.map_cons, List.map_nil, List.nodup_append]
      exact ⟨b.nd, by simp, fun a ha c hc => by
        simp only [List.mem_singleton] at hc
        subst hc
        exact fun e => hn (e ▸ ha)⟩
    · intro y hy
      rcases List.mem_append.mp hy with hy | hy
      · exact b.ok y hy
      · simp only [List.mem_singleton] at hy
        subst hy
        exact hP _ e (b.ok x (at_mem hx))
    · intro y hy
      rcases List.mem_append.mp hy with hy | hy
      · exact b.run y hy
      · simp only [List.mem_singleton] at hy
        subst hy
        rw [grun_app, b.run x (at_mem hx)]; rfl
    · intro j k y z hjk hy hz
      rcases hl j y hy with h | ⟨rfl, rfl⟩
      · rcases hl k z hz with h' | ⟨rfl, rfl⟩
        · exact b.srt j k y z hjk h h'
        · have := b.top y (at_mem h)
          simpa using this
      · rcases hl k z hz with h' | ⟨rfl, rfl⟩
        · have := at_lt h'; omega
        · exact Nat.le_refl _
    · intro y hy
      rcases List.mem_append.mp hy with hy | hy
      · exact b.top y hy
      · simp only [List.mem_singleton] at hy
        subst hy; simp
    · intro j y hy
      rcases hl j y hy with h | ⟨rfl, rfl⟩
      · exact b.lev j y h
      · have h1 := b.lev i x hx
        have h2 := at_lt hx
        simp only [List.length_append, List.length_singleton]
        omega
theorem GI.adds (hP : ∀ k e, P k → P (f k e)) {x : Gn K} {i : Nat} : ∀ (a : List Ev) {N : List (Gn K)}, GI f k0 P (x.w.length + 1) N → N[i]? = some x → GI f k0 P (x.w.length + 1) (a.foldl (gadd f x) N)
  | [], _, b, _ => b
  | e :: a, N, b, h => by
    rw [List.foldl_cons]
    obtain ⟨t, q⟩ := gadd_pre (f := f) x N e
    exact GI.adds hP a (b.add hP h e) (by rw [q]; exact at_app h)
theorem gbf_inv (hP : ∀ k e, P k → P (f k e)) (h0 : P k0) : ∀ i, ∃ m, GI f k0 P m (gbf f k0 i) ∧ ∀ x, (gbf f k0 i)[i]? = some x → m ≤ x.w.length + 1
  | 0 => ⟨0, ⟨rfl, by simp [gbf], fun x hx => by
      simp only [gbf, List.mem_singleton] at hx
      subst hx; exact h0, fun x hx => by
      simp only [gbf, List.mem_singleton] at hx
      subst hx; rfl, fun j k x y _ h h' => by
      have hj := at_lt h
      have hk := at_lt h'
      simp only [gbf, List.length_singleton] at hj hk
      obtain rfl : j = 0 := by omega
      obtain rfl : k = 0 := by omega
      rw [h] at h'; cases h'; exact Nat.le_refl _, fun x hx => by
      simp only [gbf, List.mem_singleton] at hx
      subst hx; exact Nat.le_refl _, fun j x h => by
      have hj := at_lt h
      simp only [gbf, List.length_singleton] at hj
      obtain rfl : j = 0 := by omega
      simp only [gbf, List.getElem?_cons_zero, Option.some.injEq] at h
      subst h; exact Nat.le_refl _⟩, fun x _ => Nat.zero_le _⟩
  | i + 1 => by
    obtain ⟨m, b, hm⟩ := gbf_inv hP h0 i
    cases h : (gbf f k0 i)[i]? with
    | none =>
      rw [gbf_no h]
      refine ⟨m, b, fun x hx => ?_⟩
      have := at_lt hx
      rw [List.getElem?_eq_none_iff] at h
      omega
    | some x =>
      have hm := hm x h
      have b' := GI.adds hP EVS (b.up hm) h
      rw [gbf_at h]
      refine ⟨x.w.length + 1, b', fun y hy => ?_⟩
      obtain ⟨t, q⟩ := gadds_pre (f := f) x EVS (gbf f k0 i)
      have hx' : (gvis f x (gbf f k0 i))[i]? = some x := by unfold gvis; rw [q]; exact at_app h
      have := b'.srt i (i + 1) x y (by omega) hx' hy
      omega
theorem gbf_mid (hP : ∀ k e, P k → P (f k e)) (h0 : P k0) {i : Nat} {x : Gn K} (h : (gbf f k0 i)[i]? = some x) (a : List Ev) : GI f k0 P (x.w.length + 1) (a.foldl (gadd f x) (gbf f k0 i)) := by
  obtain ⟨m, b, hm⟩ := gbf_inv hP h0 i
  exact GI.adds hP a (b.up (hm x h)) h
theorem gbf_stay {i : Nat} (h : (gbf f k0 i).length ≤ i) : ∀ k, gbf f k0 (i + k) = gbf f k0 i
  | 0 => rfl
  | k + 1 => by
    have ih := gbf_stay h k
    rw [← Nat.add_assoc, gbf_no (by rw [List.getElem?_eq_none_iff, ih]; omega), ih]
theorem glim_ex : ∃ n : Nat, 20000000 ≤ n := ⟨20000000, Nat.le_refl _⟩
noncomputable def glim : Nat := glim_ex.choose
theorem glim_ge : 20000000 ≤ glim := glim_ex.choose_spec
variable (f) (k0) in
noncomputable def gfin : List (Gn K) := gbf f k0 glim
theorem gbf_fin (hf : ∀ i, (gbf f k0 i).length ≤ 20000000) {i : Nat} (h : (gbf f k0 i).length ≤ i) : gbf f k0 i = gfin f k0 := by
  have hl := glim_ge
  have hg : (gbf f k0 glim).length ≤ glim := by have := hf glim; omega
  by_cases hi : i ≤ glim
  · have := gbf_stay h (glim - i)
    rw [show i + (glim - i) = glim by omega] at this
    exact this.symm
  · have h2 : gbf f k0 (glim + (i - glim)) = gbf f k0 glim := gbf_stay hg (i - glim)
    rw [show glim + (i - glim) = i by omega] at h2
    exact h2
theorem gbf_to_fin (hf : ∀ i, (gbf f k0 i).length ≤ 20000000) {i k : Nat} {x : Gn K} (h : (gbf f k0 i)[k]? = some x) : (gfin f k0)[k]? = some x := by
  by_cases hi : i ≤ glim
  · exact gbf_keep hi h
  · have hg : (gbf f k0 glim).length ≤ glim := by have := hf glim; have := glim_ge; omega
    have h2 : gbf f k0 (glim + (i - glim)) = gbf f k0 glim := gbf_stay hg (i - glim)
    rw [show glim + (i - glim) = i by omega] at h2
    rw [h2] at h; exact h
theorem gfin_inv (hP : ∀ k e, P k → P (f k e)) (h0 : P k0) : ∃ m, GI f k0 P m (gfin f k0) := by
  obtain ⟨m, b, _⟩ := gbf_inv hP h0 glim
  exact ⟨m, b⟩
theorem gadds_has (x : Gn K) : ∀ (a : List Ev) (N : List (Gn K)), ∀ e ∈ a, ∃ y ∈ a.foldl (gadd f x) N, y.k = f x.k e
  | [], _, e, h => by cases h
  | g :: a, N, e, h => by
    rw [List.foldl_cons]
    rcases List.mem_cons.mp h with rfl | h
    · obtain ⟨t, q⟩ := gadds_pre (f := f) x a (gadd f x N e)
      rw [q]
      have : ∃ y ∈ gadd f x N e, y.k = f x.k e := by
        unfold gadd
        split
        · rename_i hm
          obtain ⟨y, hy, e⟩ := List.mem_map.mp hm
          exact ⟨y, hy, e⟩
        · exact ⟨gnx f x e, List.mem_append_right _ (by simp), rfl⟩
      obtain ⟨y, hy, e⟩ := this
      exact ⟨y, List.mem_append_left _ hy, e⟩
    · exact gadds_has x a _ e h
/-- what follows a key that was found was found, with no more events -/
theorem gfin_next (hP : ∀ k e, P k → P (f k e)) (h0 : P k0) (hf : ∀ i, (gbf f k0 i).length ≤ 20000000) {x : Gn K} (hx : x ∈ gfin f k0) (e : Ev) : ∃ y ∈ gfin f k0, y.k = f x.k e ∧ y.w.length ≤ x.w.length + 1 := by
  obtain ⟨j, hj⟩ := mem_at hx
  have hl := at_lt hj
  have hg : (gbf f k0 glim).length ≤ 20000000 := hf glim
  have hlim := glim_ge
  have hjl : j < glim := by
    have : j < (gbf f k0 glim).length := hl
    omega
  -- x was there when its turn came
  have hxj : (gbf f k0 j)[j]? = some x := by
    by_cases hlt : j < (gbf f k0 j).length
    · have h2 : (gbf f k0 j)[j]? = some (gbf f k0 j)[j] := List.getElem?_eq_getElem hlt
      have h3 := gbf_keep (Nat.le_of_lt hjl) h2
      have hj' : (gbf f k0 glim)[j]? = some x := hj
      rw [hj'] at h3
      rw [h2, h3]
    · have h4 := gbf_stay (f := f) (k0 := k0) (i := j) (by omega) (glim - j)
      rw [show j + (glim - j) = glim by omega] at h4
      have hj' : (gbf f k0 glim)[j]? = some x := hj
      rw [h4] at hj'; exact hj'
  have hm := gbf_mid hP h0 hxj EVS
  obtain ⟨y, hy, e2⟩ := gadds_has (f := f) x EVS (gbf f k0 j) e (all_evs e)
  refine ⟨y, ?_, e2, hm.top y hy⟩
  have hb : gbf f k0 (j + 1) = EVS.foldl (gadd f x) (gbf f k0 j) := gbf_at hxj
  rw [← hb] at hy
  obtain ⟨k, hk⟩ := mem_at hy
  exact at_mem (gbf_to_fin hf hk)
theorem gfin_run (hP : ∀ k e, P k → P (f k e)) (h0 : P k0) (hf : ∀ i, (gbf f k0 i).length ≤ 20000000) : ∀ (w : List Ev) (x : Gn K), x ∈ gfin f k0 → ∃ y ∈ gfin f k0, y.k = grun f x.k w ∧ y.w.length ≤ x.w.length + w.length
  | [], x, hx => ⟨x, hx, rfl, Nat.le_refl _⟩
  | e :: w, x, hx => by
    obtain ⟨y, hy, e1, h1⟩ := gfin_next hP h0 hf hx e
    obtain ⟨z, hz, e2, h2⟩ := gfin_run hP h0 hf w y hy
    refine ⟨z, hz, by rw [e2, e1]; rfl, ?_⟩
    simp only [List.length_cons]; omega
/-- every row leads to a key that was found, with no more events -/
theorem gfin_all (hP : ∀ k e, P k → P (f k e)) (h0 : P k0) (hf : ∀ i, (gbf f k0 i).length ≤ 20000000) (w : List Ev) : ∃ y ∈ gfin f k0, y.k = grun f k0 w ∧ y.w.length ≤ w.length := by
  obtain ⟨m, b⟩ := gfin_inv hP h0
  obtain ⟨y, hy, h1, h2⟩ := gfin_run hP h0 hf w ⟨k0, []⟩ (at_mem b.z)
  exact ⟨y, hy, h1, by simpa using h2⟩
/-! the first event that is told otherwise -/
variable (f) (k0) in
/-- what a search for a difference ends with -/
def GOut (dif : K → Ev → Bool) (o : Option (List Ev)) : Prop :=
  (o = none ∧ ∀ x ∈ gfin f k0, ∀ e, dif x.k e = false) ∨
  ∃ (i : Nat) (x : Gn K) (a b : List Ev) (e : Ev), EVS = a ++ e :: b ∧ (gfin f k0)[i]? = some x ∧ dif x.k e = true ∧ (∀ (j : Nat) (y : Gn K), j < i → (gfin f k0)[j]? = some y → ∀ e', dif y.k e' = false) ∧ (∀ e' ∈ a, dif x.k e' = false) ∧ o = some (x.w ++ [e])
variable {dif : K → Ev → Bool}
theorem split_first {α : Type} {p : α → Bool} : ∀ {a a' b b' : List α} {e e' : α}, a ++ e :: b = a' ++ e' :: b' → (∀ x ∈ a, p x = false) → (∀ x ∈ a', p x = false) → p e = true → p e' = true → e = e'
  | [], [], _, _, _, _, h, _, _, _, _ => by injection h
  | [], x :: a', _, _, _, _, h, _, h2, h3, _ => by
    injection h with h4 _
    rw [h4] at h3
    rw [h2 x (by simp)] at h3; cases h3
  | x :: a, [], _, _, _, _, h, h1, _, _, h4 => by
    injection h with h5 _
    rw [← h5] at h4
    rw [h1 x (by simp)] at h4; cases h4
  | x :: a, y :: a', _, _, _, _, h, h1, h2, h3, h4 => by
    injection h with _ h6
    exact split_first h6 (fun z hz => h1 z (by simp [hz])) (fun z hz => h2 z (by simp [hz])) h3 h4
theorem GOut.eq {o o' : Option (List Ev)} (h : GOut f k0 dif o) (h' : GOut f k0 dif o') : o = o' := by
  rcases h with ⟨rfl, h⟩ | ⟨i, x, a, b, e, hE, hx, hd, hl, ha, rfl⟩
  · rcases h' with ⟨rfl, _⟩ | ⟨i', x', a', b', e', hE', hx', hd', hl', ha', rfl⟩
    · rfl
    · rw [h x' (at_mem hx') e'] at hd'; cases hd'
  · rcases h' with ⟨rfl, h'⟩ | ⟨i', x', a', b', e', hE', hx', hd', hl', ha', rfl⟩
    · rw [h' x (at_mem hx) e] at hd; cases hd
    · have hi : i = i' := by
        rcases Nat.lt_trichotomy i i' with hlt | heq | hgt
        · rw [hl' i x hlt hx e] at hd; cases hd
        · exact heq
        · rw [hl i' x' hgt hx' e'] at hd'; cases hd'
      subst hi
      rw [hx] at hx'; cases hx'
      rw [hE] at hE'
      rw [split_first hE' ha ha' hd hd']
theorem GOut.none (hP : ∀ k e, P k → P (f k e)) (h0 : P k0) (hf : ∀ i, (gbf f k0 i).length ≤ 20000000) (h : GOut f k0 dif none) (w : List Ev) (e : Ev) : dif (grun f k0 w) e = false := by
  rcases h with ⟨_, h⟩ | ⟨_, _, _, _, _, _, _, _, _, _, h⟩
  · obtain ⟨y, hy, e1, _⟩ := gfin_all hP h0 hf w
    rw [← e1]; exact h y hy e
  · cases h
theorem GOut.some (hP : ∀ k e, P k → P (f k e)) (h0 : P k0) (hf : ∀ i, (gbf f k0 i).length ≤ 20000000) {v : List Ev} (h : GOut f k0 dif (some v)) : ∃ w e, v = w ++ [e] ∧ dif (grun f k0 w) e = true ∧ ∀ w' e', dif (grun f k0 w') e' = true → w.length ≤ w'.length := by
  obtain ⟨m, b⟩ := gfin_inv hP h0
  rcases h with ⟨h, _⟩ | ⟨i, x, a, c, e, hE, hx, hd, hl, ha, h⟩
  · cases h
  · cases h
    refine ⟨x.w, e, rfl, by rw [b.run x (at_mem hx)]; exact hd, fun w' e' hd' => ?_⟩
    obtain ⟨y, hy, e1, h1⟩ := gfin_all hP h0 hf w'
    obtain ⟨j, hj⟩ := mem_at hy
    have hij : i ≤ j := by
      apply Nat.le_of_not_lt
      intro hlt
      have := hl j y hlt hj e'
      rw [e1, hd'] at this; cases this
    have := b.srt i j x y hij hx hj
    omega
end
end Mp
/-! Pb: pairs of stands of two rules, led by the same events: they are fewer than a dict holds (no program in sight), over Gb. -/
namespace Mp
/-- a part, closer -/
structure PtC (p : Pt) : Prop extends PtOk p where
  f0 : p.k = tFirst → p.w = 0
  a0 : p.k = tAlien → p.w = 0 ∧ p.s ≠ tGood
/-- a stand on day d (eight days at most are counted) -/
structure StC (r : Ru) (d : Nat) (s : Sd) : Prop extends StOk r s where
  d8 : d ≤ 8
  aged : s.age = if r.k = 0 then 0 else min (d : Int) r.k
  low : r.c - (d : Int) ≤ s.left
  pc : PtC s.p
  qc : ∀ q, s.q = some q → PtC q
def dayN (d : Nat) (e : Ev) : Nat := if e = .day then min (d + 1) 8 else d
theorem ptc_first : PtC ⟨tFirst, 0, tGood⟩ := { ptok_first with f0 := fun _ => rfl, a0 := fun h => absurd h (show tFirst ≠ tAlien by decide) }
theorem ptc_moved {r : Ru} {p : Pt} (h : PtC p) : PtC (movedM r p) := by
  refine { ptok_moved (r := r) h.toPtOk with f0 := ?_, a0 := ?_ }
  · intro hk
    unfold movedM at hk ⊢
    split at hk <;> rename_i hm
    · rw [if_pos hm]; exact h.f0 hk
    · rw [if_neg hm]
  · intro hk
    unfold movedM at hk ⊢
    split at hk <;> rename_i hm
    · rw [if_pos hm]; exact h.a0 hk
    · rw [if_neg hm]; exact ⟨rfl, (h.a0 hk).2⟩
theorem ptc_older {p : Pt} (h : PtC p) : PtC (olderM p) := by
  refine { ptok_older h.toPtOk with f0 := fun hk => ?_, a0 := fun hk => ⟨?_, (h.a0 hk).2⟩ }
  · have := h.f0 hk; show max 0 (p.w - 1) = 0; omega
  · have := (h.a0 hk).1; show max 0 (p.w - 1) = 0; omega
theorem ptc_state {p : Pt} (h : PtC p) {w : Tx} (hw : w = tBroken ∨ w = tPaid) : PtC ⟨p.k, p.w, w⟩ :=
  { k := h.k, w0 := h.w0, w3 := h.w3, s := .inr hw, f0 := h.f0, a0 := fun hk => ⟨(h.a0 hk).1, by rcases hw with rfl | rfl; exact (show tBroken ≠ tGood by decide); exact (show tPaid ≠ tGood by decide)⟩ }
theorem changed_low {r : Ru} (g : Good r) {d : Nat} {age left : Int} {w : Tx} (ha : age = if r.k = 0 then 0 else min (d : Int) r.k) (hl : r.c - (d : Int) ≤ left) : r.c - (d : Int) ≤ changedM r age left w := by
  have h1 := g.ck
  unfold changedM
  simp only []
  by_cases hk : r.k = 0
  · rw [if_pos hk]
    split
    · omega
    · split <;> omega
  · rw [if_neg hk] at ha ⊢
    split
    · omega
    · split <;> omega
theorem stc_s0 {r : Ru} (g : Good r) : StC r 0 (s0 r) := by
  have k1 := g.k1
  refine { stok_s0 g with d8 := by omega, aged := ?_, low := by show r.c - 0 ≤ r.c; omega, pc := ptc_first, qc := fun q h => by cases h }
  show (0 : Int) = _
  split <;> omega
theorem stc_step {r : Ru} (g : Good r) {d : Nat} {s : Sd} (t : StC r d s) (e : Ev) : StC r (dayN d e) (stepM r s e).1 := by
  have so := stok_step g t.toStOk e
  have d8 := t.d8
  have ta := t.aged
  have tl := t.low
  have pc := t.pc
  have qc := t.qc
  have k2 := g.k2
  have hl0 := t.left
  cases e
  · refine { so with d8 := d8, aged := ?_, low := ?_, pc := ?_, qc := ?_ }
    · show (bodiedM r s).1.age = _; unfold bodiedM; split <;> exact ta
    · show r.c - (d : Int) ≤ (bodiedM r s).1.left
      unfold bodiedM
      split
      · exact tl
      · exact changed_low g ta tl
    · show PtC (bodiedM r s).1.p
      unfold bodiedM
      split
      · exact pc
      · show PtC (if r.b = tNew then (⟨tFirst, 0, tGood⟩ : Pt) else s.p)
        split
        · exact ptc_first
        · exact pc
    · intro q h
      have h : (bodiedM r s).1.q = some q := h
      unfold bodiedM at h
      split at h <;> exact qc q h
  · refine { so with d8 := d8, aged := ?_, low := ?_, pc := ?_, qc := ?_ }
    · show (if s.p.s = tGood then (⟨s.age, s.left, ⟨s.p.k, s.p.w, tBroken⟩, s.q⟩ : Sd) else s).age = _
      split <;> exact ta
    · show r.c - (d : Int) ≤ (if s.p.s = tGood then (⟨s.age, s.left, ⟨s.p.k, s.p.w, tBroken⟩, s.q⟩ : Sd) else s).left
      split <;> exact tl
    · show PtC (if s.p.s = tGood then (⟨s.age, s.left, ⟨s.p.k, s.p.w, tBroken⟩, s.q⟩ : Sd) else s).p
      split
      · exact ptc_state pc (.inl rfl)
      · exact pc
    · intro q h
      have h : (if s.p.s = tGood then (⟨s.age, s.left, ⟨s.p.k, s.p.w, tBroken⟩, s.q⟩ : Sd) else s).q = some q := h
      split at h <;> exact qc q h
  · refine { so with d8 := d8, aged := ?_, low := ?_, pc := ?_, qc := ?_ }
    · show (claimedM r s).1.age = _; unfold claimedM; split
      · exact ta
      · split <;> exact ta
    · show r.c - (d : Int) ≤ (claimedM r s).1.left
      unfold claimedM
      split
      · exact tl
      · split
        · exact tl
        · exact changed_low g ta tl
    · show PtC (claimedM r s).1.p
      unfold claimedM
      split
      · exact pc
      · split
        · exact pc
        · exact { k := .inr (.inl rfl), w0 := g.o1, w3 := g.o2, s := .inl rfl, f0 := fun h => absurd h (show tCame ≠ tFirst by decide), a0 := fun h => absurd h (show tCame ≠ tAlien by decide) }
    · intro q h
      have h : (claimedM r s).1.q = some q := h
      unfold claimedM at h
      split at h
      · exact qc q h
      · split at h
        · exact qc q h
        · have h : (if r.r = true then s.q else some (⟨(movedM r s.p).k, (movedM r s.p).w, tPaid⟩ : Pt)) = some q := h
          split at h
          · exact qc q h
          · cases h
            exact ptc_state (ptc_moved pc) (.inr rfl)
  · refine { so with d8 := by show min (d + 1) 8 ≤ 8; omega, aged := ?_, low := ?_, pc := ptc_older pc, qc := ?_ }
    · show (if r.k = 0 then s.age else min (s.age + 1) r.k) = if r.k = 0 then 0 else min (((min (d + 1) 8 : Nat)) : Int) r.k
      split <;> rename_i hk
      · rw [ta, if_pos hk]
      · rw [ta, if_neg hk]; omega
    · show r.c - ((min (d + 1) 8 : Nat) : Int) ≤ max 0 (s.left - 1)
      have := g.c2
      omega
    · intro q h
      have h : s.q.map olderM = some q := h
      obtain ⟨q', h1, rfl⟩ := Option.map_eq_some_iff.mp h
      exact ptc_older (qc q' h1)
  · refine { so with d8 := d8, aged := ta, low := tl, pc := pc, qc := fun q h => ?_ }
    cases h
    exact { k := .inr (.inr rfl), w0 := by simp, w3 := by simp, s := .inr (.inl rfl), f0 := fun _ => rfl, a0 := fun _ => ⟨rfl, (show tBroken ≠ tGood by decide)⟩ }
  · refine { so with d8 := d8, aged := ?_, low := ?_, pc := ?_, qc := ?_ }
    · show (match s.q with | none => s | some q => (⟨s.age, s.left, movedM r q, some (movedM r s.p)⟩ : Sd)).age = _
      cases s.q <;> exact ta
    · show r.c - (d : Int) ≤ (match s.q with | none => s | some q => (⟨s.age, s.left, movedM r q, some (movedM r s.p)⟩ : Sd)).left
      cases s.q <;> exact tl
    · show PtC (match s.q with | none => s | some q => (⟨s.age, s.left, movedM r q, some (movedM r s.p)⟩ : Sd)).p
      cases hq : s.q with
      | none => exact pc
      | some q => exact ptc_moved (qc q hq)
    · intro q h
      have h : (match s.q with | none => s | some q => (⟨s.age, s.left, movedM r q, some (movedM r s.p)⟩ : Sd)).q = some q := h
      cases hq : s.q with
      | none => rw [hq] at h; exact qc q (by rw [← h])
      | some x => rw [hq] at h; cases h; exact ptc_moved pc
/-! ### pairs -/
abbrev Pr := Sd × Sd
def stepP (r1 r2 : Ru) (x : Pr) (e : Ev) : Pr := ((stepM r1 x.1 e).1, (stepM r2 x.2 e).1)
abbrev pr0 (r1 r2 : Ru) : Pr := (s0 r1, s0 r2)
def PrOk (r1 r2 : Ru) (x : Pr) : Prop := ∃ d, StC r1 d x.1 ∧ StC r2 d x.2
theorem pr_step {r1 r2 : Ru} (g1 : Good r1) (g2 : Good r2) (x : Pr) (e : Ev) (h : PrOk r1 r2 x) : PrOk r1 r2 (stepP r1 r2 x e) := by
  obtain ⟨d, h1, h2⟩ := h
  exact ⟨dayN d e, stc_step g1 h1 e, stc_step g2 h2 e⟩
theorem pr_zero {r1 r2 : Ru} (g1 : Good r1) (g2 : Good r2) : PrOk r1 r2 (pr0 r1 r2) := ⟨0, stc_s0 g1, stc_s0 g2⟩
def pK (p : Pt) : Nat := if p.k = tFirst then sC p.s else if p.k = tAlien then 2 + sC p.s else 5 + p.w.toNat * 3 + sC p.s
def qK : Option Pt → Nat
  | none => 17
  | some p => pK p
theorem sC_good {w : Tx} (h : w = tGood ∨ w = tBroken ∨ w = tPaid) (hn : w ≠ tGood) : 1 ≤ sC w := by
  rcases h with rfl | rfl | rfl
  · exact absurd rfl hn
  · decide
  · decide
theorem pK_lt {p : Pt} (h : PtC p) : pK p < 17 := by
  have h1 := sC_lt p.s
  have h2 := h.w0
  have h3 := h.w3
  unfold pK
  split
  · omega
  · split <;> omega
theorem pK_inj {p q : Pt} (hp : PtC p) (hq : PtC q) (h : pK p = pK q) : p = q := by
  have p1 := sC_lt p.s
  have p2 := hp.w0
  have p3 := hp.w3
  have q1 := sC_lt q.s
  have q2 := hq.w0
  have q3 := hq.w3
  have key : p.k = q.k ∧ p.w = q.w ∧ sC p.s = sC q.s := by
    unfold pK at h
    by_cases a1 : p.k = tFirst
    · rw [if_pos a1] at h
      have w1 := hp.f0 a1
      by_cases b1 : q.k = tFirst
      · rw [if_pos b1] at h
        exact ⟨by rw [a1, b1], by rw [w1, hq.f0 b1], h⟩
      · rw [if_neg b1] at h
        by_cases b2 : q.k = tAlien
        · rw [if_pos b2] at h
          have := sC_good hq.s (hq.a0 b2).2
          omega
        · rw [if_neg b2] at h
          omega
    · rw [if_neg a1] at h
      by_cases a2 : p.k = tAlien
      · rw [if_pos a2] at h
        have w1 := (hp.a0 a2).1
        have w2 := sC_good hp.s (hp.a0 a2).2
        by_cases b1 : q.k = tFirst
        · rw [if_pos b1] at h; omega
        · rw [if_neg b1] at h
          by_cases b2 : q.k = tAlien
          · rw [if_pos b2] at h
            exact ⟨by rw [a2, b2], by rw [w1, (hq.a0 b2).1], by omega⟩
          · rw [if_neg b2] at h; omega
      · rw [if_neg a2] at h
        have ac : p.k = tCame := by rcases hp.k with h | h | h <;> first | exact h | exact absurd h a1 | exact absurd h a2
        by_cases b1 : q.k = tFirst
        · rw [if_pos b1] at h; omega
        · rw [if_neg b1] at h
          by_cases b2 : q.k = tAlien
          · rw [if_pos b2] at h; omega
          · rw [if_neg b2] at h
            have bc : q.k = tCame := by rcases hq.k with h | h | h <;> first | exact h | exact absurd h b1 | exact absurd h b2
            exact ⟨by rw [ac, bc], by omega, by omega⟩
  obtain ⟨e1, e2, e3⟩ := key
  have e3 := sC_inj hp.s hq.s e3
  cases p; cases q
  simp only at e1 e2 e3
  rw [e1, e2, e3]
theorem qK_lt {q : Option Pt} (h : ∀ p, q = some p → PtC p) : qK q < 18 := by
  cases q with
  | none => show 17 < 18; omega
  | some p => have := pK_lt (h p rfl); show pK p < 18; omega
theorem qK_inj {p q : Option Pt} (hp : ∀ x, p = some x → PtC x) (hq : ∀ x, q = some x → PtC x) (h : qK p = qK q) : p = q := by
  cases p with
  | none =>
    cases q with
    | none => rfl
    | some q => have := pK_lt (hq q rfl); have h : 17 = pK q := h; omega
  | some p =>
    cases q with
    | none => have := pK_lt (hp p rfl); have h : pK p = 17 := h; omega
    | some q => rw [pK_inj (hp p rfl) (hq q rfl) h]
/-- days and what is left of both -/
def dC (d a b : Nat) : Nat := if d ≤ 2 then d * 9 + a * 3 + b else if d = 3 then 27 + a * 4 + b else 43 + (d - 4) * 25 + a * 5 + b
theorem dC_lt {d a b : Nat} (h : d ≤ 8) (ha : a ≤ d) (hb : b ≤ d) (ha4 : a ≤ 4) (hb4 : b ≤ 4) : dC d a b < 168 := by
  unfold dC
  split
  · omega
  · split <;> omega
theorem dC_inj {d a b d' a' b' : Nat} (h : d ≤ 8) (ha : a ≤ d) (hb : b ≤ d) (ha4 : a ≤ 4) (hb4 : b ≤ 4) (h' : d' ≤ 8) (ha' : a' ≤ d') (hb' : b' ≤ d') (ha4' : a' ≤ 4) (hb4' : b' ≤ 4) (e : dC d a b = dC d' a' b') : d = d' ∧ a = a' ∧ b = b' := by
  unfold dC at e
  by_cases c1 : d ≤ 2
  · rw [if_pos c1] at e
    by_cases c2 : d' ≤ 2
    · rw [if_pos c2] at e
      have q1 : d = 0 ∨ d = 1 ∨ d = 2 := by omega
      have q2 : d' = 0 ∨ d' = 1 ∨ d' = 2 := by omega
      rcases q1 with rfl | rfl | rfl <;> rcases q2 with rfl | rfl | rfl <;> omega
    · rw [if_neg c2] at e
      split at e <;> omega
  · rw [if_neg c1] at e
    by_cases c2 : d' ≤ 2
    · rw [if_pos c2] at e
      split at e <;> omega
    · rw [if_neg c2] at e
      split at e <;> split at e <;> omega
/-- what is left, above the least -/
def lC (r : Ru) (d : Nat) (s : Sd) : Nat := (s.left - max 0 (r.c - (d : Int))).toNat
theorem lC_le {r : Ru} (g : Good r) {d : Nat} {s : Sd} (t : StC r d s) : lC r d s ≤ d ∧ lC r d s ≤ 4 := by
  have h1 := t.left
  have h2 := t.lc
  have h3 := t.low
  have h4 := g.c1
  have h5 := g.c2
  unfold lC
  omega
theorem lC_inj {r : Ru} {d : Nat} {s t : Sd} (hs : StC r d s) (ht : StC r d t) (e : lC r d s = lC r d t) : s.left = t.left := by
  have h1 := hs.left
  have h2 := ht.left
  have h3 := hs.low
  have h4 := ht.low
  unfold lC at e
  omega
def partsC (s : Sd) : Nat := pK s.p * 18 + qK s.q
theorem partsC_lt {r : Ru} {d : Nat} {s : Sd} (t : StC r d s) : partsC s < 306 := by
  have h1 := pK_lt t.pc
  have h2 := qK_lt t.qc
  unfold partsC; omega
theorem partsC_inj {r : Ru} {d d' : Nat} {s t : Sd} (hs : StC r d s) (ht : StC r d' t) (e : partsC s = partsC t) : s.p = t.p ∧ s.q = t.q := by
  have h1 := pK_lt hs.pc
  have h2 := qK_lt hs.qc
  have h3 := pK_lt ht.pc
  have h4 := qK_lt ht.qc
  unfold partsC at e
  exact ⟨pK_inj hs.pc ht.pc (by omega), qK_inj hs.qc ht.qc (by omega)⟩
def codeP (r1 r2 : Ru) (d : Nat) (x : Pr) : Nat := dC d (lC r1 d x.1) (lC r2 d x.2) * 93636 + partsC x.1 * 306 + partsC x.2
theorem codeP_lt {r1 r2 : Ru} (g1 : Good r1) (g2 : Good r2) {d : Nat} {x : Pr} (h1 : StC r1 d x.1) (h2 : StC r2 d x.2) : codeP r1 r2 d x < 15730848 := by
  have a := dC_lt h1.d8 (lC_le g1 h1).1 (lC_le g2 h2).1 (lC_le g1 h1).2 (lC_le g2 h2).2
  have b := partsC_lt h1
  have c := partsC_lt h2
  unfold codeP; omega
theorem codeP_inj {r1 r2 : Ru} (g1 : Good r1) (g2 : Good r2) {d d' : Nat} {x y : Pr} (h1 : StC r1 d x.1) (h2 : StC r2 d x.2) (k1 : StC r1 d' y.1) (k2 : StC r2 d' y.2) (e : codeP r1 r2 d x = codeP r1 r2 d' y) : x = y := by
  have b1 := partsC_lt h1
  have c1 := partsC_lt h2
  have b2 := partsC_lt k1
  have c2 := partsC_lt k2
  unfold codeP at e
  have e1 : dC d (lC r1 d x.1) (lC r2 d x.2) = dC d' (lC r1 d' y.1) (lC r2 d' y.2) := by omega
  have e2 : partsC x.1 = partsC y.1 := by omega
  have e3 : partsC x.2 = partsC y.2 := by omega
  obtain ⟨rfl, e4, e5⟩ := dC_inj h1.d8 (lC_le g1 h1).1 (lC_le g2 h2).1 (lC_le g1 h1).2 (lC_le g2 h2).2 k1.d8 (lC_le g1 k1).1 (lC_le g2 k2).1 (lC_le g1 k1).2 (lC_le g2 k2).2 e1
  have l1 := lC_inj h1 k1 e4
  have l2 := lC_inj h2 k2 e5
  have p1 := partsC_inj h1 k1 e2
  have p2 := partsC_inj h2 k2 e3
  have a1 : x.1.age = y.1.age := by rw [h1.aged, k1.aged]
  have a2 : x.2.age = y.2.age := by rw [h2.aged, k2.aged]
  obtain ⟨⟨xa, xl, xp, xq⟩, ⟨xa', xl', xp', xq'⟩⟩ := x
  obtain ⟨⟨ya, yl, yp, yq⟩, ⟨ya', yl', yp', yq'⟩⟩ := y
  simp only at l1 l2 p1 p2 a1 a2
  rw [l1, l2, a1, a2, p1.1, p1.2, p2.1, p2.2]
open Classical in
/-- a code of a pair that can come about -/
noncomputable def codeX (r1 r2 : Ru) (x : Pr) : Nat := if h : PrOk r1 r2 x then codeP r1 r2 h.choose x else 0
theorem pairs_few {r1 r2 : Ru} (g1 : Good r1) (g2 : Good r2) {L : List Pr} (hn : L.Nodup) (h : ∀ x ∈ L, PrOk r1 r2 x) : L.length ≤ 15730848 := by
  have hc : ∀ x, PrOk r1 r2 x → ∃ d, StC r1 d x.1 ∧ StC r2 d x.2 ∧ codeX r1 r2 x = codeP r1 r2 d x := fun x hx => by
    refine ⟨hx.choose, hx.choose_spec.1, hx.choose_spec.2, ?_⟩
    unfold codeX
    rw [dif_pos hx]
  have a := nd_len (L.map (codeX r1 r2)) (List.range 15730848) (nd_map hn fun x hx y hy e => by
    obtain ⟨d, h1, h2, e1⟩ := hc x (h x hx)
    obtain ⟨d', k1, k2, e2⟩ := hc y (h y hy)
    rw [e1, e2] at e
    exact codeP_inj g1 g2 h1 h2 k1 k2 e) fun n hn => by
    obtain ⟨x, hx, rfl⟩ := List.mem_map.mp hn
    obtain ⟨d, h1, h2, e1⟩ := hc x (h x hx)
    rw [List.mem_range, e1]; exact codeP_lt g1 g2 h1 h2
  simpa using a
abbrev pbf (r1 r2 : Ru) := gbf (stepP r1 r2) (pr0 r1 r2)
theorem GI.few {r1 r2 : Ru} (g1 : Good r1) (g2 : Good r2) {m : Nat} {N : List (Gn Pr)} (b : GI (stepP r1 r2) (pr0 r1 r2) (PrOk r1 r2) m N) : N.length ≤ 15730848 := by
  have := pairs_few g1 g2 b.nd fun s hs => by
    obtain ⟨x, hx, rfl⟩ := List.mem_map.mp hs
    exact b.ok x hx
  simpa using this
theorem pbf_few {r1 r2 : Ru} (g1 : Good r1) (g2 : Good r2) (i : Nat) : (pbf r1 r2 i).length ≤ 15730848 := by
  obtain ⟨m, b, _⟩ := gbf_inv (pr_step g1 g2) (pr_zero g1 g2) i
  exact b.few g1 g2
theorem pbf_lim {r1 r2 : Ru} (g1 : Good r1) (g2 : Good r2) (i : Nat) : (pbf r1 r2 i).length ≤ 20000000 := Nat.le_trans (pbf_few g1 g2 i) (by decide)
/-- an event that is told otherwise -/
def difP (r1 r2 : Ru) (x : Pr) (e : Ev) : Bool := (decide (e = .body) || decide (e = .claim)) && !decide ((stepM r1 x.1 e).2 = (stepM r2 x.2 e).2)
abbrev POut (r1 r2 : Ru) (o : Option (List Ev)) : Prop := GOut (stepP r1 r2) (pr0 r1 r2) (difP r1 r2) o
theorem grunP (r1 r2 : Ru) : ∀ (w : List Ev) (x : Pr), grun (stepP r1 r2) x w = ((runM r1 x.1 w).1, (runM r2 x.2 w).1)
  | [], _ => rfl
  | e :: w, x => by
    show grun (stepP r1 r2) (stepP r1 r2 x e) w = _
    rw [grunP r1 r2 w]; rfl
end Mp
/-! Dw: what is drawn from the sack (ids 1000 .. 1006, the same in all laws). -/
namespace Mp
theorem T1000 : T 1000 = l_law_sack := rfl
theorem T1001 : T 1001 = l_law_grab := rfl
theorem T1002 : T 1002 = l_law_one_of := rfl
theorem sack_new (n : Nat) (c salt : Int) : ∃ o, SkC o ∧ callF sub T gv (n + 1) 1000 [.int c, .int salt] [] = some (.rt (.m 0) [] [.mu o]) := by
  refine ⟨sk (if 1000000000000000000 ≤ c then c / 2 - 3 else 0) ((c * 37 + 8009 * salt) % 1789569707 + 4), ⟨_, _, by unfold SkOk; omega, rfl⟩, ?_⟩
  have hp : binS .pow (.int 10) (.int 18) [] = okE (.int 1000000000000000000) [] := rfl
  rw [callF_succ, T1000]
  by_cases h : 1000000000000000000 ≤ c <;>
    simp [l_law_sack, startS, hp, h, o_mul1 (show small64 37 = true from rfl), o_mul2 (show small64 8009 = true from rfl), o_fdiv, o_mod, finF2, finF]
theorem grab_dr (n : Nat) (many : Int) (h1 : 0 < many) (h2 : many < 1073741824) : Dr (callF sub T gv (n + 1) 1001) [.int many] (fun v => ∃ j : Nat, v = .int (j : Int) ∧ (j : Int) < many) := by
  rintro _ ⟨g, s, hs, rfl⟩
  suffices H : ∃ v g' s', SkOk s' ∧ 0 ≤ v ∧ v < many ∧ callF sub T gv (n + 1) 1001 [.m 0, .int many] [.mu (sk g s)] = some (.rt (.int v) [.mu (sk g' s')] []) by
    obtain ⟨v, g', s', hs', v1, v2, e⟩ := H
    obtain ⟨j, rfl⟩ := Int.eq_ofNat_of_zero_le v1
    exact ⟨_, _, ⟨_, _, hs', rfl⟩, ⟨j, rfl, v2⟩, rfl, e⟩
  rw [callF_succ, T1001]
  have i0 : ∀ a b : Int, binS .idx (.m 0) (.int 0) [.mu (sk a b)] = okE (.int a) [.mu (sk a b)] := fun _ _ => rfl
  have i1 : ∀ a b : Int, binS .idx (.m 0) (.int 1) [.mu (sk a b)] = okE (.int b) [.mu (sk a b)] := fun _ _ => rfl
  have t0 : ∀ (a b x : Int) (sl : Sl), sto3 (some (.mu (sk a b))) 0 0 (.int x) sl [.mu (sk a b)] = nxS sl [.mu (sk x b)] := fun _ _ _ _ => rfl
  have t1 : ∀ (a b x : Int) (sl : Sl), sto3 (some (.mu (sk a b))) 0 1 (.int x) sl [.mu (sk a b)] = nxS sl [.mu (sk a x)] := fun _ _ _ _ => rfl
  have hm := Int.emod_nonneg g (show many ≠ 0 by omega)
  have hm2 := Int.emod_lt_of_pos g h1
  by_cases hg : 0 < g
  · refine ⟨g % many, g / many, s, hs, hm, hm2, ?_⟩
    simp [l_law_grab, startS, i0, i1, t0, t1, hg, o_mod h1, o_fdiv h1 h2, finF, M.isMu]
  · have e1 := Int.emod_nonneg (s * 69069 + 362437) (show (2147483423 : Int) ≠ 0 by omega)
    have e2 := Int.emod_lt_of_pos (s * 69069 + 362437) (show (0 : Int) < 2147483423 by omega)
    have hsm : small64 ((s * 69069 + 362437) % 2147483423) = true := by simp only [small64, Bool.and_eq_true, decide_eq_true_eq]; omega
    refine ⟨(((s * 69069 + 362437) % 2147483423 * ((s * 69069 + 362437) % 2147483423 + 53)) % 2147483399 / 881) % many, g, (s * 69069 + 362437) % 2147483423, ⟨e1, by omega⟩, Int.emod_nonneg _ (by omega), Int.emod_lt_of_pos _ h1, ?_⟩
    simp [l_law_grab, startS, i0, i1, t0, t1, hg, o_mod h1, o_mod, o_fdiv, o_mul1 (show small64 69069 = true from rfl), o_mul2 hsm, finF, M.isMu]
theorem pure_in : ∀ {ys : List D} {x : D}, pureDs ys = true → x ∈ ys → pureD x = true
  | y :: ys, x, hp, h => by
    rw [pu_cons, Bool.and_eq_true] at hp
    rcases List.mem_cons.mp h with rfl | h
    · exact hp.1
    · exact pure_in hp.2 h
theorem one_dr (n : Nat) (xs : List D) (hp : pureDs xs = true) (h1 : 0 < xs.length) (h2 : xs.length < 1073741824) : Dr (callF sub T gv (n + 2) 1002) [.lst xs] (· ∈ xs) := by
  refine callF_dr T1002 rfl fun c hc => ?_
  refine wb_cons (ws_ret (we_bin (we_var rfl (we_call (wl_cons (we_var rfl (wl_cons (we_un (we_var rfl (WO.of u_lenL (wl_nil ?_)))))))))))
  refine wc_dr2 (grab_dr n xs.length (by omega) (by omega)) rfl hc rfl ?_
  rintro _ c' ⟨j, rfl, hj⟩ _ hc'
  have hj : j < xs.length := by omega
  refine WO.of (ix_lst j (List.getElem?_eq_getElem hj)) ⟨List.getElem_mem hj, pure_in hp (List.getElem_mem hj), c', hc', rfl⟩
theorem T1003 : T 1003 = l_law_values := rfl
theorem T1004 : T 1004 = l_law_rule := rfl
theorem T1005 : T 1005 = l_law_events := rfl
def valsA : List (List D) := [[.int 1, .int 2, .int 3, .int 4], [.str tAnew, .str tLonger, .str tNew, .str tSame], [.str tAnew, .str tLonger, .str tSame], [.int 0, .int 1, .int 2, .int 3],
  [.int 0, .int 1, .int 2, .int 3, .int 4, .int 5, .int 6, .int 7, .int 8], [.str tEither, .str tFirst, .str tThing], [.str tEnds, .str tStays], [.bl false, .bl true], [.bl false, .bl true]]
theorem values_ok (n : Nat) : callF sub T gv (n + 1) 1003 [] [] = some (.rt (.lst (valsA.map .lst)) [] []) := rfl
theorem vals_ok : ∀ x ∈ valsA, pureDs x = true ∧ 0 < x.length ∧ x.length < 1073741824 := by
  intro x hx
  simp only [valsA, List.mem_cons, List.not_mem_nil, or_false] at hx
  rcases hx with rfl | rfl | rfl | rfl | rfl | rfl | rfl | rfl | rfl <;> exact ⟨rfl, by decide, by decide⟩
/-- one of the things, in a comprehension -/
theorem elt_one (n : Nat) (i : Nat) (sl : Sl) (h0 : sl[0]? = some (some (.m 0))) (xs : List D) (hi : sl[i]? = some (some (.lst xs))) (hp : pureDs xs = true) (h1 : 0 < xs.length) (h2 : xs.length < 1073741824) (g s : Int) (hs : SkOk s) :
    ∃ d g' s', semE gv (callF sub T gv (n + 2)) (.call 1002 (.cons (.var 0) (.cons (.var i) .nil))) sl [.mu (sk g s)] = okE d [.mu (sk g' s')] ∧ SkOk s' ∧ pureD d = true ∧ d ∈ xs := by
  have w : WO (semE gv (callF sub T gv (n + 2)) (.call 1002 (.cons (.var 0) (.cons (.var i) .nil))) sl [.mu (sk g s)]) fun d m => ∃ g' s', m = [.mu (sk g' s')] ∧ SkOk s' ∧ pureD d = true ∧ d ∈ xs := by
    refine we_call (wl_cons (we_var h0 (wl_cons (we_var hi (wl_nil ?_)))))
    refine wc_dr2 (one_dr n xs hp h1 h2) rfl ⟨g, s, hs, rfl⟩ (by rw [pu_lst]; exact hp) ?_
    rintro v _ hv hpv ⟨g', s', hs', rfl⟩
    exact ⟨g', s', rfl, hs', hpv, hv⟩
  obtain ⟨d, m, e, g', s', rfl, h3, h4, h5⟩ := w
  exact ⟨d, g', s', e, h3, h4, h5⟩
theorem rule_dr (n : Nat) : Dr (callF sub T gv (n + 3) 1004) [] (fun v => ∃ r, Good r ∧ v = Ru.d r) := by
  rintro _ ⟨g, s, hs, rfl⟩
  suffices H : ∃ r g' s', SkOk s' ∧ Good r ∧ callF sub T gv (n + 3) 1004 [.m 0] [.mu (sk g s)] = some (.rt (Ru.d r) [.mu (sk g' s')] []) by
    obtain ⟨r, g', s', hs', gr, e⟩ := H
    exact ⟨_, _, ⟨_, _, hs', rfl⟩, ⟨r, gr, rfl⟩, rfl, e⟩
  obtain ⟨ds, g', s', hl, hs', hA, hD⟩ := lcS_sack (tg := .nm 2) (cnd := semE gv (callF sub T gv (n + 2)) (.cst (.bl true))) (elt := semE gv (callF sub T gv (n + 2)) (.call 1002 (.cons (.var 0) (.cons (.var 2) .nil)))) (sl := [some (.m 0), none, none]) D.lst (fun x d => d ∈ x) valsA [] g s hs
    (fun x hx g s hs => by
      obtain ⟨h1, h2, h3⟩ := vals_ok x hx
      obtain ⟨d, g', s', e, k1, k2, k3⟩ := elt_one n 2 [some (.m 0), none, some (.lst x)] rfl x rfl h1 h2 h3 g s hs
      exact ⟨_, d, g', s', rfl, by simp, e, k1, k2, k3⟩) (by decide)
  unfold valsA at hA
  obtain ⟨d0, e0, rfl, p0, hA⟩ := hA.cons_inv
  obtain ⟨d1, e1, rfl, p1, hA⟩ := hA.cons_inv
  obtain ⟨d2, e2, rfl, p2, hA⟩ := hA.cons_inv
  obtain ⟨d3, e3, rfl, p3, hA⟩ := hA.cons_inv
  obtain ⟨d4, e4, rfl, p4, hA⟩ := hA.cons_inv
  obtain ⟨d5, e5, rfl, p5, hA⟩ := hA.cons_inv
  obtain ⟨d6, e6, rfl, p6, hA⟩ := hA.cons_inv
  obtain ⟨d7, e7, rfl, p7, hA⟩ := hA.cons_inv
  obtain ⟨d8, e8, rfl, p8, hA⟩ := hA.cons_inv
  obtain rfl := hA.nil_inv
  simp only [List.mem_cons, List.not_mem_nil, or_false] at p0 p1 p2 p3 p4 p5 p6 p7 p8
  obtain ⟨c, rfl, c1, c2⟩ : ∃ c, d0 = .int c ∧ 1 ≤ c ∧ c ≤ 4 := by
    rcases p0 with rfl | rfl | rfl | rfl <;> exact ⟨_, rfl, by decide, by decide⟩
  obtain ⟨b, rfl, hb⟩ : ∃ b, d1 = .str b ∧ (b = tAnew ∨ b = tLonger ∨ b = tNew ∨ b = tSame) := by
    rcases p1 with rfl | rfl | rfl | rfl <;> exact ⟨_, rfl, by simp⟩
  obtain ⟨p, rfl, hp⟩ : ∃ b, d2 = .str b ∧ (b = tAnew ∨ b = tLonger ∨ b = tSame) := by
    rcases p2 with rfl | rfl | rfl <;> exact ⟨_, rfl, by simp⟩
  obtain ⟨o, rfl, o1, o2⟩ : ∃ c, d3 = .int c ∧ 0 ≤ c ∧ c ≤ 3 := by
    rcases p3 with rfl | rfl | rfl | rfl <;> exact ⟨_, rfl, by decide, by decide⟩
  obtain ⟨k, rfl, k1, k2⟩ : ∃ c, d4 = .int c ∧ 0 ≤ c ∧ c ≤ 8 := by
    rcases p4 with rfl | rfl | rfl | rfl | rfl | rfl | rfl | rfl | rfl <;> exact ⟨_, rfl, by decide, by decide⟩
  obtain ⟨l, rfl, hl5⟩ : ∃ b, d5 = .str b ∧ (b = tEither ∨ b = tFirst ∨ b = tThing) := by
    rcases p5 with rfl | rfl | rfl <;> exact ⟨_, rfl, by simp⟩
  obtain ⟨m, rfl, hm⟩ : ∃ b, d6 = .str b ∧ (b = tEnds ∨ b = tStays) := by
    rcases p6 with rfl | rfl <;> exact ⟨_, rfl, by simp⟩
  obtain ⟨a, rfl⟩ : ∃ b, d7 = .bl b := by rcases p7 with rfl | rfl <;> exact ⟨_, rfl⟩
  obtain ⟨r, rfl⟩ : ∃ b, d8 = .bl b := by rcases p8 with rfl | rfl <;> exact ⟨_, rfl⟩
  refine ⟨⟨c, b, p, o, if 0 < k ∧ k < c then c else k, l, m, a, r⟩, g', s', hs', ⟨c1, c2, hb, hp, o1, o2, ?_, ?_, hl5, hm, ?_⟩, ?_⟩
  · show 0 ≤ (if 0 < k ∧ k < c then c else k); split <;> omega
  · show (if 0 < k ∧ k < c then c else k) ≤ 8; split <;> omega
  · show (if 0 < k ∧ k < c then c else k) = 0 ∨ c ≤ (if 0 < k ∧ k < c then c else k); split <;> omega
  · rw [callF_succ, T1004]
    have hI : semI gv (callF sub T gv (n + 2)) (.seq (.call0 1003)) [some (.m 0), none, none] [.mu (sk g s)] = okI2 (valsA.map .lst) [.mu (sk g s)] := by
      rw [i_seqE, e_call0, callS_pp rfl, values_ok]
      rfl
    show endF 1 (semB sub gv (callF sub T gv (n + 2)) l_law_rule.body [some (.m 0), none, none] [.mu (sk g s)]) = _
    have i0 : ∀ k : Int, binS .idx (.m 1) (.int 0) [.mu (sk g' s'), .mu (.lst [.int c, .str b, .str p, .int o, .int k, .str l, .str m, .bl a, .bl r])] = okE (.int c) [.mu (sk g' s'), .mu (.lst [.int c, .str b, .str p, .int o, .int k, .str l, .str m, .bl a, .bl r])] := fun _ => rfl
    have i4 : ∀ k : Int, binS .idx (.m 1) (.int 4) [.mu (sk g' s'), .mu (.lst [.int c, .str b, .str p, .int o, .int k, .str l, .str m, .bl a, .bl r])] = okE (.int k) [.mu (sk g' s'), .mu (.lst [.int c, .str b, .str p, .int o, .int k, .str l, .str m, .bl a, .bl r])] := fun _ => rfl
    have st : ∀ sl, sto3 (some (.mu (.lst [.int c, .str b, .str p, .int o, .int k, .str l, .str m, .bl a, .bl r]))) 1 4 (.int c) sl [.mu (sk g' s'), .mu (.lst [.int c, .str b, .str p, .int o, .int k, .str l, .str m, .bl a, .bl r])] = nxS sl [.mu (sk g' s'), .mu (.lst [.int c, .str b, .str p, .int o, .int c, .str l, .str m, .bl a, .bl r])] := fun _ => rfl
    have tp : ∀ k : Int, unS .tuple (.m 1) [.mu (sk g' s'), .mu (.lst [.int c, .str b, .str p, .int o, .int k, .str l, .str m, .bl a, .bl r])] = okE (.tup [.int c, .str b, .str p, .int o, .int k, .str l, .str m, .bl a, .bl r]) [.mu (sk g' s'), .mu (.lst [.int c, .str b, .str p, .int o, .int k, .str l, .str m, .bl a, .bl r])] := fun _ => rfl
    simp only [l_law_rule, b_consE, t_asg, e_lc, hI, lcI_ok, hl, List.nil_append, bindE_ok, if_true, asgS_ok, List.set_cons_succ, List.set_cons_zero, seqS_nx, List.length_cons, List.length_nil, List.cons_append, Nat.zero_add]
    by_cases h1 : 0 < k <;> by_cases h2 : k < c <;>
      simp [h1, h2, i0, i4, st, tp, finF, M.isMu, chn2_ok, Ru.d]
end Mp
/-! StA: what the program does at an event (12 .. 20) -/
namespace Mp
abbrev cF := callF sub T gv
theorem T13 : T 13 = p_changed := rfl
theorem changed_ok (n : Nat) (r : Ru) (age left : Int) (w : Tx) : cF (n + 1) 13 [r.d, .int age, .int left, .str w] [] = some (.rt (.int (changedM r age left w)) [] []) := by
  simp [cF, callF_succ, T13, p_changed, startS, ifS_b, iteE_b, andE_b, orE_b, Ru.d]
  by_cases h1 : w = tAnew <;> by_cases h2 : w = tNew <;> by_cases h3 : w = tLonger <;> by_cases h4 : r.k = 0 <;> simp [h1, h2, h3, h4, changedM]
theorem begin_ok (n : Nat) (r : Ru) : cF (n + 1) 12 [r.d] [] = some (.rt (Sd.d ⟨0, r.c, ⟨tFirst, 0, tGood⟩, none⟩) [] []) := rfl
theorem T14 : T 14 = p_is_covered := rfl
theorem is_covered_ok (n : Nat) (r : Ru) (left : Int) (p : Pt) : cF (n + 1) 14 [r.d, .int left, p.d] [] = some (.rt (.bl (coveredM r left p)) [] []) := by
  simp [cF, callF_succ, T14, p_is_covered, startS, ifS_b, iteE_b, andE_b, orE_b, Ru.d, Pt.d]
  by_cases h1 : r.l = tFirst <;> by_cases h2 : p.k = tCame <;> by_cases h3 : r.l = tEither <;> simp [h1, h2, h3, coveredM]
theorem T15 : T 15 = p_moved := rfl
theorem moved_ok (n : Nat) (r : Ru) (p : Pt) : cF (n + 1) 15 [r.d, p.d] [] = some (.rt (movedM r p).d [] []) := by
  simp [cF, callF_succ, T15, p_moved, startS, ifS_b, iteE_b, andE_b, orE_b, Ru.d, Pt.d]
  by_cases h1 : r.m = tStays <;> simp [h1, movedM]
theorem T16 : T 16 = p_day_older := rfl
theorem older_ok (n : Nat) (p : Option Pt) : cF (n + 1) 16 [dQ p] [] = some (.rt (dQ (p.map olderM)) [] []) := by
  cases p <;> simp [cF, callF_succ, T16, p_day_older, startS, ifS_b, iteE_b, andE_b, orE_b, Pt.d, dQ, olderM]
theorem T17 : T 17 = p_claimed := rfl
theorem claimed_ok (n : Nat) (r : Ru) (s : Sd) : cF (n + 2) 17 [r.d, s.d] [] = some (.rt (.tup [(claimedM r s).1.d, .str (claimedM r s).2]) [] []) := by
  have e1 := changed_ok n r
  have e2 := is_covered_ok n r
  have e3 := moved_ok n r
  simp only [cF, Ru.d, Pt.d] at e1 e2 e3
  simp [cF, callF_succ (n := n + 1), T17, p_claimed, startS, ifS_b, iteE_b, andE_b, orE_b, Ru.d, Pt.d, Sd.d, e1, e2, e3]
  by_cases h1 : s.p.s = tGood <;> cases h2 : coveredM r s.left s.p <;> cases h3 : r.r <;> simp [h1, h2, h3, claimedM]
theorem T18 : T 18 = p_bodied := rfl
theorem bodied_ok (n : Nat) (r : Ru) (s : Sd) : cF (n + 2) 18 [r.d, s.d] [] = some (.rt (.tup [(bodiedM r s).1.d, .str (bodiedM r s).2]) [] []) := by
  have e1 := changed_ok n r
  simp only [cF, Ru.d, Pt.d] at e1
  simp [cF, callF_succ (n := n + 1), T18, p_bodied, startS, ifS_b, iteE_b, andE_b, orE_b, Ru.d, Pt.d, Sd.d, e1]
  by_cases h1 : s.left = 0 <;> by_cases h2 : r.b = tNew <;> simp [h1, h2, bodiedM]
theorem T19 : T 19 = p_a_day_later := rfl
theorem older_p (n : Nat) (p : Pt) : cF (n + 1) 16 [p.d] [] = some (.rt (olderM p).d [] []) := older_ok n (some p)
theorem day_ok (n : Nat) (r : Ru) (s : Sd) : cF (n + 2) 19 [r.d, s.d] [] = some (.rt (dayM r s).d [] []) := by
  have e1 := older_ok n
  have e2 := older_p n
  simp only [cF, Ru.d, Pt.d] at e1 e2
  simp [cF, callF_succ (n := n + 1), T19, p_a_day_later, startS, ifS_b, iteE_b, andE_b, orE_b, Ru.d, Pt.d, Sd.d, e1, e2]
  by_cases h1 : r.k = 0 <;> simp [h1, dayM]
theorem T20 : T 20 = p_step := rfl
theorem step_ok (n : Nat) (r : Ru) (s : Sd) (e : Ev) : cF (n + 3) 20 [r.d, s.d, e.d] [] = some (.rt (.tup [(stepM r s e).1.d, .str (stepM r s e).2]) [] []) := by
  have e1 := claimed_ok n r s
  have e2 := bodied_ok n r s
  have e3 := day_ok n r s
  have e4 := moved_ok (n + 1) r
  simp only [cF, Ru.d, Pt.d, Sd.d] at e1 e2 e3 e4
  have f0 := fun mm => ne_Sd s s mm
  have f1 := fun mm => ne_Sd ⟨s.age, s.left, ⟨s.p.k, s.p.w, tBroken⟩, s.q⟩ s mm
  have f2 := fun mm => ne_Sd ⟨s.age, s.left, s.p, some ⟨tAlien, 0, tBroken⟩⟩ s mm
  simp only [Sd.d, Pt.d, dQ_some] at f0 f1 f2
  cases e
  · simp [cF, callF_succ (n := n + 2), T20, p_step, startS, ifS_b, iteE_b, andE_b, orE_b, Ru.d, Pt.d, Sd.d, Ev.d, Ev.t, e2, stepM]
  · by_cases h : s.p.s = tGood
    · simp only [h] at f1
      simp [cF, callF_succ (n := n + 2), T20, p_step, startS, ifS_b, iteE_b, andE_b, orE_b, Ru.d, Pt.d, Sd.d, Ev.d, Ev.t, stepM, h, f1]
      by_cases h2 : (⟨s.age, s.left, ⟨s.p.k, s.p.w, tBroken⟩, s.q⟩ : Sd) = s <;> simp [h2]
    · simp [cF, callF_succ (n := n + 2), T20, p_step, startS, ifS_b, iteE_b, andE_b, orE_b, Ru.d, Pt.d, Sd.d, Ev.d, Ev.t, stepM, h, f0]
  · simp [cF, callF_succ (n := n + 2), T20, p_step, startS, ifS_b, iteE_b, andE_b, orE_b, Ru.d, Pt.d, Sd.d, Ev.d, Ev.t, e1, stepM]
  · simp [cF, callF_succ (n := n + 2), T20, p_step, startS, ifS_b, iteE_b, andE_b, orE_b, Ru.d, Pt.d, Sd.d, Ev.d, Ev.t, e3, stepM]
  · simp [cF, callF_succ (n := n + 2), T20, p_step, startS, ifS_b, iteE_b, andE_b, orE_b, Ru.d, Pt.d, Sd.d, Ev.d, Ev.t, stepM, f2]
    by_cases h2 : (⟨s.age, s.left, s.p, some ⟨tAlien, 0, tBroken⟩⟩ : Sd) = s <;> simp [h2]
  · cases hq : s.q with
    | none =>
      rw [hq] at f0
      simp only [dQ_none] at f0
      simp [cF, callF_succ (n := n + 2), T20, p_step, startS, ifS_b, iteE_b, andE_b, orE_b, Ru.d, Pt.d, Sd.d, Ev.d, Ev.t, stepM, hq, f0]
    | some q =>
      have f3 := fun mm => ne_Sd ⟨s.age, s.left, movedM r q, some (movedM r s.p)⟩ s mm
      simp only [Sd.d, Pt.d, dQ_some, hq] at f3
      simp [cF, callF_succ (n := n + 2), T20, p_step, startS, ifS_b, iteE_b, andE_b, orE_b, Ru.d, Pt.d, Sd.d, Ev.d, Ev.t, e4, stepM, hq, f3]
      by_cases h2 : (⟨s.age, s.left, movedM r q, some (movedM r s.p)⟩ : Sd) = s <;> simp [h2]
end Mp
/-! SoA: the law's own step (1020 .. 1027) -/
namespace Mp
abbrev cL := callF sub T gv
theorem T1020 : T 1020 = l_law_new := rfl
theorem T1021 : T 1021 = l_law_holds := rfl
theorem T1022 : T 1022 = l_law_longer := rfl
theorem T1023 : T 1023 = l_law_out := rfl
theorem T1024 : T 1024 = l_law_claim := rfl
theorem T1025 : T 1025 = l_law_body := rfl
theorem T1026 : T 1026 = l_law_older := rfl
theorem T1027 : T 1027 = l_law_on := rfl
theorem new_ok (n : Nat) (r : Ru) : cL (n + 1) 1020 [r.d] [] = some (.rt (Sd.d ⟨0, r.c, ⟨tFirst, 0, tGood⟩, none⟩) [] []) := rfl
theorem holds_ok (n : Nat) (r : Ru) (g : Good r) (left : Int) (p : Pt) : cL (n + 1) 1021 [r.d, .int left, p.d] [] = some (.rt (.bl (coveredM r left p)) [] []) := by
  simp [cL, callF_succ, T1021, l_law_holds, startS, ifS_b, iteE_b, andE_b, orE_b, Ru.d, Pt.d]
  rcases g.l with h1 | h1 | h1 <;> by_cases h2 : p.k = tCame <;> cases h3 : r.a <;> by_cases h4 : p.k = tAlien <;> simp [h1, h2, h3, h4, coveredM] <;> simp_all
theorem longer_ok (n : Nat) (r : Ru) (g : Good r) (age left : Int) (w : Tx) (hw : w = tAnew ∨ w = tLonger ∨ w = tNew ∨ w = tSame) : cL (n + 1) 1022 [r.d, .int age, .int left, .str w] [] = some (.rt (.int (changedM r age left w)) [] []) := by
  have k1 := g.k1
  simp [cL, callF_succ, T1022, l_law_longer, startS, ifS_b, iteE_b, andE_b, orE_b, Ru.d]
  by_cases h4 : r.k = 0
  · rcases hw with h | h | h | h <;> simp [h, h4, changedM]
  · have h5 : 0 < r.k := by omega
    rcases hw with h | h | h | h <;> simp [h, h4, h5, changedM]
theorem out_ok (n : Nat) (r : Ru) (p : Pt) : cL (n + 1) 1023 [r.d, p.d] [] = some (.rt (movedM r p).d [] []) := by
  simp [cL, callF_succ, T1023, l_law_out, startS, ifS_b, iteE_b, andE_b, orE_b, Ru.d, Pt.d]
  by_cases h1 : r.m = tStays <;> simp [h1, movedM]
theorem claim_ok (n : Nat) (r : Ru) (g : Good r) (s : Sd) : cL (n + 2) 1024 [r.d, s.d] [] = some (.rt (.tup [(claimedM r s).1.d, .str (claimedM r s).2]) [] []) := by
  have e1 := longer_ok n r g s.age s.left r.p (by rcases g.p with h | h | h <;> simp [h])
  have e2 := holds_ok n r g s.left s.p
  have e3 := out_ok n r
  simp only [cL, Ru.d, Pt.d] at e1 e2 e3
  simp [cL, callF_succ (n := n + 1), T1024, l_law_claim, startS, ifS_b, iteE_b, andE_b, orE_b, Ru.d, Pt.d, Sd.d, e1, e2, e3]
  by_cases h1 : s.p.s = tGood <;> cases h2 : coveredM r s.left s.p <;> cases h3 : r.r <;> simp [h1, h2, h3, claimedM]
theorem body_ok (n : Nat) (r : Ru) (g : Good r) (s : Sd) (gs : GoodS r s) : cL (n + 2) 1025 [r.d, s.d] [] = some (.rt (.tup [(bodiedM r s).1.d, .str (bodiedM r s).2]) [] []) := by
  have e1 := longer_ok n r g s.age s.left r.b g.b
  have hl := gs.left
  simp only [cL, Ru.d, Pt.d] at e1
  simp [cL, callF_succ (n := n + 1), T1025, l_law_body, startS, ifS_b, iteE_b, andE_b, orE_b, Ru.d, Pt.d, Sd.d, e1]
  by_cases h1 : s.left = 0
  · simp [h1, bodiedM]
  · have h3 : ¬ s.left < 1 := by omega
    by_cases h2 : r.b = tNew <;> simp [h1, h3, h2, bodiedM]
theorem olderL_ok (n : Nat) (p : Pt) (h : 0 ≤ p.w) : cL (n + 1) 1026 [p.d] [] = some (.rt (olderM p).d [] []) := by
  simp [cL, callF_succ, T1026, l_law_older, startS, ifS_b, iteE_b, andE_b, orE_b, Pt.d, olderM]
  split <;> omega
theorem on_ok (n : Nat) (r : Ru) (g : Good r) (s : Sd) (gs : GoodS r s) (e : Ev) : cL (n + 3) 1027 [r.d, s.d, e.d] [] = some (.rt (.tup [(stepM r s e).1.d, .str (stepM r s e).2]) [] []) := by
  have e1 := claim_ok n r g s
  have e2 := body_ok n r g s gs
  have e3 := olderL_ok (n + 1) s.p gs.own
  have e4 := out_ok (n + 1) r
  have f0 := fun mm => eq_Sd2 s s mm
  have f1 := fun mm => eq_Sd2 ⟨s.age, s.left, ⟨s.p.k, s.p.w, tBroken⟩, s.q⟩ s mm
  have f2 := fun mm => eq_Sd2 ⟨s.age, s.left, s.p, some ⟨tAlien, 0, tBroken⟩⟩ s mm
  simp only [cL, Ru.d, Pt.d, Sd.d] at e1 e2 e3 e4
  simp only [Sd.d, Pt.d, dQ_some] at f0 f1 f2
  cases e
  · simp [cL, callF_succ (n := n + 2), T1027, l_law_on, startS, ifS_b, iteE_b, andE_b, orE_b, Ru.d, Pt.d, Sd.d, Ev.d, Ev.t, e2, stepM]
  · by_cases h : s.p.s = tGood
    · simp only [h] at f1
      simp [cL, callF_succ (n := n + 2), T1027, l_law_on, startS, ifS_b, iteE_b, andE_b, orE_b, Ru.d, Pt.d, Sd.d, Ev.d, Ev.t, stepM, h, f1]
      by_cases h2 : (⟨s.age, s.left, ⟨s.p.k, s.p.w, tBroken⟩, s.q⟩ : Sd) = s <;> simp [h2]
    · simp [cL, callF_succ (n := n + 2), T1027, l_law_on, startS, ifS_b, iteE_b, andE_b, orE_b, Ru.d, Pt.d, Sd.d, Ev.d, Ev.t, stepM, h, f0]
  · simp [cL, callF_succ (n := n + 2), T1027, l_law_on, startS, ifS_b, iteE_b, andE_b, orE_b, Ru.d, Pt.d, Sd.d, Ev.d, Ev.t, e1, stepM]
  · have hl := gs.left
    have ha := gs.age
    have hc := gs.cap
    have k1 := g.k1
    have hA : (if r.k = 0 then s.age else min (s.age + 1) r.k) = min (s.age + 1) r.k := by split <;> omega
    have hL : max 0 (s.left - 1) = s.left - (if 0 < s.left then 1 else 0) := by split <;> omega
    cases hq : s.q with
    | none =>
      simp [cL, callF_succ (n := n + 2), T1027, l_law_on, startS, ifS_b, iteE_b, andE_b, orE_b, Ru.d, Pt.d, Sd.d, Ev.d, Ev.t, e3, stepM, dayM, hq, hA, hL]
    | some q =>
      have e5 := olderL_ok (n + 1) q (gs.loose q hq)
      simp only [cL, Pt.d] at e5
      simp [cL, callF_succ (n := n + 2), T1027, l_law_on, startS, ifS_b, iteE_b, andE_b, orE_b, Ru.d, Pt.d, Sd.d, Ev.d, Ev.t, e3, e5, stepM, dayM, hq, hA, hL]
  · simp [cL, callF_succ (n := n + 2), T1027, l_law_on, startS, ifS_b, iteE_b, andE_b, orE_b, Ru.d, Pt.d, Sd.d, Ev.d, Ev.t, stepM, f2]
    by_cases h2 : (⟨s.age, s.left, s.p, some ⟨tAlien, 0, tBroken⟩⟩ : Sd) = s <;> simp [h2]
  · cases hq : s.q with
    | none =>
      rw [hq] at f0
      simp only [dQ_none] at f0
      simp [cL, callF_succ (n := n + 2), T1027, l_law_on, startS, ifS_b, iteE_b, andE_b, orE_b, Ru.d, Pt.d, Sd.d, Ev.d, Ev.t, stepM, hq, f0]
    | some q =>
      have f3 := fun mm => eq_Sd2 ⟨s.age, s.left, movedM r q, some (movedM r s.p)⟩ s mm
      simp only [Sd.d, Pt.d, dQ_some, hq] at f3
      simp [cL, callF_succ (n := n + 2), T1027, l_law_on, startS, ifS_b, iteE_b, andE_b, orE_b, Ru.d, Pt.d, Sd.d, Ev.d, Ev.t, e4, stepM, hq, f3]
      by_cases h2 : (⟨s.age, s.left, movedM r q, some (movedM r s.p)⟩ : Sd) = s <;> simp [h2]
end Mp
/-! Nr: what is a rule, with its neighbours, by the program (3, 6, 8, 9, 11) -/
namespace Mp
/-- data that the law builds -/
def plainD : D → Bool
  | .dct _ _ => false
  | .dtu _ _ => false
  | .obj _ _ => false
  | .m _ => false
  | _ => true
def sameM : D → D → Bool
  | .bl x, y => (match y with | .bl z => x == z | _ => false)
  | .int x, y => (match y with | .int z => decide (x = z) | _ => false)
  | .str x, y => (match y with | .str z => decide (x = z) | _ => false)
  | _, _ => false
theorem T2 : T 2 = p_is_same := rfl
section
variable {mm : Mm}
def isB : Ty → D → Bool
  | .bool, .bl _ => true
  | .int, .bl _ => true
  | .int, .int _ => true
  | .str, .str _ => true
  | .tuple, .tup _ => true
  | .list, .lst _ => true
  | _, _ => false
theorem u_isi {t : Ty} {d : D} (h : plainD d = true) (ht : t = .bool ∨ t = .int ∨ t = .str ∨ t = .tuple ∨ t = .list) : unS (.isi t) d mm = okE (.bl (isB t d)) mm := by
  rcases ht with rfl | rfl | rfl | rfl | rfl <;> cases d <;> first | rfl | (cases h; done)
end
theorem same_ok (n : Nat) (a b : D) (ha : plainD a = true) (hb : plainD b = true) (pa : pureD a = true) (pb : pureD b = true) : callF sub T gv (n + 1) 2 [a, b] [] = some (.rt (.bl (sameM a b)) [] []) := by
  rw [callF_succ, T2]
  have i1 : ∀ {d : D} {mm : Mm}, plainD d = true → unS (.isi .bool) d mm = okE (.bl (isB .bool d)) mm := fun h => u_isi h (by simp)
  have i2 : ∀ {d : D} {mm : Mm}, plainD d = true → unS (.isi .int) d mm = okE (.bl (isB .int d)) mm := fun h => u_isi h (by simp)
  have i3 : ∀ {d : D} {mm : Mm}, plainD d = true → unS (.isi .str) d mm = okE (.bl (isB .str d)) mm := fun h => u_isi h (by simp)
  show endF 0 (semB sub gv (callF sub T gv n) p_is_same.body [some a, some b] []) = _
  simp only [p_is_same, b_consE, t_ifs, e_or, e_un, e_var, List.getElem?_cons_zero, List.getElem?_cons_succ, varE_ok, un1_ok, i1 ha, i1 hb, i2 ha, i2 hb, i3 ha, i3 hb, t_ret, e_and, e_bin]
  cases a <;> cases b <;> first | rfl | (cases ha; done) | (cases hb; done) | skip
  all_goals trace_state
def valsL : List (List D) := [[.int 1, .int 2, .int 3, .int 4], [.str tAnew, .str tLonger, .str tNew, .str tSame], [.str tAnew, .str tLonger, .str tSame], [.int 0, .int 1, .int 2, .int 3],
  [.int 0, .int 1, .int 2, .int 3, .int 4, .int 5, .int 6, .int 7, .int 8], [.str tEither, .str tFirst, .str tThing], [.str tEnds, .str tStays], [.bl false, .bl true], [.bl false, .bl true]]
abbrev pnL : List D := match gv 0 with
  | .tup xs => xs
  | _ => []
abbrev isRuleB : B := (.cons (.ifs (.not (.un .any (.lc false (.nm 3) (.call 2 (.cons (.var 2) (.cons (.var 3) .nil))) (.seq (.call 0 (.cons (.var 1) .nil))) (.cst (.bl true)))))
    (.cons (.ret (.cst (.bl false)))
    .nil)
    .nil)
    .nil)
/-- the values of a part, as the program tells them -/
structure ValsOf (n : Nat) (p : D) (L : List D) : Prop where
  run : callF sub T gv (n + 2) 0 [p] [] = some (.rt (.lst L) [] [])
  pp : pureD p = true
  pl : pureDs L = true
  pd : L.all plainD = true
  len : L.length ≤ 100
theorem vals_split {x L : List Nat} {words : List Tx} (h : TL.spl [32] 0 [] x = words) (hk : words.all okT = true) (hx : x.length + 2 ≤ szl) {mm : Mm} : binS .split (.str x) (.str [32]) mm = okE (.lst (words.map .str)) mm := by
  have e : splitT x [32] = words := by rw [splitT_spl (by simp) (by decide)]; exact h
  have e2 : (splitT x [32]).all okT = true := by rw [e]; exact hk
  simp only [binS]
  rw [e2, e, decide_eq_true hx]
  rfl
theorem valsOf (n : Nat) : ∀ q ∈ pnL.zip valsL, ValsOf n q.1 q.2 := by
  intro q hq
  have hq : q ∈ [(D.str [99, 111, 118, 101, 114], valsL.getD 0 []), (.str [98, 111, 100, 121], valsL.getD 1 []), (.str [112, 97, 114, 116], valsL.getD 2 []), (.str [111, 119, 110], valsL.getD 3 []), (.str [99, 97, 112], valsL.getD 4 []), (.str [108, 111, 111, 107, 115], valsL.getD 5 []), (.str [109, 111, 118, 101, 100], valsL.getD 6 []), (.str [97, 108, 105, 101, 110], valsL.getD 7 []), (.str [98, 97, 99, 107], valsL.getD 8 [])] := hq
  simp only [List.mem_cons, List.not_mem_nil, or_false] at hq
  rcases hq with rfl | rfl | rfl | rfl | rfl | rfl | rfl | rfl | rfl
  · exact ⟨rfl, rfl, rfl, rfl, by decide⟩
  · refine ⟨?_, rfl, rfl, rfl, by decide⟩
    rw [callF_succ]
    show endF 0 (seqS (retS _ (binS .split (.str [97, 110, 101, 119, 32, 108, 111, 110, 103, 101, 114, 32, 110, 101, 119, 32, 115, 97, 109, 101]) (.str [32]) [])) _) = _
    rw [vals_split (L := []) (words := [tAnew, tLonger, tNew, tSame]) rfl rfl (by decide)]
    rfl
  · refine ⟨?_, rfl, rfl, rfl, by decide⟩
    rw [callF_succ]
    show endF 0 (seqS (retS _ (binS .split (.str [97, 110, 101, 119, 32, 108, 111, 110, 103, 101, 114, 32, 115, 97, 109, 101]) (.str [32]) [])) _) = _
    rw [vals_split (L := []) (words := [tAnew, tLonger, tSame]) rfl rfl (by decide)]
    rfl
  · exact ⟨rfl, rfl, rfl, rfl, by decide⟩
  · exact ⟨rfl, rfl, rfl, rfl, by decide⟩
  · refine ⟨?_, rfl, rfl, rfl, by decide⟩
    rw [callF_succ]
    show endF 0 (seqS (retS _ (binS .split (.str [101, 105, 116, 104, 101, 114, 32, 102, 105, 114, 115, 116, 32, 116, 104, 105, 110, 103]) (.str [32]) [])) _) = _
    rw [vals_split (L := []) (words := [tEither, tFirst, tThing]) rfl rfl (by decide)]
    rfl
  · exact ⟨rfl, rfl, rfl, rfl, by decide⟩
  · exact ⟨rfl, rfl, rfl, rfl, by decide⟩
  · exact ⟨rfl, rfl, rfl, rfl, by decide⟩
theorem allBl_map {α : Type} (f : α → Bool) : ∀ xs : List α, allBl (xs.map fun x => D.bl (f x)) = some (xs.map f)
  | [] => rfl
  | x :: xs => by simp only [List.map_cons, allBl, allBl_map f xs, Option.map_some]
theorem plain_mem {L : List D} (h : L.all plainD = true) {x : D} (hx : x ∈ L) : plainD x = true := List.all_eq_true.mp h x hx
theorem pure_mem : ∀ {L : List D}, pureDs L = true → ∀ {x : D}, x ∈ L → pureD x = true
  | [], _, _, h => by cases h
  | y :: L, hp, x, h => by
    rw [pu_cons, Bool.and_eq_true] at hp
    rcases List.mem_cons.mp h with rfl | h
    · exact hp.1
    · exact pure_mem hp.2 h
/-- the body of is_rule's loop -/
theorem rule_turn {n : Nat} {p one r0 : D} {L : List D} {x : Option D} (V : ValsOf n p L) (h1 : plainD one = true) (h2 : pureD one = true) :
    semB sub gv (callF sub T gv (n + 2)) isRuleB [some r0, some p, some one, x] [] = if L.any (sameM one) = true then nxS [some r0, some p, some one, x] [] else rtS (.bl false) [] := by
  have hl : lcS (.nm 3) (semE gv (callF sub T gv (n + 2)) (.cst (.bl true))) (semE gv (callF sub T gv (n + 2)) (.call 2 (.cons (.var 2) (.cons (.var 3) .nil)))) [some r0, some p, some one, x] (L.map id) [] [] = okE (.lst ([] ++ L.map fun v => D.bl (sameM one v))) [] := by
    refine lcS_map id _ L [] (fun v hv => ⟨[some r0, some p, some one, some v], rfl, by simp, ?_, rfl⟩) (by have := V.len; simp; omega)
    have q := same_ok (n + 1) one v h1 (plain_mem V.pd hv) h2 (pure_mem V.pl hv)
    rw [e_call]
    show callS (callF sub T gv (n + 2) 2) [one, v] [] = _
    rw [callS_pp (by simp [h2, pure_mem V.pl hv]), q, resP_rt, if_pos (by rfl)]
  rw [List.map_id, List.nil_append] at hl
  have hI : semI gv (callF sub T gv (n + 2)) (.seq (.call 0 (.cons (.var 1) .nil))) [some r0, some p, some one, x] [] = okI2 L [] := by
    rw [i_seqE, e_call]
    show seqI (callS (callF sub T gv (n + 2) 0) [p] []) = _
    rw [callS_pp (by simp [V.pp]), V.run, resP_rt, if_pos (by rw [pu_lst]; exact V.pl), seqI_lst]
  have ha : ∀ mm, unS .any (.lst (L.map fun v => D.bl (sameM one v))) mm = okE (.bl (L.any (sameM one))) mm := fun mm => by
    simp only [unS, rdv_lst, allBl_map, List.any_map]
    rfl
  rw [b_consE, t_ifs, e_not, e_un, e_lc, hI, lcI_ok, hl, bindE_ok]
  simp only [Bool.false_eq_true, if_false]
  rw [un1_ok, ha, notE_ok]
  cases L.any (sameM one) <;> rfl
def okAll : List (List D) → List D → Bool
  | L :: Ls, x :: xs => L.any (sameM x) && okAll Ls xs
  | _, _ => true
theorem rule_loop {n : Nat} {r0 : D} : ∀ {ps : List D} {Ls : List (List D)} {xs : List D}, (∀ q ∈ ps.zip Ls, ValsOf n q.1 q.2) → ps.length = Ls.length → xs.length = ps.length → xs.all plainD = true → pureDs xs = true → ∀ x1 x2 x3, ∃ y1 y2,
    forS (.tp [1, 2]) (semB sub gv (callF sub T gv (n + 2)) isRuleB) (zipD ps xs) [some r0, x1, x2, x3] [] = if okAll Ls xs = true then nxS [some r0, y1, y2, x3] [] else rtS (.bl false) []
  | [], Ls, [], _, hl, _, _, _, x1, x2, x3 => ⟨x1, x2, by
    have : Ls = [] := by cases Ls with | nil => rfl | cons _ _ => simp at hl
    subst this; rfl⟩
  | [], _, _ :: _, _, _, h, _, _, _, _, _ => by simp at h
  | _ :: _, _, [], _, _, h, _, _, _, _, _ => by simp at h
  | _ :: _, [], _ :: _, _, h, _, _, _, _, _, _ => by simp at h
  | p :: ps, L :: Ls, one :: xs, V, hl, hx, hp, hu, x1, x2, x3 => by
    rw [List.all_cons, Bool.and_eq_true] at hp
    rw [pu_cons, Bool.and_eq_true] at hu
    have V0 := V (p, L) (by simp)
    obtain ⟨y1, y2, ih⟩ := rule_loop (r0 := r0) (ps := ps) (Ls := Ls) (xs := xs) (fun q hq => V q (by simp [hq])) (by simpa using hl) (by simpa using hx) hp.2 hu.2 (some p) (some one) x3
    refine ⟨y1, y2, ?_⟩
    show forS (.tp [1, 2]) _ (.tup [p, one] :: zipD ps xs) _ _ = _
    rw [forS_cons]
    show nextF (semB sub gv (callF sub T gv (n + 2)) isRuleB [some r0, some p, some one, x3] []) _ = _
    rw [rule_turn V0 hp.1 hu.1]
    rcases Bool.eq_false_or_eq_true (L.any (sameM one)) with h | h
    · rw [if_pos h, nextF_nx]
      simp only [okAll, h, Bool.true_and]
      exact ih
    · rw [if_neg (by rw [h]; simp), nextF_rt]
      simp [okAll, h]
def capOk (xs : List D) : Bool := match xs with
  | .int c :: _ :: _ :: _ :: .int k :: _ => decide (k = 0) || decide (c ≤ k)
  | _ => false
def isRuleM : D → Bool
  | .tup xs => decide (xs.length = 9) && (okAll valsL xs && capOk xs)
  | _ => false
theorem T3 : T 3 = p_is_rule := rfl
theorem sameM_eq {x y : D} (h : sameM x y = true) : x = y := by
  cases x <;> cases y <;> simp only [sameM, Bool.false_eq_true, beq_iff_eq, decide_eq_true_eq] at h <;> first | rw [h] | (cases h; done)
theorem any_mem {x : D} {L : List D} (h : L.any (sameM x) = true) : x ∈ L := by
  obtain ⟨y, hy, e⟩ := List.any_eq_true.mp h
  rw [sameM_eq e]; exact hy
section
variable {mm : Mm}
@[simp] theorem o_neI {i j : Int} : binS .ne (.int i) (.int j) mm = okE (.bl (!decide (i = j))) mm := rfl
end
theorem isi_tup {v : D} {mm : Mm} (h : plainD v = true) : unS (.isi .tuple) v mm = okE (.bl (isB .tuple v)) mm := u_isi h (by simp)
theorem is_rule_gen (n : Nat) (v : D) (hp : plainD v = true) (hu : pureD v = true) (he : ∀ xs, v = .tup xs → xs.all plainD = true) : callF sub T gv (n + 3) 3 [v] [] = some (.rt (.bl (isRuleM v)) [] []) := by
  rw [callF_succ, T3]
  show endF 0 (semB sub gv (callF sub T gv (n + 2)) (.cons (.ifs (.or (.not (.un (.isi .tuple) (.var 0))) (.bin .ne (.un .len (.var 0)) (.un .len (.glb 0)))) (.cons (.ret (.cst (.bl false))) .nil) .nil) (.cons (.for (.tp [1, 2]) (.zip (.glb 0) (.var 0)) isRuleB) (.cons (.ret (.or (.bin .eq (.bin .idx (.var 0) (.cst (.int 4))) (.cst (.int 0))) (.bin .ge (.bin .idx (.var 0) (.cst (.int 4))) (.bin .idx (.var 0) (.cst (.int 0)))))) .nil))) [some v, none, none, none] []) = _
  by_cases ht : isB .tuple v = true
  · obtain ⟨xs, rfl⟩ : ∃ xs, v = .tup xs := by
      cases v <;> simp only [isB, Bool.false_eq_true] at ht
      exact ⟨_, rfl⟩
    have hlen9 : pnL.length = 9 := rfl
    have hx := he xs rfl
    rw [pu_tup] at hu
    by_cases hl : xs.length = 9
    · obtain ⟨y1, y2, hz⟩ := rule_loop (r0 := .tup xs) (valsOf n) (ps := pnL) (Ls := valsL) (xs := xs) rfl (by rw [hl]; rfl) hx hu none none none
      have hf : semS sub gv (callF sub T gv (n + 2)) (.ifs (.or (.not (.un (.isi .tuple) (.var 0))) (.bin .ne (.un .len (.var 0)) (.un .len (.glb 0)))) (.cons (.ret (.cst (.bl false))) .nil) .nil) [some (.tup xs), none, none, none] [] = nxS [some (.tup xs), none, none, none] [] := by
        rw [t_ifs, e_or, e_not, e_un, e_var]
        show ifS _ (orE (okE (.bl false) []) _) _ _ = _
        rw [orE_f, e_bin, e_un, e_var]
        show ifS _ (bin2 .ne (.int xs.length) (okE (.int 9) [])) _ _ = _
        rw [bin2_ok, o_neI]
        simp [hl]
      rw [b_consE, hf, seqS_nx, b_consE, t_for]
      have hi : semI gv (callF sub T gv (n + 2)) (.zip (.glb 0) (.var 0)) [some (.tup xs), none, none, none] [] = okI2 (zipD pnL xs) [] := rfl
      rw [hi, forI_ok, hz]
      cases hk : okAll valsL xs with
      | false =>
        simp [isRuleM, hk]
      | true =>
        simp only [if_true, seqS_nx]
        obtain ⟨x0, x1, x2, x3, x4, x5, x6, x7, x8, rfl⟩ : ∃ x0 x1 x2 x3 x4 x5 x6 x7 x8, xs = [x0, x1, x2, x3, x4, x5, x6, x7, x8] := by
          match xs, hl with
          | [x0, x1, x2, x3, x4, x5, x6, x7, x8], _ => exact ⟨_, _, _, _, _, _, _, _, _, rfl⟩
        have h2 := hk
        simp only [okAll, valsL, Bool.and_eq_true] at h2
        have m0 := any_mem h2.1
        have m4 := any_mem h2.2.2.2.2.1
        obtain ⟨c, rfl⟩ : ∃ c, x0 = .int c := by
          simp only [List.mem_cons, List.not_mem_nil, or_false] at m0
          rcases m0 with rfl | rfl | rfl | rfl <;> exact ⟨_, rfl⟩
        obtain ⟨k, rfl⟩ : ∃ c, x4 = .int c := by
          simp only [List.mem_cons, List.not_mem_nil, or_false] at m4
          rcases m4 with rfl | rfl | rfl | rfl | rfl | rfl | rfl | rfl | rfl <;> exact ⟨_, rfl⟩
        simp [isRuleM, hk, capOk, orE_b]
    · have hf : semS sub gv (callF sub T gv (n + 2)) (.ifs (.or (.not (.un (.isi .tuple) (.var 0))) (.bin .ne (.un .len (.var 0)) (.un .len (.glb 0)))) (.cons (.ret (.cst (.bl false))) .nil) .nil) [some (.tup xs), none, none, none] [] = rtS (.bl false) [] := by
        rw [t_ifs, e_or, e_not, e_un, e_var]
        show ifS _ (orE (okE (.bl false) []) _) _ _ = _
        rw [orE_f, e_bin, e_un, e_var]
        show ifS _ (bin2 .ne (.int xs.length) (okE (.int 9) [])) _ _ = _
        rw [bin2_ok, o_neI]
        have : ¬ ((xs.length : Int) = 9) := by omega
        simp [this]
      rw [b_consE, hf, seqS_rt]
      simp [isRuleM, hl]
  · have ht : isB .tuple v = false := by simpa using ht
    have hf : semS sub gv (callF sub T gv (n + 2)) (.ifs (.or (.not (.un (.isi .tuple) (.var 0))) (.bin .ne (.un .len (.var 0)) (.un .len (.glb 0)))) (.cons (.ret (.cst (.bl false))) .nil) .nil) [some v, none, none, none] [] = rtS (.bl false) [] := by
      rw [t_ifs, e_or, e_not, e_un, e_var]
      show ifS _ (orE (notE (unS (.isi .tuple) v [])) _) _ _ = _
      rw [isi_tup hp, ht]
      rfl
    have hm : isRuleM v = false := by cases v <;> first | rfl | (simp only [isB] at ht; cases ht; done)
    rw [b_consE, hf, seqS_rt, hm]
    rfl
abbrev numB : B := (.cons (.ifs (.or (.un (.isi .bool) (.var 2)) (.or (.not (.un (.isi .int) (.var 2))) (.not (.chn .le .le (.cst (.int 0)) (.var 2) (.var 3)))))
    (.cons (.ret (.cst (.bl false)))
    .nil)
    .nil)
    .nil)
abbrev wordB : B := (.cons (.ifs (.or (.not (.un (.isi .str) (.bin .idx (.var 0) (.var 4)))) (.bin .nmem (.bin .idx (.var 0) (.var 4)) (.mth .split (.var 5) (.cst (.str [32])))))
    (.cons (.ret (.cst (.bl false)))
    .nil)
    .nil)
    .nil)
def numOk (x : D) (h : Int) : Bool := match x with
  | .int c => decide (0 ≤ c) && decide (c ≤ h)
  | _ => false
def wordOk (x : D) (L : List D) : Bool := match x with
  | .str _ => memD x L
  | _ => false
theorem num_turn {n : Nat} {one : D} {h : Int} {s0 s1 s4 s5 : Option D} (hp : plainD one = true) : semB sub gv (callF sub T gv n) numB [s0, s1, some one, some (.int h), s4, s5] [] = if numOk one h = true then nxS [s0, s1, some one, some (.int h), s4, s5] [] else rtS (.bl false) [] := by
  have i1 : ∀ {mm : Mm}, unS (.isi .bool) one mm = okE (.bl (isB .bool one)) mm := u_isi hp (by simp)
  have i2 : ∀ {mm : Mm}, unS (.isi .int) one mm = okE (.bl (isB .int one)) mm := u_isi hp (by simp)
  cases one <;> first | (cases hp; done) | rfl | skip
  rename_i c
  simp [i1, i2, isB, chn2_ok, numOk, andE_b, ifS_b]
  by_cases h1 : 0 ≤ c <;> by_cases h2 : c ≤ h <;> simp [h1, h2]
theorem word_turn {n : Nat} {x : D} {xs : List D} {k : Nat} {txt : List Nat} {words : List Tx} {s1 s2 s3 : Option D} (hx : xs[k]? = some x) (hp : plainD x = true) (hs : TL.spl [32] 0 [] txt = words) (hk : words.all okT = true) (hl : txt.length + 2 ≤ szl) :
    semB sub gv (callF sub T gv n) wordB [some (.tup xs), s1, s2, s3, some (.int (k : Int)), some (.str txt)] [] = if wordOk x (words.map .str) = true then nxS [some (.tup xs), s1, s2, s3, some (.int (k : Int)), some (.str txt)] [] else rtS (.bl false) [] := by
  have i3 : ∀ {mm : Mm}, unS (.isi .str) x mm = okE (.bl (isB .str x)) mm := u_isi hp (by simp)
  have ix : ∀ mm, binS .idx (.tup xs) (.int (k : Int)) mm = okE x mm := fun mm => ix_tup k hx
  have sp : ∀ mm, binS .split (.str txt) (.str [32]) mm = okE (.lst (words.map .str)) mm := fun mm => vals_split (L := []) hs hk hl
  have rc : ∀ mm, recvOk .split (.str txt) mm = true := fun _ => rfl
  have hg : hgts (words.map D.str) = 0 := by
    have : ∀ ws : List Tx, hgts (ws.map D.str) = 0 := by
      intro ws
      induction ws with
      | nil => rfl
      | cons w ws ih => simp only [List.map_cons, hgts, hgt, ih]; rfl
    exact this words
  have nm : ∀ s, x = .str s → ∀ mm, binS .nmem x (.lst (words.map .str)) mm = okE (.bl (!memD x (words.map .str))) mm := fun s e mm => by
    subst e
    have o2 : okEq (.lst (words.map D.str)) = true := by simp [okEq, hgt, hg]
    simp only [binS, memS, rdv_lst, o2, show okEq (.str s) = true from rfl, Bool.and_self, if_true]
  have hq : ∀ b, isB .str x = b → (b = true → ∃ s, x = .str s) := fun b e h => by
    subst e
    cases x <;> simp only [isB, Bool.false_eq_true] at h
    exact ⟨_, rfl⟩
  cases hb : isB .str x with
  | false =>
    have hw : wordOk x (words.map .str) = false := by cases x <;> first | rfl | (simp only [isB] at hb; cases hb; done)
    simp [ix, i3, hb, hw]
  | true =>
    obtain ⟨s, rfl⟩ := hq _ hb rfl
    have hw : wordOk (.str s) (words.map .str) = memD (.str s) (words.map .str) := rfl
    simp [ix, i3, hb, hw, sp, rc, nm s rfl]
    cases memD (.str s) (words.map .str) <;> simp
def isZero : D → Bool
  | .int c => decide (c = 0)
  | _ => false
theorem eq0 (x : D) : [D.int 1, .int 2, .int 3, .int 4].any (sameM x) = (numOk x 4 && !isZero x) := by
  cases x <;> try rfl
  rename_i c
  rw [Bool.eq_iff_iff]
  simp [sameM, numOk, isZero]; omega
theorem eq3 (x : D) : [D.int 0, .int 1, .int 2, .int 3].any (sameM x) = numOk x 3 := by
  cases x <;> try rfl
  rename_i c
  rw [Bool.eq_iff_iff]
  simp [sameM, numOk]; omega
theorem eq4 (x : D) : [D.int 0, .int 1, .int 2, .int 3, .int 4, .int 5, .int 6, .int 7, .int 8].any (sameM x) = numOk x 8 := by
  cases x <;> try rfl
  rename_i c
  rw [Bool.eq_iff_iff]
  simp [sameM, numOk]; omega
theorem eqW (x : D) : ∀ ws : List Tx, (ws.map D.str).any (sameM x) = wordOk x (ws.map D.str)
  | [] => by cases x <;> rfl
  | w :: ws => by
    have ih := eqW x ws
    cases x <;> simp only [List.map_cons, List.any_cons, sameM, wordOk, memD, Bool.false_or] at ih ⊢ <;> try exact ih
    rename_i s
    rw [ih]
    congr 1
    simp only [eqD]
    exact decide_eq_decide.mpr eq_comm
theorem eqB (x : D) : [D.bl false, .bl true].any (sameM x) = isB .bool x := by
  cases x <;> try rfl
  rename_i b; cases b <;> rfl
theorem rule_parts (x0 x1 x2 x3 x4 x5 x6 x7 x8 : D) : isRuleM (.tup [x0, x1, x2, x3, x4, x5, x6, x7, x8]) =
    ((numOk x0 4 && !isZero x0) && (wordOk x1 (([tAnew, tLonger, tNew, tSame] : List Tx).map .str) && (wordOk x2 (([tAnew, tLonger, tSame] : List Tx).map .str) && (numOk x3 3 && (numOk x4 8 && (wordOk x5 (([tEither, tFirst, tThing] : List Tx).map .str) && (wordOk x6 (([tEnds, tStays] : List Tx).map .str) && (isB .bool x7 && isB .bool x8))))))) &&
      capOk [x0, x1, x2, x3, x4, x5, x6, x7, x8]) := by
  have w1 := eqW x1 [tAnew, tLonger, tNew, tSame]
  have w2 := eqW x2 [tAnew, tLonger, tSame]
  have w5 := eqW x5 [tEither, tFirst, tThing]
  have w6 := eqW x6 [tEnds, tStays]
  simp only [List.map_cons, List.map_nil] at w1 w2 w5 w6
  simp only [isRuleM, okAll, valsL, eq0, eq3, eq4, eqB, w1, w2, w5, w6, List.length_cons, List.length_nil, List.map_cons, List.map_nil, Bool.and_true]
  rfl

theorem hgt_plain {v : D} (h : hgt v < 100) : plainD v = true := by
  cases v <;> first | rfl | (simp only [hgt] at h; omega)
mutual
theorem hgt_pure : ∀ v : D, hgt v < 100 → pureD v = true
  | .non, _ => rfl
  | .bl _, _ => rfl
  | .int _, _ => rfl
  | .str _, _ => rfl
  | .tup xs, h => by
    simp only [hgt] at h
    rw [pu_tup]; exact hgts_pure xs (by omega)
  | .lst xs, h => by
    simp only [hgt] at h
    rw [pu_lst]; exact hgts_pure xs (by omega)
  | .dct _ _, h => by simp only [hgt] at h; omega
  | .dtu _ _, h => by simp only [hgt] at h; omega
  | .obj _ _, h => by simp only [hgt] at h; omega
  | .m _, h => by simp only [hgt] at h; omega
theorem hgts_pure : ∀ xs : List D, hgts xs < 100 → pureDs xs = true
  | [], _ => rfl
  | x :: xs, h => by
    simp only [hgts] at h
    rw [pu_cons, hgt_pure x (by omega), hgts_pure xs (by omega)]; rfl
end
theorem hgts_mem : ∀ {xs : List D} {x : D}, x ∈ xs → hgt x ≤ hgts xs
  | y :: xs, x, h => by
    simp only [hgts]
    rcases List.mem_cons.mp h with rfl | h
    · omega
    · have := hgts_mem h; omega
theorem hgts_le : ∀ {xs : List D} {n : Nat}, (∀ x ∈ xs, hgt x ≤ n) → hgts xs ≤ n
  | [], _, _ => by simp [hgts]
  | x :: xs, n, h => by
    simp only [hgts]
    have := h x (by simp)
    have := hgts_le (xs := xs) (n := n) fun y hy => h y (by simp [hy])
    omega
theorem hgts_plain {xs : List D} (h : hgts xs < 100) : xs.all plainD = true := List.all_eq_true.mpr fun x hx => hgt_plain (by have := hgts_mem hx; omega)
/-- is_rule, both, for all values of small height -/
theorem is_rule_h (n : Nat) (v : D) (h : hgt v ≤ 60) : callF sub T gv (n + 3) 3 [v] [] = some (.rt (.bl (isRuleM v)) [] []) :=
  is_rule_gen n v (hgt_plain (by omega)) (hgt_pure v (by omega)) fun xs e => by subst e; simp only [hgt] at h; exact hgts_plain (by omega)

theorem lcS_filter {tg : Tg} {cnd elt : Sl → Mm → Option RE} {sl : Sl} {mm : Mm} (p : D → Bool) : ∀ (xs acc : List D), (∀ x ∈ xs, ∃ sl', bindT tg x (wipeS sl (tgIx tg)) = some sl' ∧ cnd sl' mm = okE (.bl (p x)) mm ∧ elt sl' mm = okE x mm ∧ pureD x = true) →
    acc.length + xs.length ≤ 16777216 → lcS tg cnd elt sl xs acc mm = okE (.lst (acc ++ xs.filter p)) mm
  | [], acc, _, _ => by simp [lcS]
  | x :: xs, acc, h, hl => by
    obtain ⟨sl', h1, h2, h3, h4⟩ := h x (by simp)
    simp only [List.length_cons] at hl
    cases hp : p x with
    | true =>
      rw [hp] at h2
      rw [lcS_cons h1 h2 h3 h4 (by omega), lcS_filter p xs _ (fun y hy => h y (by simp [hy])) (by simp; omega)]
      simp [hp]
    | false =>
      rw [hp] at h2
      have e : lcS tg cnd elt sl (x :: xs) acc mm = lcS tg cnd elt sl xs acc mm := by
        simp only [okE] at h2
        simp [lcS, h1, h2]
      rw [e, lcS_filter p xs acc (fun y hy => h y (by simp [hy])) (by omega)]
      simp [hp]
theorem num_int {x : D} {h : Int} (q : numOk x h = true) : ∃ c, x = .int c ∧ 0 ≤ c ∧ c ≤ h := by
  cases x <;> simp only [numOk, Bool.false_eq_true, Bool.and_eq_true, decide_eq_true_eq] at q
  exact ⟨_, rfl, q.1, q.2⟩
theorem word_str {x : D} {ws : List Tx} (q : wordOk x (ws.map .str) = true) : ∃ s, x = .str s ∧ s ∈ ws := by
  cases x <;> simp only [wordOk, Bool.false_eq_true] at q
  rename_i s
  refine ⟨s, rfl, ?_⟩
  simp only [memD, List.any_map, List.any_eq_true] at q
  obtain ⟨w, hw, e⟩ := q
  have e : decide (w = s) = true := e
  rw [← of_decide_eq_true e]; exact hw
theorem bool_bl {x : D} (q : isB .bool x = true) : ∃ b, x = .bl b := by
  cases x <;> simp only [isB, Bool.false_eq_true] at q
  exact ⟨_, rfl⟩
theorem rule_good {v : D} (h : isRuleM v = true) : ∃ r, Good r ∧ v = Ru.d r := by
  obtain ⟨xs, rfl⟩ : ∃ xs, v = .tup xs := by
    cases v <;> first | exact ⟨_, rfl⟩ | (simp only [isRuleM] at h; cases h; done)
  have hl : xs.length = 9 := by
    simp only [isRuleM, Bool.and_eq_true, decide_eq_true_eq] at h
    exact h.1
  obtain ⟨x0, x1, x2, x3, x4, x5, x6, x7, x8, rfl⟩ : ∃ x0 x1 x2 x3 x4 x5 x6 x7 x8, xs = [x0, x1, x2, x3, x4, x5, x6, x7, x8] := by
    match xs, hl with
    | [x0, x1, x2, x3, x4, x5, x6, x7, x8], _ => exact ⟨_, _, _, _, _, _, _, _, _, rfl⟩
  rw [rule_parts] at h
  simp only [Bool.and_eq_true] at h
  obtain ⟨⟨⟨h0, hz⟩, h1, h2, h3, h4, h5, h6, h7, h8⟩, hc⟩ := h
  obtain ⟨c, rfl, c1, c2⟩ := num_int h0
  obtain ⟨b, rfl, hb⟩ := word_str h1
  obtain ⟨p, rfl, hp⟩ := word_str h2
  obtain ⟨o, rfl, o1, o2⟩ := num_int h3
  obtain ⟨k, rfl, k1, k2⟩ := num_int h4
  obtain ⟨l, rfl, hl5⟩ := word_str h5
  obtain ⟨m, rfl, hm⟩ := word_str h6
  obtain ⟨a, rfl⟩ := bool_bl h7
  obtain ⟨r, rfl⟩ := bool_bl h8
  have hz : c ≠ 0 := by
    intro e
    subst e
    simp [isZero] at hz
  have hc : k = 0 ∨ c ≤ k := by simpa [capOk] using hc
  refine ⟨⟨c, b, p, o, k, l, m, a, r⟩, ⟨by show 1 ≤ c; omega, c2, ?_, ?_, o1, o2, k1, k2, ?_, ?_, hc⟩, rfl⟩
  · simpa using hb
  · simpa using hp
  · simpa using hl5
  · simpa using hm
theorem T6 : T 6 = p_need_rule := rfl
theorem need_rule_gen (n : Nat) (v : D) (h : hgt v ≤ 60) : callF sub T gv (n + 4) 6 [v] [] = if isRuleM v = true then some (.rt .non [] []) else some (.ex ⟨1, []⟩ []) := by
  rw [callF_succ, T6]
  show endF 0 (semB sub gv (callF sub T gv (n + 3)) p_need_rule.body [some v] []) = _
  simp only [p_need_rule]
  rw [b_consE, t_ifs, e_not, e_call]
  show endF 0 (seqS (ifS _ (notE (callS (callF sub T gv (n + 3) 3) [v] [])) _ _) _) = _
  rw [callS_pp (by simp [hgt_pure v (by omega)]), is_rule_h n v h, resP_rt, if_pos (by rfl), notE_ok]
  cases isRuleM v <;> simp
/-- one part otherwise -/
def setP (i : Nat) (v : D) (xs : List D) : List D := xs.take i ++ (v :: xs.drop (i + 1))
theorem T8 : T 8 = p_with_part := rfl
theorem with_part_ok (n : Nat) (x0 x1 x2 x3 x4 x5 x6 x7 x8 v : D) (hp : pureDs [x0, x1, x2, x3, x4, x5, x6, x7, x8] = true) (hv : pureD v = true) (i : Nat) (hi : i < 9) :
    callF sub T gv (n + 1) 8 [.tup [x0, x1, x2, x3, x4, x5, x6, x7, x8], pnL.getD i .non, v] [] = some (.rt (.tup (setP i v [x0, x1, x2, x3, x4, x5, x6, x7, x8])) [] []) := by
  simp only [pu_cons, pu_nil, Bool.and_true, Bool.and_eq_true] at hp
  obtain ⟨p0, p1, p2, p3, p4, p5, p6, p7, p8⟩ := hp
  rw [callF_succ, T8]
  have h : i = 0 ∨ i = 1 ∨ i = 2 ∨ i = 3 ∨ i = 4 ∨ i = 5 ∨ i = 6 ∨ i = 7 ∨ i = 8 := by omega
  rcases h with h | h | h | h | h | h | h | h | h <;> subst h
  · show endF 0 (rtS (.tup (setP 0 v [x0, x1, x2, x3, x4, x5, x6, x7, x8])) []) = _
    rw [endF_rt, finF_p, if_pos (by simp [setP, p0, p1, p2, p3, p4, p5, p6, p7, p8, hv])]
  · show endF 0 (rtS (.tup (setP 1 v [x0, x1, x2, x3, x4, x5, x6, x7, x8])) []) = _
    rw [endF_rt, finF_p, if_pos (by simp [setP, p0, p1, p2, p3, p4, p5, p6, p7, p8, hv])]
  · show endF 0 (rtS (.tup (setP 2 v [x0, x1, x2, x3, x4, x5, x6, x7, x8])) []) = _
    rw [endF_rt, finF_p, if_pos (by simp [setP, p0, p1, p2, p3, p4, p5, p6, p7, p8, hv])]
  · show endF 0 (rtS (.tup (setP 3 v [x0, x1, x2, x3, x4, x5, x6, x7, x8])) []) = _
    rw [endF_rt, finF_p, if_pos (by simp [setP, p0, p1, p2, p3, p4, p5, p6, p7, p8, hv])]
  · show endF 0 (rtS (.tup (setP 4 v [x0, x1, x2, x3, x4, x5, x6, x7, x8])) []) = _
    rw [endF_rt, finF_p, if_pos (by simp [setP, p0, p1, p2, p3, p4, p5, p6, p7, p8, hv])]
  · show endF 0 (rtS (.tup (setP 5 v [x0, x1, x2, x3, x4, x5, x6, x7, x8])) []) = _
    rw [endF_rt, finF_p, if_pos (by simp [setP, p0, p1, p2, p3, p4, p5, p6, p7, p8, hv])]
  · show endF 0 (rtS (.tup (setP 6 v [x0, x1, x2, x3, x4, x5, x6, x7, x8])) []) = _
    rw [endF_rt, finF_p, if_pos (by simp [setP, p0, p1, p2, p3, p4, p5, p6, p7, p8, hv])]
  · show endF 0 (rtS (.tup (setP 7 v [x0, x1, x2, x3, x4, x5, x6, x7, x8])) []) = _
    rw [endF_rt, finF_p, if_pos (by simp [setP, p0, p1, p2, p3, p4, p5, p6, p7, p8, hv])]
  · show endF 0 (rtS (.tup (setP 8 v [x0, x1, x2, x3, x4, x5, x6, x7, x8])) []) = _
    rw [endF_rt, finF_p, if_pos (by simp [setP, p0, p1, p2, p3, p4, p5, p6, p7, p8, hv])]
abbrev nearB : B := (.cons (.asg 1 (.bin .add (.var 1) (.lc false (.nm 5) (.call 8 (.cons (.var 0) (.cons (.var 2) (.cons (.var 5) .nil)))) (.seq (.call 0 (.cons (.var 2) .nil))) (.not (.call 2 (.cons (.var 5) (.cons (.var 3) .nil)))))))
    .nil)
/-- what a part gives -/
def nearP (i : Nat) (old : D) (xs : List D) : List D := ((valsL.getD i []).filter fun v => !sameM v old).map fun v => .tup (setP i v xs)
theorem near_turn (n : Nat) (x0 x1 x2 x3 x4 x5 x6 x7 x8 : D) (hp : pureDs [x0, x1, x2, x3, x4, x5, x6, x7, x8] = true) (i : Nat) (hi : i < 9) (old : D) (h1 : plainD old = true) (h2 : pureD old = true) (F : List D) (hF : F.length ≤ 1000) (s4 s5 : Option D) :
    semB sub gv (callF sub T gv (n + 2)) nearB [some (.tup [x0, x1, x2, x3, x4, x5, x6, x7, x8]), some (.lst F), some (pnL.getD i .non), some old, s4, s5] [] =
      nxS [some (.tup [x0, x1, x2, x3, x4, x5, x6, x7, x8]), some (.lst (F ++ nearP i old [x0, x1, x2, x3, x4, x5, x6, x7, x8])), some (pnL.getD i .non), some old, s4, s5] [] := by
  have V : ValsOf n (pnL.getD i .non) (valsL.getD i []) := by
    have h : i = 0 ∨ i = 1 ∨ i = 2 ∨ i = 3 ∨ i = 4 ∨ i = 5 ∨ i = 6 ∨ i = 7 ∨ i = 8 := by omega
    have hz := valsOf n
    rcases h with h | h | h | h | h | h | h | h | h <;> subst h
    · exact hz (pnL.getD 0 .non, valsL.getD 0 []) (List.mem_iff_getElem?.mpr ⟨0, rfl⟩)
    · exact hz (pnL.getD 1 .non, valsL.getD 1 []) (List.mem_iff_getElem?.mpr ⟨1, rfl⟩)
    · exact hz (pnL.getD 2 .non, valsL.getD 2 []) (List.mem_iff_getElem?.mpr ⟨2, rfl⟩)
    · exact hz (pnL.getD 3 .non, valsL.getD 3 []) (List.mem_iff_getElem?.mpr ⟨3, rfl⟩)
    · exact hz (pnL.getD 4 .non, valsL.getD 4 []) (List.mem_iff_getElem?.mpr ⟨4, rfl⟩)
    · exact hz (pnL.getD 5 .non, valsL.getD 5 []) (List.mem_iff_getElem?.mpr ⟨5, rfl⟩)
    · exact hz (pnL.getD 6 .non, valsL.getD 6 []) (List.mem_iff_getElem?.mpr ⟨6, rfl⟩)
    · exact hz (pnL.getD 7 .non, valsL.getD 7 []) (List.mem_iff_getElem?.mpr ⟨7, rfl⟩)
    · exact hz (pnL.getD 8 .non, valsL.getD 8 []) (List.mem_iff_getElem?.mpr ⟨8, rfl⟩)
  have hps : ∀ v, pureD v = true → pureD (.tup (setP i v [x0, x1, x2, x3, x4, x5, x6, x7, x8])) = true := fun v hv => by
    rw [pu_tup]
    have app : ∀ a b : List D, pureDs a = true → pureDs b = true → pureDs (a ++ b) = true := by
      intro a b ha hb
      induction a with
      | nil => exact hb
      | cons y a ih =>
        rw [pu_cons, Bool.and_eq_true] at ha
        rw [List.cons_append, pu_cons, ha.1, ih ha.2]; rfl
    have sub : ∀ a b : List D, (∀ y ∈ a, y ∈ b) → pureDs b = true → pureDs a = true := by
      intro a b hs hb
      induction a with
      | nil => rfl
      | cons y a ih => rw [pu_cons, pure_mem hb (hs y (by simp)), ih fun z hz => hs z (by simp [hz])]; rfl
    unfold setP
    refine app _ _ (sub _ _ (fun y hy => List.mem_of_mem_take hy) hp) ?_
    rw [pu_cons, hv, sub _ _ (fun y hy => List.mem_of_mem_drop hy) hp]; rfl
  have hl : lcS (.nm 5) (semE gv (callF sub T gv (n + 2)) (.not (.call 2 (.cons (.var 5) (.cons (.var 3) .nil))))) (semE gv (callF sub T gv (n + 2)) (.call 8 (.cons (.var 0) (.cons (.var 2) (.cons (.var 5) .nil)))))
      [some (.tup [x0, x1, x2, x3, x4, x5, x6, x7, x8]), some (.lst F), some (pnL.getD i .non), some old, s4, s5] (valsL.getD i []) [] [] = okE (.lst ([] ++ nearP i old [x0, x1, x2, x3, x4, x5, x6, x7, x8])) [] := by
    refine lcS_fm (fun v => !sameM v old) (fun v => .tup (setP i v [x0, x1, x2, x3, x4, x5, x6, x7, x8])) _ [] (fun v hv => ⟨[some (.tup [x0, x1, x2, x3, x4, x5, x6, x7, x8]), some (.lst F), some (pnL.getD i .non), some old, s4, some v], rfl, ?_, fun _ => ⟨?_, hps v (pure_mem V.pl hv)⟩⟩) (by have := V.len; simp only [List.length_nil]; omega)
    · have q := same_ok (n + 1) v old (plain_mem V.pd hv) h1 (pure_mem V.pl hv) h2
      rw [e_not, e_call]
      show notE (callS (callF sub T gv (n + 2) 2) [v, old] []) = _
      rw [callS_pp (by simp [h2, pure_mem V.pl hv]), q, resP_rt, if_pos (by rfl), notE_ok]
    · have q := with_part_ok (n + 1) x0 x1 x2 x3 x4 x5 x6 x7 x8 v hp (pure_mem V.pl hv) i hi
      rw [e_call]
      show callS (callF sub T gv (n + 2) 8) [.tup [x0, x1, x2, x3, x4, x5, x6, x7, x8], pnL.getD i .non, v] [] = _
      rw [callS_pp (by rw [pu_cons, pu_tup, hp, pu_cons, V.pp, pu_cons, pure_mem V.pl hv]; rfl), q, resP_rt, if_pos (hps v (pure_mem V.pl hv))]
  rw [List.nil_append] at hl
  have hI : semI gv (callF sub T gv (n + 2)) (.seq (.call 0 (.cons (.var 2) .nil))) [some (.tup [x0, x1, x2, x3, x4, x5, x6, x7, x8]), some (.lst F), some (pnL.getD i .non), some old, s4, s5] [] = okI2 (valsL.getD i []) [] := by
    rw [i_seqE, e_call]
    show seqI (callS (callF sub T gv (n + 2) 0) [pnL.getD i .non] []) = _
    rw [callS_pp (by rw [pu_cons, V.pp]; rfl), V.run, resP_rt, if_pos (by rw [pu_lst]; exact V.pl), seqI_lst]
  have hn : (nearP i old [x0, x1, x2, x3, x4, x5, x6, x7, x8]).length ≤ 100 := by
    unfold nearP
    rw [List.length_map]
    exact Nat.le_trans (List.length_filter_le _ _) V.len
  rw [b_consE, t_asg, e_bin, e_var]
  show seqS (asgS 1 _ (bin2 .add (.lst F) (semE gv (callF sub T gv (n + 2)) (.lc _ _ _ _ _) _ _))) _ = _
  rw [e_lc, hI, lcI_ok, hl, bindE_ok]
  simp only [Bool.false_eq_true, if_false]
  rw [bin2_ok]
  have ha : binS .add (.lst F) (.lst (nearP i old [x0, x1, x2, x3, x4, x5, x6, x7, x8])) [] = okE (.lst (F ++ nearP i old [x0, x1, x2, x3, x4, x5, x6, x7, x8])) [] := by
    have hz : F.length + (nearP i old [x0, x1, x2, x3, x4, x5, x6, x7, x8]).length ≤ szl := by unfold szl; omega
    simp only [binS, addS, rdv_lst, hz, if_true]
  rw [ha]
  rfl
theorem T9 : T 9 = p_rules_near := rfl
def nearAll (x0 x1 x2 x3 x4 x5 x6 x7 x8 : D) : List D :=
  let xs := [x0, x1, x2, x3, x4, x5, x6, x7, x8]
  nearP 0 x0 xs ++ nearP 1 x1 xs ++ nearP 2 x2 xs ++ nearP 3 x3 xs ++ nearP 4 x4 xs ++ nearP 5 x5 xs ++ nearP 6 x6 xs ++ nearP 7 x7 xs ++ nearP 8 x8 xs
theorem nearP_len (i : Nat) (old : D) (xs : List D) : (nearP i old xs).length ≤ 9 := by
  unfold nearP
  rw [List.length_map]
  refine Nat.le_trans (List.length_filter_le _ _) ?_
  by_cases h : i < 9
  · have h : i = 0 ∨ i = 1 ∨ i = 2 ∨ i = 3 ∨ i = 4 ∨ i = 5 ∨ i = 6 ∨ i = 7 ∨ i = 8 := by omega
    rcases h with h | h | h | h | h | h | h | h | h <;> subst h <;> decide
  · have e : valsL[i]? = none := List.getElem?_eq_none (by show 9 ≤ i; omega)
    simp [e]
theorem alike_rules (r s : Ru) : alikeD r.d s.d = true := by
  simp [Ru.d, alikeD, alikeDs]
theorem okSort_rules {L : List D} (h : ∀ x ∈ L, isRuleM x = true) : okSort L = true := by
  have hr : ∀ x ∈ L, ∃ r : Ru, x = r.d := fun x hx => let ⟨r, _, e⟩ := rule_good (h x hx); ⟨r, e⟩
  unfold okSort
  simp only [Bool.and_eq_true, List.all_eq_true, Bool.or_eq_true, decide_eq_true_eq]
  refine ⟨⟨fun x hx y hy => ?_, fun x hx => ?_⟩, .inl fun x hx => ?_⟩
  · obtain ⟨r, rfl⟩ := hr x hx
    obtain ⟨s, rfl⟩ := hr y hy
    exact alike_rules r s
  · obtain ⟨r, rfl⟩ := hr x hx
    simp [Ru.d, hgt, hgts]
  · obtain ⟨r, rfl⟩ := hr x hx
    rfl
theorem near_hgt {i : Nat} {v old : D} {xs : List D} (hv : v ∈ nearP i old xs) (hx : hgts xs ≤ 10) : hgt v ≤ 60 := by
  unfold nearP at hv
  obtain ⟨w, hw, rfl⟩ := List.mem_map.mp hv
  have hw := (List.mem_filter.mp hw).1
  have hwh : hgt w = 0 := by
    have : ∀ L ∈ valsL, ∀ w ∈ L, hgt w = 0 := by decide
    by_cases h : i < valsL.length
    · have e : valsL.getD i [] = valsL[i] := by simp [h]
      rw [e] at hw
      exact this _ (List.getElem_mem h) w hw
    · have e : valsL[i]? = none := List.getElem?_eq_none (by omega)
      simp [e] at hw
  have : hgts (setP i w xs) ≤ 10 := hgts_le fun y hy => by
    unfold setP at hy
    rcases List.mem_append.mp hy with hy | hy
    · exact Nat.le_trans (hgts_mem (List.mem_of_mem_take hy)) hx
    · rcases List.mem_cons.mp hy with rfl | hy
      · omega
      · exact Nat.le_trans (hgts_mem (List.mem_of_mem_drop hy)) hx
  simp only [hgt]
  omega
theorem rules_near_ok (n : Nat) (x0 x1 x2 x3 x4 x5 x6 x7 x8 : D) (hp : pureDs [x0, x1, x2, x3, x4, x5, x6, x7, x8] = true) (hq : [x0, x1, x2, x3, x4, x5, x6, x7, x8].all plainD = true) (hx : hgts [x0, x1, x2, x3, x4, x5, x6, x7, x8] ≤ 10) :
    callF sub T gv (n + 4) 9 [.tup [x0, x1, x2, x3, x4, x5, x6, x7, x8]] [] = some (.rt (.lst (((nearAll x0 x1 x2 x3 x4 x5 x6 x7 x8).filter isRuleM).mergeSort leD)) [] []) := by
  have hq2 := hq
  have hp2 := hp
  simp only [List.all_cons, List.all_nil, Bool.and_true, Bool.and_eq_true] at hq2
  simp only [pu_cons, pu_nil, Bool.and_true, Bool.and_eq_true] at hp2
  obtain ⟨q0, q1, q2, q3, q4, q5, q6, q7, q8⟩ := hq2
  obtain ⟨p0, p1, p2, p3, p4, p5, p6, p7, p8⟩ := hp2
  have L := fun i old => nearP_len i old [x0, x1, x2, x3, x4, x5, x6, x7, x8]
  have t := fun i hi old h1 h2 F hF s4 s5 => near_turn (n + 1) x0 x1 x2 x3 x4 x5 x6 x7 x8 hp i hi old h1 h2 F hF s4 s5
  rw [callF_succ, T9]
  show endF 0 (semB sub gv (callF sub T gv (n + 3)) (.cons (.for (.tp [2, 3]) (.zip (.glb 0) (.var 0)) nearB) _) [some (.tup [x0, x1, x2, x3, x4, x5, x6, x7, x8]), some (.lst []), none, none, none, none] []) = _
  rw [b_consE, t_for]
  show endF 0 (seqS (forS (.tp [2, 3]) (semB sub gv (callF sub T gv (n + 3)) nearB) [.tup [pnL.getD 0 .non, x0], .tup [pnL.getD 1 .non, x1], .tup [pnL.getD 2 .non, x2], .tup [pnL.getD 3 .non, x3], .tup [pnL.getD 4 .non, x4], .tup [pnL.getD 5 .non, x5], .tup [pnL.getD 6 .non, x6], .tup [pnL.getD 7 .non, x7], .tup [pnL.getD 8 .non, x8]] [some (.tup [x0, x1, x2, x3, x4, x5, x6, x7, x8]), some (.lst []), none, none, none, none] []) _) = _
  have l0 := L 0 x0
  have l1 := L 1 x1
  have l2 := L 2 x2
  have l3 := L 3 x3
  have l4 := L 4 x4
  have l5 := L 5 x5
  have l6 := L 6 x6
  have l7 := L 7 x7
  have l8 := L 8 x8
  rw [forS_cons]; show endF 0 (seqS (nextF (semB sub gv (callF sub T gv (n + 3)) nearB [_, some (.lst _), some (pnL.getD 0 .non), some x0, _, _] []) _) _) = _; rw [t 0 (by omega) x0 q0 p0 _ (by simp), nextF_nx]
  rw [forS_cons]; show endF 0 (seqS (nextF (semB sub gv (callF sub T gv (n + 3)) nearB [_, some (.lst _), some (pnL.getD 1 .non), some x1, _, _] []) _) _) = _; rw [t 1 (by omega) x1 q1 p1 _ (by simp only [List.length_append, List.length_nil]; omega), nextF_nx]
  rw [forS_cons]; show endF 0 (seqS (nextF (semB sub gv (callF sub T gv (n + 3)) nearB [_, some (.lst _), some (pnL.getD 2 .non), some x2, _, _] []) _) _) = _; rw [t 2 (by omega) x2 q2 p2 _ (by simp only [List.length_append, List.length_nil]; omega), nextF_nx]
  rw [forS_cons]; show endF 0 (seqS (nextF (semB sub gv (callF sub T gv (n + 3)) nearB [_, some (.lst _), some (pnL.getD 3 .non), some x3, _, _] []) _) _) = _; rw [t 3 (by omega) x3 q3 p3 _ (by simp only [List.length_append, List.length_nil]; omega), nextF_nx]
  rw [forS_cons]; show endF 0 (seqS (nextF (semB sub gv (callF sub T gv (n + 3)) nearB [_, some (.lst _), some (pnL.getD 4 .non), some x4, _, _] []) _) _) = _; rw [t 4 (by omega) x4 q4 p4 _ (by simp only [List.length_append, List.length_nil]; omega), nextF_nx]
  rw [forS_cons]; show endF 0 (seqS (nextF (semB sub gv (callF sub T gv (n + 3)) nearB [_, some (.lst _), some (pnL.getD 5 .non), some x5, _, _] []) _) _) = _; rw [t 5 (by omega) x5 q5 p5 _ (by simp only [List.length_append, List.length_nil]; omega), nextF_nx]
  rw [forS_cons]; show endF 0 (seqS (nextF (semB sub gv (callF sub T gv (n + 3)) nearB [_, some (.lst _), some (pnL.getD 6 .non), some x6, _, _] []) _) _) = _; rw [t 6 (by omega) x6 q6 p6 _ (by simp only [List.length_append, List.length_nil]; omega), nextF_nx]
  rw [forS_cons]; show endF 0 (seqS (nextF (semB sub gv (callF sub T gv (n + 3)) nearB [_, some (.lst _), some (pnL.getD 7 .non), some x7, _, _] []) _) _) = _; rw [t 7 (by omega) x7 q7 p7 _ (by simp only [List.length_append, List.length_nil]; omega), nextF_nx]
  rw [forS_cons]; show endF 0 (seqS (nextF (semB sub gv (callF sub T gv (n + 3)) nearB [_, some (.lst _), some (pnL.getD 8 .non), some x8, _, _] []) _) _) = _; rw [t 8 (by omega) x8 q8 p8 _ (by simp only [List.length_append, List.length_nil]; omega), nextF_nx]
  rw [forS_nil, seqS_nx]
  show endF 0 (semB sub gv (callF sub T gv (n + 3)) (.cons (.ret (.un .sorted (.lc false (.nm 4) (.var 4) (.seq (.var 1)) (.call 3 (.cons (.var 4) .nil))))) .nil) [some (.tup [x0, x1, x2, x3, x4, x5, x6, x7, x8]), some (.lst (nearAll x0 x1 x2 x3 x4 x5 x6 x7 x8)), some (pnL.getD 8 .non), some x8, none, none] []) = _
  have hh : ∀ v ∈ nearAll x0 x1 x2 x3 x4 x5 x6 x7 x8, hgt v ≤ 60 := by
    intro v hv
    simp only [nearAll, List.mem_append] at hv
    rcases hv with (((((((hv | hv) | hv) | hv) | hv) | hv) | hv) | hv) | hv <;> exact near_hgt hv hx
  have hl9 : (nearAll x0 x1 x2 x3 x4 x5 x6 x7 x8).length ≤ 100 := by
    simp only [nearAll, List.length_append]; omega
  have hc : lcS (.nm 4) (semE gv (callF sub T gv (n + 3)) (.call 3 (.cons (.var 4) .nil))) (semE gv (callF sub T gv (n + 3)) (.var 4)) [some (.tup [x0, x1, x2, x3, x4, x5, x6, x7, x8]), some (.lst (nearAll x0 x1 x2 x3 x4 x5 x6 x7 x8)), some (pnL.getD 8 .non), some x8, none, none] (nearAll x0 x1 x2 x3 x4 x5 x6 x7 x8) [] [] =
      okE (.lst ([] ++ (nearAll x0 x1 x2 x3 x4 x5 x6 x7 x8).filter isRuleM)) [] := by
    refine lcS_filter isRuleM _ [] (fun v hv => ⟨[some (.tup [x0, x1, x2, x3, x4, x5, x6, x7, x8]), some (.lst (nearAll x0 x1 x2 x3 x4 x5 x6 x7 x8)), some (pnL.getD 8 .non), some x8, some v, none], rfl, ?_, rfl, hgt_pure v (by have := hh v hv; omega)⟩) (by simp only [List.length_nil]; omega)
    rw [e_call]
    show callS (callF sub T gv (n + 3) 3) [v] [] = _
    rw [callS_pp (by rw [pu_cons, hgt_pure v (by have := hh v hv; omega)]; rfl), is_rule_h n v (hh v hv), resP_rt, if_pos (by rfl)]
  rw [List.nil_append] at hc
  have hs : ∀ mm, unS .sorted (.lst ((nearAll x0 x1 x2 x3 x4 x5 x6 x7 x8).filter isRuleM)) mm = okE (.lst (((nearAll x0 x1 x2 x3 x4 x5 x6 x7 x8).filter isRuleM).mergeSort leD)) mm := fun mm => by
    have ho : okSort ((nearAll x0 x1 x2 x3 x4 x5 x6 x7 x8).filter isRuleM) = true := okSort_rules fun x hx => (List.mem_filter.mp hx).2
    simp only [unS, rdv_lst, ho, if_true]
  rw [b_consE, t_ret, e_un, e_lc, i_seqE, e_var]
  show endF 0 (seqS (retS _ (un1 .sorted (lcI false (.nm 4) _ _ _ (okI2 (nearAll x0 x1 x2 x3 x4 x5 x6 x7 x8) [])))) _) = _
  rw [lcI_ok, hc, bindE_ok]
  simp only [Bool.false_eq_true, if_false]
  rw [un1_ok, hs, retS_ok, seqS_rt, endF_rt, finF_p, if_pos]
  rw [pu_lst]
  refine hgts_pure _ (Nat.lt_of_le_of_lt (hgts_le (n := 60) fun y hy => ?_) (by omega))
  have hy := (List.mergeSort_perm _ _).mem_iff.mp hy
  exact hh y (List.mem_filter.mp hy).1
theorem T11 : T 11 = p_near := rfl

abbrev nearR (r : Ru) : List D := ((nearAll (.int r.c) (.str r.b) (.str r.p) (.int r.o) (.int r.k) (.str r.l) (.str r.m) (.bl r.a) (.bl r.r)).filter isRuleM).mergeSort leD

theorem ru_hgt (r : Ru) : hgt r.d ≤ 60 := by simp [Ru.d, hgt, hgts]

theorem nearR_pure (r : Ru) : pureDs (nearR r) = true := by
  have hh : ∀ v ∈ nearAll (.int r.c) (.str r.b) (.str r.p) (.int r.o) (.int r.k) (.str r.l) (.str r.m) (.bl r.a) (.bl r.r), hgt v ≤ 60 := by
    intro v hv
    simp only [nearAll, List.mem_append] at hv
    rcases hv with (((((((hv | hv) | hv) | hv) | hv) | hv) | hv) | hv) | hv <;> exact near_hgt hv (by simp [hgts, hgt])
  refine hgts_pure _ (Nat.lt_of_le_of_lt (hgts_le (n := 60) fun y hy => ?_) (by omega))
  have hy := (List.mergeSort_perm _ _).mem_iff.mp hy
  exact hh y (List.mem_filter.mp hy).1

theorem near_good (n : Nat) (r : Ru) (h : isRuleM r.d = true) : callF sub T gv (n + 5) 11 [r.d] [] = some (.rt (.lst (nearR r)) [] []) := by
  have q1 := need_rule_gen n r.d (ru_hgt r)
  have q2 := rules_near_ok n (.int r.c) (.str r.b) (.str r.p) (.int r.o) (.int r.k) (.str r.l) (.str r.m) (.bl r.a) (.bl r.r) rfl rfl (by simp [hgts, hgt])
  rw [if_pos h] at q1
  rw [callF_succ, T11]
  show endF 0 (semB sub gv (callF sub T gv (n + 4)) p_near.body [some r.d] []) = _
  simp only [p_near]
  rw [b_consE, t_exp, e_call]
  show endF 0 (seqS (expS _ (callS (callF sub T gv (n + 4) 6) [r.d] [])) _) = _
  rw [callS_pp (by rfl), q1, resP_rt, if_pos (by rfl), expS_ok, seqS_nx, b_consE, t_ret, e_call]
  show endF 0 (seqS (retS _ (callS (callF sub T gv (n + 4) 9) [r.d] [])) _) = _
  rw [callS_pp (by rfl), q2, resP_rt, if_pos (by rw [pu_lst]; exact nearR_pure r), retS_ok, seqS_rt, endF_rt, finF_p, if_pos (by rw [pu_lst]; exact nearR_pure r)]

theorem good_rule {r : Ru} (g : Good r) : isRuleM r.d = true := by
  show isRuleM (.tup [_, _, _, _, _, _, _, _, _]) = true
  rw [rule_parts]
  have c1 := g.c1
  have c2 := g.c2
  have o1 := g.o1
  have o2 := g.o2
  have k1 := g.k1
  have k2 := g.k2
  have ck := g.ck
  simp only [Bool.and_eq_true]
  refine ⟨⟨⟨by simp [numOk]; omega, by simp [isZero]; omega⟩, ?_, ?_, by simp [numOk]; omega, by simp [numOk]; omega, ?_, ?_, rfl, rfl⟩, by simp [capOk]; omega⟩
  · rcases g.b with h | h | h | h <;> rw [h] <;> rfl
  · rcases g.p with h | h | h <;> rw [h] <;> rfl
  · rcases g.l with h | h | h <;> rw [h] <;> rfl
  · rcases g.m with h | h <;> rw [h] <;> rfl

theorem nearR_rules {r : Ru} {v : D} (h : v ∈ nearR r) : ∃ r', v = Ru.d r' := by
  have h := (List.mergeSort_perm _ _).mem_iff.mp h
  obtain ⟨r', _, e⟩ := rule_good (List.mem_filter.mp h).2
  exact ⟨r', e⟩

theorem nearR_hgt (r : Ru) : hgt (.lst (nearR r)) ≤ 64 := by
  have : hgts (nearR r) ≤ 10 := hgts_le fun v hv => by
    obtain ⟨r', rfl⟩ := nearR_rules hv
    simp [hgt, hgts]
  simp only [hgt]; omega

theorem nearR_len (r : Ru) : (nearR r).length ≤ 81 := by
  have h2 : (nearAll (.int r.c) (.str r.b) (.str r.p) (.int r.o) (.int r.k) (.str r.l) (.str r.m) (.bl r.a) (.bl r.r)).length ≤ 81 := by
    have h := nearP_len
    unfold nearAll
    simp only [List.length_append]
    have h0 := h 0 (.int r.c) [.int r.c, .str r.b, .str r.p, .int r.o, .int r.k, .str r.l, .str r.m, .bl r.a, .bl r.r]
    have h1 := h 1 (.str r.b) [.int r.c, .str r.b, .str r.p, .int r.o, .int r.k, .str r.l, .str r.m, .bl r.a, .bl r.r]
    have h2 := h 2 (.str r.p) [.int r.c, .str r.b, .str r.p, .int r.o, .int r.k, .str r.l, .str r.m, .bl r.a, .bl r.r]
    have h3 := h 3 (.int r.o) [.int r.c, .str r.b, .str r.p, .int r.o, .int r.k, .str r.l, .str r.m, .bl r.a, .bl r.r]
    have h4 := h 4 (.int r.k) [.int r.c, .str r.b, .str r.p, .int r.o, .int r.k, .str r.l, .str r.m, .bl r.a, .bl r.r]
    have h5 := h 5 (.str r.l) [.int r.c, .str r.b, .str r.p, .int r.o, .int r.k, .str r.l, .str r.m, .bl r.a, .bl r.r]
    have h6 := h 6 (.str r.m) [.int r.c, .str r.b, .str r.p, .int r.o, .int r.k, .str r.l, .str r.m, .bl r.a, .bl r.r]
    have h7 := h 7 (.bl r.a) [.int r.c, .str r.b, .str r.p, .int r.o, .int r.k, .str r.l, .str r.m, .bl r.a, .bl r.r]
    have h8 := h 8 (.bl r.r) [.int r.c, .str r.b, .str r.p, .int r.o, .int r.k, .str r.l, .str r.m, .bl r.a, .bl r.r]
    omega
  have h1 := List.length_filter_le isRuleM (nearAll (.int r.c) (.str r.b) (.str r.p) (.int r.o) (.int r.k) (.str r.l) (.str r.m) (.bl r.a) (.bl r.r))
  unfold nearR
  rw [List.length_mergeSort]
  omega
theorem nearR_pos {r : Ru} (g : Good r) : 0 < (nearR r).length := by
  have hg : Good { r with r := !r.r } := { g with }
  have hm : Ru.d { r with r := !r.r } ∈ nearR r := by
    refine (List.mergeSort_perm _ _).mem_iff.mpr (List.mem_filter.mpr ⟨?_, good_rule hg⟩)
    unfold nearAll
    refine List.mem_append_right _ ?_
    unfold nearP
    refine List.mem_map.mpr ⟨.bl (!r.r), ?_, rfl⟩
    cases r.r <;> simp [valsL, sameM]
  exact List.length_pos_of_mem hm
theorem nearR_good {r : Ru} {v : D} (h : v ∈ nearR r) : ∃ r', Good r' ∧ v = Ru.d r' := by
  have h := (List.mergeSort_perm _ _).mem_iff.mp h
  exact rule_good (List.mem_filter.mp h).2
theorem need_ok (n : Nat) (r : Ru) (g : Good r) : callF sub T gv (n + 4) 6 [r.d] [] = some (.rt .non [] []) := by
  have := need_rule_gen n r.d (ru_hgt r)
  rw [if_pos (good_rule g)] at this
  exact this

end Mp
/-! Sp: the program's search for a difference (42), alike (43), parting (44) -/
namespace Mp
theorem T42 : T 42 = p_parted := rfl
theorem T43 : T 43 = p_alike := rfl
theorem T44 : T 44 = p_parting := rfl
theorem gv1p : gv 1 = .tup (EVS.map Ev.d) := rfl
abbrev prD (x : Pr) : D := .tup [x.1.d, x.2.d]
def kpD (N : List (Gn Pr)) : List D := N.map fun x => prD x.k
theorem eq_prD (x y : Pr) : eqD (prD x) (prD y) = decide (x = y) := by
  have h1 := eq_Sd x.1 y.1
  have h2 := eq_Sd x.2 y.2
  have e : eqD (prD x) (prD y) = (eqD x.1.d y.1.d && (eqD x.2.d y.2.d && true)) := rfl
  rw [e, h1, h2]
  obtain ⟨a, b⟩ := x
  obtain ⟨c, d⟩ := y
  by_cases h : a = c <;> by_cases h' : b = d <;> simp [h, h']
theorem memD_pr (k : Pr) : ∀ N : List (Gn Pr), memD (prD k) (kpD N) = decide (k ∈ N.map Gn.k)
  | [] => rfl
  | x :: N => by
    have ih := memD_pr k N
    have e : memD (prD k) (kpD (x :: N)) = (eqD (prD x.k) (prD k) || memD (prD k) (kpD N)) := rfl
    rw [e, eq_prD, ih]
    by_cases h : x.k = k
    · simp [h]
    · have h' : ¬ k = x.k := fun e => h e.symm
      simp [h, h']
theorem idxOfD_prno (k : Pr) : ∀ N : List (Gn Pr), k ∉ N.map Gn.k → idxOfD (prD k) (kpD N) = none
  | [], _ => rfl
  | x :: N, h => by
    rw [List.map_cons, List.mem_cons] at h
    have h1 : ¬ x.k = k := fun e => h (.inl e.symm)
    have e : idxOfD (prD k) (kpD (x :: N)) = if eqD (prD x.k) (prD k) then some 0 else (idxOfD (prD k) (kpD N)).map (· + 1) := rfl
    rw [e, eq_prD, decide_eq_false h1, idxOfD_prno k N fun q => h (.inr q)]; rfl
theorem isKD_pr (x : Pr) : isKD (prD x) = true := by
  simp [isKD, keyDs, keyD, keyD_dQ]
theorem isKD_prs : ∀ N : List (Gn Pr), (kpD N).all isKD = true := fun N => by
  rw [List.all_eq_true]
  intro d hd
  obtain ⟨x, _, rfl⟩ := List.mem_map.mp hd
  exact isKD_pr x.k
abbrev dtuP (N : List (Gn Pr)) : D := .dtu (kpD N) (N.map fun _ => .bl true)
theorem kp_len (N : List (Gn Pr)) : (kpD N).length = N.length := by simp [kpD]
theorem dtuP_app (N : List (Gn Pr)) (x : Gn Pr) : dtuP (N ++ [x]) = .dtu (kpD N ++ [prD x.k]) ((N.map fun _ => D.bl true) ++ [.bl true]) := by simp [dtuP, kpD]
theorem nmem_pr {mm : Mm} {k : Nat} {x : Pr} {N : List (Gn Pr)} (hk : mm[k]? = some (.mu (dtuP N))) {Q : D → Mm → Prop} (q : Q (.bl (!decide (x ∈ N.map Gn.k))) mm) : WO (binS .nmem (prD x) (.m k) mm) Q := by
  refine wo_nmemU (ks := kpD N) (vs := N.map fun _ => D.bl true) (rd_m hk) (isKD_pr x) (isKD_prs N) ?_
  rw [memD_pr]; exact q
/-! lines -/
def LnP (mm : Mm) (d : D) (xs : List D) : Prop := d = .lst xs ∨ ∃ k, k ≠ 0 ∧ d = .m k ∧ mm[k]? = some (.mu (.lst xs))
theorem wi_lnP {gv : Nat → D} {cf : Nat → List D → Mm → Option FR} {sl : Sl} {mm mm0 : Mm} {i : Nat} {d : D} {xs : List D} {QI : List D → Mm → Prop} (hi : sl[i]? = some (some d)) (h : LnP mm0 d xs) (ex : List M) (he : mm = mm0 ++ ex)
    (q : ∀ m, (∀ j, j = 0 ∨ mm0.length ≤ j → m[j]? = mm[j]?) → QI xs m) : WI (semI gv cf (.seq (.var i)) sl mm) QI := by
  rcases h with rfl | ⟨k, hk, rfl, hm⟩
  · exact wi_lst (we_var hi ⟨xs, rfl, q mm fun _ _ => rfl⟩)
  · have hl := at_lt hm
    refine wi_m (we_var hi ⟨k, xs, rfl, by rw [he]; exact at_app hm, q _ fun j hj => ?_⟩)
    rw [List.getElem?_set_ne (by omega)]
theorem ne_lnP {xs : List D} {d : D} {mm : Mm} (h : LnP mm d xs) (hx : hgts xs ≤ 60) {Q : D → Mm → Prop} (q : Q (.bl (!decide (xs = []))) mm) : WO (binS .ne d (.lst []) mm) Q := by
  have hr : rd mm d = .lst xs := by
    rcases h with rfl | ⟨k, _, rfl, hm⟩
    · rfl
    · exact rd_m hm
  have o1 : okEq (.lst xs) = true := by show decide (hgts xs + 1 ≤ 64) = true; simp; omega
  refine WO.of ?_ q
  show eqS d (.lst []) true mm = _
  unfold eqS
  rw [hr]
  have o2 : okEq (rd mm (.lst [])) = true := rfl
  rw [o1, o2]
  cases xs with
  | nil => rfl
  | cons x N => rfl
theorem set_atP {mm : Mm} {k : Nat} {c c' : M} (h : mm[k]? = some c) : (mm.set k c')[k]? = some c' := List.getElem?_set_self (at_lt h)
theorem set_offP {mm : Mm} {k j : Nat} {c' : M} (h : k ≠ j) : (mm.set k c')[j]? = mm[j]? := List.getElem?_set_ne h
theorem drop_splitP {α : Type} {N : List α} {i : Nat} {a : List α} {x : α} {b : List α} (h : N.drop i = a ++ x :: b) : N[i + a.length]? = some x := by
  rw [← List.getElem?_drop, h, List.getElem?_append_right (Nat.le_refl _), Nat.sub_self]; rfl
/-! the test -/
def bcD : List D := [.str tBody, .str tClaim]
theorem mem_bc (e : Ev) : memD (.str e.t) bcD = (decide (e = .body) || decide (e = .claim)) := by cases e <;> rfl
theorem memt_bc (e : Ev) {mm : Mm} {Q : D → Mm → Prop} (q : Q (.bl (decide (e = .body) || decide (e = .claim))) mm) : WO (binS .mem (.str e.t) (.tup bcD) mm) Q :=
  wo_memT rfl (by simp [hgt]) (by decide) (by rw [mem_bc]; exact q)
theorem hgt_evs' : ∀ w : List Ev, hgts (w.map Ev.d) ≤ 1
  | [] => Nat.zero_le _
  | e :: w => by
    have := hgt_evs' w
    show max (hgt e.d) (hgts (w.map Ev.d)) ≤ 1
    simp only [hgt, hgts]
    omega
theorem hgt_prD (x : Pr) : hgt (prD x) ≤ 4 := by
  have h1 := hgt_dQ x.1.q
  have h2 := hgt_dQ x.2.q
  simp only [hgt, hgts]
  omega
theorem hgts_max {xs : List D} {n : Nat} (h : ∀ x ∈ xs, hgt x ≤ n) : hgts xs ≤ n := by
  induction xs with
  | nil => exact Nat.zero_le _
  | cons x xs ih =>
    have h1 := h x (by simp)
    have h2 := ih fun y hy => h y (by simp [hy])
    show max (hgt x) (hgts xs) ≤ n
    omega
abbrev nodD (x : Gn Pr) : D := .tup [prD x.k, rowD x.w]
theorem hgts_nod (N : List (Gn Pr)) : hgts (N.map nodD) ≤ 60 := by
  refine hgts_max fun d hd => ?_
  obtain ⟨x, _, rfl⟩ := List.mem_map.mp hd
  have h1 := hgt_prD x.k
  have h2 := hgt_evs' x.w
  simp only [hgt, hgts] at h1 ⊢
  omega
theorem pure_nod (x : Gn Pr) : pureD (nodD x) = true := by
  have h2 : pureD (rowD x.w) = true := by rw [pu_tup]; exact pure_evs x.w
  rw [pu_tup, pu_cons, pu_cons, h2]
  simp
def oD : Option (List Ev) → D
  | none => .non
  | some w => rowD w
theorem oD_pure (o : Option (List Ev)) : pureD (oD o) = true := by
  cases o with
  | none => rfl
  | some w => show pureD (rowD w) = true; rw [pu_tup]; exact pure_evs w
/-- no difference ahead of place i -/
def NoDif (r1 r2 : Ru) (i : Nat) : Prop := ∀ (j : Nat) (y : Gn Pr), j < i → (pbf r1 r2 i)[j]? = some y → ∀ e, difP r1 r2 y.k e = false
theorem NoDif.next {r1 r2 : Ru} {i : Nat} (h : NoDif r1 r2 i) {x : Gn Pr} (hx : (pbf r1 r2 i)[i]? = some x) (hd : ∀ e ∈ EVS, difP r1 r2 x.k e = false) : NoDif r1 r2 (i + 1) := by
  intro j y hj hy e
  have hl : i < (pbf r1 r2 i).length := at_lt hx
  by_cases hji : j < i
  · have h2 : (pbf r1 r2 i)[j]? = some (pbf r1 r2 i)[j] := List.getElem?_eq_getElem (by omega)
    have h3 := gbf_keep (Nat.le_succ i) h2
    rw [hy] at h3; cases h3
    exact h j _ hji h2 e
  · obtain rfl : j = i := by omega
    have h3 := gbf_keep (Nat.le_succ j) hx
    rw [hy] at h3; cases h3
    exact hd e (all_evs e)
theorem NoDif.out {r1 r2 : Ru} (g1 : Good r1) (g2 : Good r2) {i : Nat} (h : NoDif r1 r2 i) (hl : (pbf r1 r2 i).length ≤ i) : POut r1 r2 none := by
  refine .inl ⟨rfl, fun x hx e => ?_⟩
  rw [← gbf_fin (pbf_lim g1 g2) hl] at hx
  obtain ⟨j, hj⟩ := mem_at hx
  exact h j x (Nat.lt_of_lt_of_le (at_lt hj) hl) hj e
theorem NoDif.stop {r1 r2 : Ru} (g1 : Good r1) (g2 : Good r2) {i : Nat} (h : NoDif r1 r2 i) {x : Gn Pr} (hx : (pbf r1 r2 i)[i]? = some x) {a b : List Ev} {e : Ev} (hE : EVS = a ++ e :: b) (ha : ∀ e' ∈ a, difP r1 r2 x.k e' = false) (hd : difP r1 r2 x.k e = true) : POut r1 r2 (some (x.w ++ [e])) := by
  refine .inr ⟨i, x, a, b, e, hE, gbf_to_fin (pbf_lim g1 g2) hx, hd, fun j y hj hy => ?_, ha, rfl⟩
  have hl : i < (pbf r1 r2 i).length := at_lt hx
  have h2 : (pbf r1 r2 i)[j]? = some (pbf r1 r2 i)[j] := List.getElem?_eq_getElem (by omega)
  have h3 := gbf_to_fin (pbf_lim g1 g2) h2
  rw [hy] at h3; cases h3
  exact h j _ hj h2
theorem parted_ok (n : Nat) (r1 r2 : Ru) (g1 : Good r1) (g2 : Good r2) : ∃ o, POut r1 r2 o ∧ cF (n + 4) 42 [r1.d, r2.d] [] = some (.rt (oD o) [] []) := by
  have w : WS (semB sub gv (callF sub T gv (n + 3)) (T 42).body (startS (T 42).ns [r1.d, r2.d]) []) (fun x => match x with | .rt d mm => ∃ o, POut r1 r2 o ∧ d = oD o | _ => False) := by
    rw [T42]
    refine wb_cons (ws_asg (we_tup (wl_cons (we_call (wl_cons (we_var rfl (wl_nil (wc_pure (begin_ok (n + 2) r1) (by simp) (by simp) (wl_cons (we_call (wl_cons (we_var rfl (wl_nil (wc_pure (begin_ok (n + 2) r2) (by simp) (by simp) (wl_nil ?_)))))))))))))))
    refine wb_cons (ws_par (we_d1 (we_var rfl (we_cst ⟨isKD_pr (pr0 r1 r2), rfl, we_lst (wl_cons (we_tup (wl_cons (we_var rfl (wl_cons (we_tup (wl_nil (wl_nil (wl_nil ⟨by simp, ?_⟩)))))))))⟩))))
    refine wb_cons (ws_whl (n := 20000000) (fun m sl mm => ∃ i d4 o5 o6 o7 o8 o9 o10 o11, m = 20000000 - i ∧ i ≤ (pbf r1 r2 i).length ∧ NoDif r1 r2 i ∧ sl = [some r1.d, some r2.d, some (prD (pr0 r1 r2)), some (.m 0), some d4, o5, o6, o7, o8, o9, o10, o11] ∧ mm[0]? = some (.mu (dtuP (pbf r1 r2 i))) ∧ LnP mm d4 (((pbf r1 r2 i).drop i).map nodD))
      ⟨0, .lst [nodD ⟨pr0 r1 r2, []⟩], none, none, none, none, none, none, none, rfl, Nat.zero_le _, fun j y hj => absurd hj (Nat.not_lt_zero _), rfl, rfl, .inl rfl⟩ (by decide) ?_)
    rintro m sl mm ⟨i, d4, o5, o6, o7, o8, o9, o10, o11, rfl, hi, nd, rfl, h0, hl⟩
    refine we_bin (we_var rfl (we_lst (wl_nil ⟨rfl, ne_lnP hl (hgts_nod _) ⟨_, rfl, fun ht => ?_, fun hf => ?_⟩⟩)))
    · have hne : (pbf r1 r2 i).drop i ≠ [] := by simpa using ht
      have hib : i < (pbf r1 r2 i).length := by
        apply Nat.lt_of_not_le
        exact fun h => hne (List.drop_eq_nil_of_le h)
      have hfew := pbf_few g1 g2 i
      refine wb_cons (ws_asg (we_nls (wl_nil ⟨rfl, ?_⟩)))
      have hlen : 0 < mm.length := at_lt h0
      refine wb_cons (ws_for (wi_lnP (mm0 := mm) rfl hl [.mu (.lst [])] rfl fun m hm => ?_))
      have hm0 : m[0]? = some (.mu (dtuP (pbf r1 r2 i))) := by rw [hm 0 (.inl rfl)]; exact at_app h0
      have hmk : m[mm.length]? = some (.mu (.lst [])) := by rw [hm mm.length (.inr (Nat.le_refl _))]; simp
      refine wf_preR nodD (fun a sl m => ∃ o6 o7 o8 o9 o10 o11, NoDif r1 r2 (i + a.length) ∧ sl = [some r1.d, some r2.d, some (prD (pr0 r1 r2)), some (.m 0), some d4, some (.m mm.length), o6, o7, o8, o9, o10, o11] ∧ m[0]? = some (.mu (dtuP (pbf r1 r2 (i + a.length)))) ∧ m[mm.length]? = some (.mu (.lst (((pbf r1 r2 (i + a.length)).drop (pbf r1 r2 i).length).map nodD))))
        ((pbf r1 r2 i).drop i) ?_ ?_ _ [] rfl _ m ⟨o6, o7, o8, o9, o10, o11, nd, rfl, hm0, by rw [hmk]; simp⟩
      · rintro a x b hab sl m1 ⟨o6, o7, o8, o9, o10, o11, nd, rfl, k0, kk⟩
        refine ⟨_, rfl, ?_⟩
        have hx0 := drop_splitP hab
        have hx : (pbf r1 r2 (i + a.length))[i + a.length]? = some x := gbf_keep (by omega) hx0
        have hbl : (pbf r1 r2 i).length ≤ (pbf r1 r2 (i + a.length)).length := by
          obtain ⟨t, q⟩ := gbf_pre (f := stepP r1 r2) (k0 := pr0 r1 r2) i a.length
          have q2 := congrArg List.length q
          rw [List.length_append] at q2
          show (gbf _ _ i).length ≤ (gbf _ _ (i + a.length)).length
          omega
        obtain ⟨m0, bI, _⟩ := gbf_inv (pr_step g1 g2) (pr_zero g1 g2) (i + a.length)
        have hlev := bI.lev _ x hx
        have hxl := at_lt hx
        have hfew1 := pbf_few g1 g2 (i + a.length)
        have hpe := pure_evs x.w
        refine wb_cons (ws_for (wi_tup (we_glb ⟨_, gv1p, ?_⟩)))
        refine wf_preR Ev.d (fun c sl m => ∃ o8 o9 o10 o11, (∀ e ∈ c, difP r1 r2 x.k e = false) ∧ sl = [some r1.d, some r2.d, some (prD (pr0 r1 r2)), some (.m 0), some d4, some (.m mm.length), some (prD x.k), some (rowD x.w), o8, o9, o10, o11] ∧ m[0]? = some (.mu (dtuP (c.foldl (gadd (stepP r1 r2) x) (pbf r1 r2 (i + a.length))))) ∧ m[mm.length]? = some (.mu (.lst (((c.foldl (gadd (stepP r1 r2) x) (pbf r1 r2 (i + a.length))).drop (pbf r1 r2 i).length).map nodD))))
          EVS ?_ ?_ _ [] rfl _ m1 ⟨o8, o9, o10, o11, (fun e he => by cases he), rfl, k0, kk⟩
        · rintro c e c2 hc sl m2 ⟨o8, o9, o10, o11, hnd, rfl, k0, kk⟩
          refine ⟨_, rfl, ?_⟩
          have hB := gbf_mid (pr_step g1 g2) (pr_zero g1 g2) hx c
          have hfew2 := hB.few g1 g2
          have hpre := gadds_pre (f := stepP r1 r2) x c (pbf r1 r2 (i + a.length))
          rw [List.foldl_append]
          generalize hN : c.foldl (gadd (stepP r1 r2) x) (pbf r1 r2 (i + a.length)) = N at k0 kk hB hfew2 hpre ⊢
          have hbN : (pbf r1 r2 i).length ≤ N.length := by
            obtain ⟨t, q⟩ := hpre
            rw [q, List.length_append]; omega
          refine wb_cons (ws_par (we_call (wl_cons (we_var rfl (wl_cons (we_bin (we_var rfl (we_cst (WO.of (d := x.k.1.d) (mm := m2) rfl (wl_cons (we_var rfl (wl_nil (wc_pure (step_ok n r1 x.k.1 e) (by simp [Ev.d]) (by simp) ?_)))))))))))))
          refine we_call (wl_cons (we_var rfl (wl_cons (we_bin (we_var rfl (we_cst (WO.of (d := x.k.2.d) (mm := m2) rfl (wl_cons (we_var rfl (wl_nil (wc_pure (step_ok n r2 x.k.2 e) (by simp [Ev.d]) (by simp) ?_)))))))))))
          have go : difP r1 r2 x.k e = true → WS (semB sub gv (callF sub T gv (n + 3)) (.cons (.ret (.bin .add (.var 7) (.tup (.cons (.var 8) .nil)))) .nil) [some r1.d, some r2.d, some (prD (pr0 r1 r2)), some (.m 0), some d4, some (.m mm.length), some (prD x.k), some (rowD x.w), some e.d, o9, some (.tup [(stepM r1 x.k.1 e).1.d, .str (stepM r1 x.k.1 e).2]), some (.tup [(stepM r2 x.k.2 e).1.d, .str (stepM r2 x.k.2 e).2])] m2) (fun y => match y with | .rt d m => ∃ o, POut r1 r2 o ∧ d = oD o | _ => False) := by
            intro hd
            refine wb_cons (ws_ret (we_bin (we_var rfl (we_tup (wl_cons (we_var rfl (wl_nil (wo_addT (by simp; omega) ⟨some (x.w ++ [e]), nd.stop g1 g2 hx hc hnd hd, ?_⟩))))))))
            simp [oD]
          have cnt : difP r1 r2 x.k e = false → ∀ {QS : RS → Prop}, (∀ y9 m3, m3[0]? = some (.mu (dtuP (gadd (stepP r1 r2) x N e))) → m3[mm.length]? = some (.mu (.lst (((gadd (stepP r1 r2) x N e).drop (pbf r1 r2 i).length).map nodD))) → QS (.nx [some r1.d, some r2.d, some (prD (pr0 r1 r2)), some (.m 0), some d4, some (.m mm.length), some (prD x.k), some (rowD x.w), some e.d, y9, some (.tup [(stepM r1 x.k.1 e).1.d, .str (stepM r1 x.k.1 e).2]), some (.tup [(stepM r2 x.k.2 e).1.d, .str (stepM r2 x.k.2 e).2])] m3)) →
              WS (semB sub gv (callF sub T gv (n + 3)) (.cons (.asg 9 (.tup (.cons (.bin .idx (.var 10) (.cst (.int 0))) (.cons (.bin .idx (.var 11) (.cst (.int 0))) .nil)))) (.cons (.ifs (.bin .nmem (.var 9) (.var 3)) (.cons (.std 3 (.var 9) (.cst (.bl true))) (.cons (.exp (.mth .app (.var 5) (.tup (.cons (.var 9) (.cons (.bin .add (.var 7) (.tup (.cons (.var 8) .nil))) .nil))))) .nil)) .nil) .nil)) [some r1.d, some r2.d, some (prD (pr0 r1 r2)), some (.m 0), some d4, some (.m mm.length), some (prD x.k), some (rowD x.w), some e.d, o9, some (.tup [(stepM r1 x.k.1 e).1.d, .str (stepM r1 x.k.1 e).2]), some (.tup [(stepM r2 x.k.2 e).1.d, .str (stepM r2 x.k.2 e).2])] m2) QS := by
            intro hd QS q
            refine wb_cons (ws_asg (we_tup (wl_cons (we_bin (we_var rfl (we_cst (WO.of (d := (stepM r1 x.k.1 e).1.d) (mm := m2) rfl (wl_cons (we_bin (we_var rfl (we_cst (WO.of (d := (stepM r2 x.k.2 e).1.d) (mm := m2) rfl (wl_nil ?_)))))))))))))
            refine wb_cons (ws_ifs (we_bin (we_var rfl (we_var rfl (nmem_pr (x := stepP r1 r2 x.k e) k0 ⟨_, rfl, fun ht => ?_, fun hf => ?_⟩)))))
            · have hnm : stepP r1 r2 x.k e ∉ N.map Gn.k := by simpa using ht
              refine wb_cons (ws_std (we_cst ⟨0, rfl, rfl, we_var rfl ⟨_, _, k0, putD_newU (isKD_pr (stepP r1 r2 x.k e)) (isKD_prs N) (by rw [kp_len]; omega) (idxOfD_prno _ _ hnm), ?_⟩⟩))
              have kk2 : ∀ c', (m2.set 0 c')[mm.length]? = _ := fun c' => (set_offP (c' := c') (show 0 ≠ mm.length by omega)).trans kk
              have hadd : gadd (stepP r1 r2) x N e = N ++ [gnx (stepP r1 r2) x e] := by unfold gadd; rw [if_neg hnm]
              refine wb_cons (ws_exp (we_mth (we_var rfl ⟨recv_app (kk2 _), we_tup (wl_cons (we_var rfl (wl_cons (we_bin (we_var rfl (we_tup (wl_cons (we_var rfl (wl_nil (wo_addT (by simp; omega) (wl_nil ?_)))))))))))⟩)))
              have hn2 : D.tup [prD (stepP r1 r2 x.k e), .tup (x.w.map Ev.d ++ [e.d])] = nodD (gnx (stepP r1 r2) x e) := by simp [nodD, rowD]
              refine wo_app (kk2 _) ?_ (by rw [List.length_map, List.length_drop]; omega) (wb_nil (wb_nil (q _ _ ?_ ?_)))
              · have := pure_nod (gnx (stepP r1 r2) x e)
                rw [← hn2] at this
                exact this
              · rw [set_offP (by omega), set_atP k0, hadd, dtuP_app]; rfl
              · refine (set_atP (kk2 _)).trans ?_
                rw [hadd, List.drop_append_of_le_length hbN, List.map_append, List.map_singleton, ← hn2]; rfl
            · have hm : stepP r1 r2 x.k e ∈ N.map Gn.k := by simpa using hf
              have hadd : gadd (stepP r1 r2) x N e = N := by unfold gadd; rw [if_pos hm]
              refine wb_nil (wb_nil (q _ _ ?_ ?_))
              · rw [hadd]; exact k0
              · rw [hadd]; exact kk
          have fin : difP r1 r2 x.k e = false → ∀ e' ∈ c ++ [e], difP r1 r2 x.k e' = false := by
            intro hd e' he
            rcases List.mem_append.mp he with h | h
            · exact hnd e' h
            · rw [List.mem_singleton.mp h]; exact hd
          refine wb_cons (ws_ifs (we_and (we_bin (we_bin (we_var rfl (we_cst (WO.of (d := .str e.t) (mm := m2) rfl (we_tup (wl_cons (we_cst (wl_cons (we_cst (wl_nil (memt_bc e ⟨_, rfl, fun h1 => ?_, fun h1 => ⟨false, rfl, fun h => (by cases h), fun _ => ?_⟩⟩))))))))))))))
          · refine we_bin (we_bin (we_var rfl (we_cst (WO.of (d := .str (stepM r1 x.k.1 e).2) (mm := m2) rfl (we_bin (we_var rfl (we_cst (WO.of (d := .str (stepM r2 x.k.2 e).2) (mm := m2) rfl (wo_neT ⟨_, rfl, fun h2 => ?_, fun h2 => ?_⟩)))))))))
            · have hd : difP r1 r2 x.k e = true := by unfold difP; rw [h1, h2]; rfl
              exact (go hd).mono fun y hy => by cases y <;> first | exact hy | exact hy.elim
            · have hd : difP r1 r2 x.k e = false := by unfold difP; rw [h2]; simp
              exact wb_nil (cnt hd fun y9 m3 q1 q2 => ⟨_, y9, _, _, fin hd, rfl, q1, q2⟩)
          · have hd : difP r1 r2 x.k e = false := by unfold difP; rw [h1]; rfl
            exact wb_nil (cnt hd fun y9 m3 q1 q2 => ⟨_, y9, _, _, fin hd, rfl, q1, q2⟩)
        · rintro sl m2 ⟨o8, o9, o10, o11, hnd, rfl, k0, kk⟩
          refine wb_nil ⟨_, _, _, _, _, _, ?_, rfl, ?_, ?_⟩
          · rw [List.length_append, List.length_singleton, ← Nat.add_assoc]
            exact nd.next hx hnd
          · rw [List.length_append, List.length_singleton, ← Nat.add_assoc, show pbf r1 r2 (i + a.length + 1) = gvis (stepP r1 r2) x (pbf r1 r2 (i + a.length)) from gbf_at hx]; exact k0
          · rw [List.length_append, List.length_singleton, ← Nat.add_assoc, show pbf r1 r2 (i + a.length + 1) = gvis (stepP r1 r2) x (pbf r1 r2 (i + a.length)) from gbf_at hx]; exact kk
      · rintro sl m1 ⟨o6, o7, o8, o9, o10, o11, nd, rfl, k0, kk⟩
        have hil : i + ((pbf r1 r2 i).drop i).length = (pbf r1 r2 i).length := by rw [List.length_drop]; omega
        rw [hil] at k0 kk nd
        refine wb_cons (ws_asg (we_var rfl (wb_nil ⟨20000000 - (pbf r1 r2 i).length, by omega, (pbf r1 r2 i).length, .m mm.length, some (.m mm.length), o6, o7, o8, o9, o10, o11, rfl, ?_, nd, rfl, k0, .inr ⟨mm.length, by omega, rfl, kk⟩⟩)))
        obtain ⟨t, q⟩ := gbf_pre (f := stepP r1 r2) (k0 := pr0 r1 r2) i ((pbf r1 r2 i).length - i)
        rw [show i + ((pbf r1 r2 i).length - i) = (pbf r1 r2 i).length by omega] at q
        have q2 := congrArg List.length q
        rw [List.length_append] at q2
        show (gbf _ _ i).length ≤ (gbf _ _ ((gbf _ _ i).length)).length
        have q3 : (pbf r1 r2 i).length = (gbf (stepP r1 r2) (pr0 r1 r2) i).length := rfl
        rw [q3] at q2
        omega
    · have he : (pbf r1 r2 i).drop i = [] := by simpa using hf
      have hle : (pbf r1 r2 i).length ≤ i := by
        have := congrArg List.length he
        rw [List.length_drop, List.length_nil] at this
        omega
      exact wb_cons (ws_ret (we_cst ⟨none, nd.out g1 g2 hle, rfl⟩))
  obtain ⟨x, e, q⟩ := w
  cases x with
  | rt d m =>
    obtain ⟨o, ho, rfl⟩ := q
    refine ⟨o, ho, ?_⟩
    show callF sub T gv (n + 3 + 1) 42 [r1.d, r2.d] [] = _
    rw [callF_succ, if_pos (by rfl), e]
    show finF 0 _ m = _
    unfold finF
    rw [oD_pure]; rfl
  | nx s m => exact q.elim
  | ex x s m => exact q.elim
  | bk _ _ => exact q.elim
  | ct _ _ => exact q.elim
end Mp
/-! Sf: the law's search for a difference (1100 of k08), the row that parts (1101) -/
namespace Mp
theorem T1100 : T 1100 = l_law_fewest := rfl
theorem T1101 : T 1101 = l_law_parts := rfl
theorem events_okf (n : Nat) : callF sub T gv (n + 1) 1005 [] [] = some (.rt (.lst (EVS.map Ev.d)) [] []) := rfl
theorem hgts_prs (N : List (Gn Pr)) : hgts (kpD N) ≤ 60 := by
  refine hgts_max fun d hd => ?_
  obtain ⟨x, _, rfl⟩ := List.mem_map.mp hd
  have h1 := hgt_prD x.k
  omega
theorem pure_prs (x : Pr) : pureD (prD x) = true := by simp
def nD : Option (List Ev) → D
  | none => .non
  | some w => .int (w.length : Int)
theorem nD_pure (o : Option (List Ev)) : pureD (nD o) = true := by cases o <;> rfl
theorem fewest_ok (n : Nat) (r1 r2 : Ru) (g1 : Good r1) (g2 : Good r2) : ∃ o, POut r1 r2 o ∧ callF sub T gv (n + 4) 1100 [r1.d, r2.d] [] = some (.rt (nD o) [] []) := by
  have w : WS (semB sub gv (callF sub T gv (n + 3)) (T 1100).body (startS (T 1100).ns [r1.d, r2.d]) []) (fun x => match x with | .rt d mm => ∃ o, POut r1 r2 o ∧ d = nD o | _ => False) := by
    rw [T1100]
    refine wb_cons (ws_par (we_lst (wl_cons (we_tup (wl_cons (we_call (wl_cons (we_var rfl (wl_nil (wc_pure (new_ok (n + 2) r1) (by simp) (by simp) (wl_cons (we_call (wl_cons (we_var rfl (wl_nil (wc_pure (new_ok (n + 2) r2) (by simp) (by simp) (wl_nil (wl_nil ⟨by simp, we_cst ?_⟩))))))))))))))))))
    refine wb_cons (ws_asg (we_d1 (we_bin (we_var rfl (we_cst (WO.of (d := prD (pr0 r1 r2)) (mm := []) rfl (we_cst ⟨isKD_pr (pr0 r1 r2), rfl, ?_⟩)))))))
    refine wb_cons (ws_whl (n := 20000000) (fun m sl mm => ∃ i L d4 o5 o6 o7 o8 o9 o10 o11, m = 20000000 - i ∧ i ≤ (pbf r1 r2 i).length ∧ NoDif r1 r2 i ∧ (∀ x ∈ (pbf r1 r2 i).drop i, x.w.length = L) ∧ sl = [some r1.d, some r2.d, some (.m 0), some d4, some (.int (L : Int)), o5, o6, o7, o8, o9, o10, o11] ∧ mm[0]? = some (.mu (dtuP (pbf r1 r2 i))) ∧ LnP mm d4 (kpD ((pbf r1 r2 i).drop i)))
      ⟨0, 0, .lst [prD (pr0 r1 r2)], none, none, none, none, none, none, none, rfl, Nat.zero_le _, fun j y hj => absurd hj (Nat.not_lt_zero _), fun x hx => by
        have hx : x ∈ [(⟨pr0 r1 r2, []⟩ : Gn Pr)] := hx
        rw [List.mem_singleton.mp hx]; rfl, rfl, rfl, .inl rfl⟩ (by decide) ?_)
    rintro m sl mm ⟨i, L, d4, o5, o6, o7, o8, o9, o10, o11, rfl, hi, nd, hL, rfl, h0, hl⟩
    refine we_bin (we_var rfl (we_lst (wl_nil ⟨rfl, ne_lnP hl (hgts_prs _) ⟨_, rfl, fun ht => ?_, fun hf => ?_⟩⟩)))
    · have hne : (pbf r1 r2 i).drop i ≠ [] := by
        intro h
        rw [h] at ht
        exact absurd ht (by decide)
      have hib : i < (pbf r1 r2 i).length := by
        apply Nat.lt_of_not_le
        exact fun h => hne (List.drop_eq_nil_of_le h)
      have hfew := pbf_few g1 g2 i
      refine wb_cons (ws_par (we_nls (wl_nil ⟨rfl, we_bin (we_var rfl (we_cst (wo_addI ?_)))⟩)))
      have hlen : 0 < mm.length := at_lt h0
      refine wb_cons (ws_for (wi_lnP (mm0 := mm) rfl hl [.mu (.lst [])] rfl fun m hm => ?_))
      have hm0 : m[0]? = some (.mu (dtuP (pbf r1 r2 i))) := by rw [hm 0 (.inl rfl)]; exact at_app h0
      have hmk : m[mm.length]? = some (.mu (.lst [])) := by rw [hm mm.length (.inr (Nat.le_refl _))]; simp
      refine wf_preR (fun x : Gn Pr => prD x.k) (fun a sl m => ∃ o6 o7 o8 o9 o10 o11, NoDif r1 r2 (i + a.length) ∧ (∀ x ∈ (pbf r1 r2 (i + a.length)).drop (pbf r1 r2 i).length, x.w.length = L + 1) ∧ sl = [some r1.d, some r2.d, some (.m 0), some d4, some (.int ((L : Int) + 1)), some (.m mm.length), o6, o7, o8, o9, o10, o11] ∧ m[0]? = some (.mu (dtuP (pbf r1 r2 (i + a.length)))) ∧ m[mm.length]? = some (.mu (.lst (kpD ((pbf r1 r2 (i + a.length)).drop (pbf r1 r2 i).length)))))
        ((pbf r1 r2 i).drop i) ?_ ?_ _ [] rfl _ m ⟨o6, o7, o8, o9, o10, o11, nd, (fun x hx => by
          have hx : x ∈ (pbf r1 r2 i).drop (pbf r1 r2 i).length := hx
          rw [List.drop_length] at hx; cases hx), rfl, hm0, by
          show _ = some (M.mu (.lst (kpD ((pbf r1 r2 i).drop (pbf r1 r2 i).length))))
          rw [hmk, List.drop_length]; rfl⟩
      · rintro a x b hab sl m1 ⟨o6, o7, o8, o9, o10, o11, nd, hL1, rfl, k0, kk⟩
        refine ⟨_, rfl, ?_⟩
        have hx0 := drop_splitP hab
        have hxL : x.w.length = L := hL x (by rw [hab]; simp)
        have hx : (pbf r1 r2 (i + a.length))[i + a.length]? = some x := gbf_keep (by omega) hx0
        have hbl : (pbf r1 r2 i).length ≤ (pbf r1 r2 (i + a.length)).length := by
          obtain ⟨t, q⟩ := gbf_pre (f := stepP r1 r2) (k0 := pr0 r1 r2) i a.length
          have q2 := congrArg List.length q
          rw [List.length_append] at q2
          show (gbf _ _ i).length ≤ (gbf _ _ (i + a.length)).length
          omega
        obtain ⟨m0, bI, _⟩ := gbf_inv (pr_step g1 g2) (pr_zero g1 g2) (i + a.length)
        obtain ⟨dd, sc1, sc2⟩ := bI.ok x (at_mem hx)
        have hfew1 := pbf_few g1 g2 (i + a.length)
        refine wb_cons (ws_for (wi_lst (we_call0 (wc_pure (events_okf (n + 2)) rfl rfl ⟨_, rfl, ?_⟩))))
        refine wf_preR Ev.d (fun c sl m => ∃ o8 o9 o10 o11, (∀ e ∈ c, difP r1 r2 x.k e = false) ∧ (∀ y ∈ (c.foldl (gadd (stepP r1 r2) x) (pbf r1 r2 (i + a.length))).drop (pbf r1 r2 i).length, y.w.length = L + 1) ∧ sl = [some r1.d, some r2.d, some (.m 0), some d4, some (.int ((L : Int) + 1)), some (.m mm.length), some x.k.1.d, some x.k.2.d, o8, o9, o10, o11] ∧ m[0]? = some (.mu (dtuP (c.foldl (gadd (stepP r1 r2) x) (pbf r1 r2 (i + a.length))))) ∧ m[mm.length]? = some (.mu (.lst (kpD ((c.foldl (gadd (stepP r1 r2) x) (pbf r1 r2 (i + a.length))).drop (pbf r1 r2 i).length)))))
          EVS ?_ ?_ _ [] rfl _ m1 ⟨o8, o9, o10, o11, (fun e he => by cases he), hL1, rfl, k0, kk⟩
        · rintro c e c2 hc sl m2 ⟨o8, o9, o10, o11, hnd, hL2, rfl, k0, kk⟩
          refine ⟨_, rfl, ?_⟩
          have hB := gbf_mid (pr_step g1 g2) (pr_zero g1 g2) hx c
          have hfew2 := hB.few g1 g2
          have hpre := gadds_pre (f := stepP r1 r2) x c (pbf r1 r2 (i + a.length))
          rw [List.foldl_append]
          generalize hN : c.foldl (gadd (stepP r1 r2) x) (pbf r1 r2 (i + a.length)) = N at k0 kk hB hfew2 hpre hL2 ⊢
          have hbN : (pbf r1 r2 i).length ≤ N.length := by
            obtain ⟨t, q⟩ := hpre
            rw [q, List.length_append]; omega
          refine wb_cons (ws_par (we_call (wl_cons (we_var rfl (wl_cons (we_var rfl (wl_cons (we_var rfl (wl_nil (wc_pure (on_ok n r1 g1 x.k.1 sc1.toGoodS e) (by simp [Ev.d]) (by simp) ?_))))))))))
          refine we_call (wl_cons (we_var rfl (wl_cons (we_var rfl (wl_cons (we_var rfl (wl_nil (wc_pure (on_ok n r2 g2 x.k.2 sc2.toGoodS e) (by simp [Ev.d]) (by simp) ?_))))))))
          have cnt : difP r1 r2 x.k e = false → ∀ {QS : RS → Prop}, (∀ y9 m3, (∀ y ∈ (gadd (stepP r1 r2) x N e).drop (pbf r1 r2 i).length, y.w.length = L + 1) → m3[0]? = some (.mu (dtuP (gadd (stepP r1 r2) x N e))) → m3[mm.length]? = some (.mu (.lst (kpD ((gadd (stepP r1 r2) x N e).drop (pbf r1 r2 i).length)))) → QS (.nx [some r1.d, some r2.d, some (.m 0), some d4, some (.int ((L : Int) + 1)), some (.m mm.length), some x.k.1.d, some x.k.2.d, some e.d, y9, some (.tup [(stepM r1 x.k.1 e).1.d, .str (stepM r1 x.k.1 e).2]), some (.tup [(stepM r2 x.k.2 e).1.d, .str (stepM r2 x.k.2 e).2])] m3)) →
              WS (semB sub gv (callF sub T gv (n + 3)) (.cons (.asg 9 (.tup (.cons (.bin .idx (.var 10) (.cst (.int 0))) (.cons (.bin .idx (.var 11) (.cst (.int 0))) .nil)))) (.cons (.ifs (.bin .nmem (.var 9) (.var 2)) (.cons (.std 2 (.var 9) (.cst (.bl true))) (.cons (.exp (.mth .app (.var 5) (.var 9))) .nil)) .nil) .nil)) [some r1.d, some r2.d, some (.m 0), some d4, some (.int ((L : Int) + 1)), some (.m mm.length), some x.k.1.d, some x.k.2.d, some e.d, o9, some (.tup [(stepM r1 x.k.1 e).1.d, .str (stepM r1 x.k.1 e).2]), some (.tup [(stepM r2 x.k.2 e).1.d, .str (stepM r2 x.k.2 e).2])] m2) QS := by
            intro hd QS q
            refine wb_cons (ws_asg (we_tup (wl_cons (we_bin (we_var rfl (we_cst (WO.of (d := (stepM r1 x.k.1 e).1.d) (mm := m2) rfl (wl_cons (we_bin (we_var rfl (we_cst (WO.of (d := (stepM r2 x.k.2 e).1.d) (mm := m2) rfl (wl_nil ?_)))))))))))))
            refine wb_cons (ws_ifs (we_bin (we_var rfl (we_var rfl (nmem_pr (x := stepP r1 r2 x.k e) k0 ⟨_, rfl, fun ht => ?_, fun hf => ?_⟩)))))
            · have hnm : stepP r1 r2 x.k e ∉ N.map Gn.k := by simpa using ht
              refine wb_cons (ws_std (we_cst ⟨0, rfl, rfl, we_var rfl ⟨_, _, k0, putD_newU (isKD_pr (stepP r1 r2 x.k e)) (isKD_prs N) (by rw [kp_len]; omega) (idxOfD_prno _ _ hnm), ?_⟩⟩))
              have kk2 : ∀ c', (m2.set 0 c')[mm.length]? = _ := fun c' => (set_offP (c' := c') (show 0 ≠ mm.length by omega)).trans kk
              have hadd : gadd (stepP r1 r2) x N e = N ++ [gnx (stepP r1 r2) x e] := by unfold gadd; rw [if_neg hnm]
              refine wb_cons (ws_exp (we_mth (we_var rfl ⟨recv_app (kk2 _), we_var rfl ?_⟩)))
              refine wo_app (kk2 _) (pure_prs (stepP r1 r2 x.k e)) (by rw [kp_len, List.length_drop]; omega) (wb_nil (wb_nil (q _ _ ?_ ?_ ?_)))
              · intro y hy
                rw [hadd, List.drop_append_of_le_length hbN] at hy
                rcases List.mem_append.mp hy with hy | hy
                · exact hL2 y hy
                · rw [List.mem_singleton.mp hy]; simp [hxL]
              · rw [set_offP (by omega), set_atP k0, hadd, dtuP_app]; rfl
              · refine (set_atP (kk2 _)).trans ?_
                rw [hadd, List.drop_append_of_le_length hbN]
                simp [kpD, stepP]
            · have hm : stepP r1 r2 x.k e ∈ N.map Gn.k := by simpa using hf
              have hadd : gadd (stepP r1 r2) x N e = N := by unfold gadd; rw [if_pos hm]
              refine wb_nil (wb_nil (q _ _ ?_ ?_ ?_))
              · rw [hadd]; exact hL2
              · rw [hadd]; exact k0
              · rw [hadd]; exact kk
          have fin : difP r1 r2 x.k e = false → ∀ e' ∈ c ++ [e], difP r1 r2 x.k e' = false := by
            intro hd e' he
            rcases List.mem_append.mp he with h | h
            · exact hnd e' h
            · rw [List.mem_singleton.mp h]; exact hd
          refine wb_cons (ws_ifs (we_and (we_bin (we_bin (we_var rfl (we_cst (WO.of (d := .str (stepM r1 x.k.1 e).2) (mm := m2) rfl (we_bin (we_var rfl (we_cst (WO.of (d := .str (stepM r2 x.k.2 e).2) (mm := m2) rfl (wo_neT ⟨_, rfl, fun h2 => ?_, fun h2 => ⟨false, rfl, fun h => (by cases h), fun _ => ?_⟩⟩))))))))))))
          · refine we_bin (we_bin (we_var rfl (we_cst (WO.of (d := .str e.t) (mm := m2) rfl (we_tup (wl_cons (we_cst (wl_cons (we_cst (wl_nil (memt_bc e ⟨_, rfl, fun h1 => ?_, fun h1 => ?_⟩)))))))))))
            · have hd : difP r1 r2 x.k e = true := by unfold difP; rw [h1, h2]; rfl
              refine wb_cons (ws_ret (we_var rfl ⟨some (x.w ++ [e]), nd.stop g1 g2 hx hc hnd hd, ?_⟩))
              simp [nD, hxL]
            · have hd : difP r1 r2 x.k e = false := by unfold difP; rw [h1]; rfl
              exact wb_nil (cnt hd fun y9 m3 q0 q1 q2 => ⟨_, y9, _, _, fin hd, q0, rfl, q1, q2⟩)
          · have hd : difP r1 r2 x.k e = false := by unfold difP; rw [h2]; simp
            exact wb_nil (cnt hd fun y9 m3 q0 q1 q2 => ⟨_, y9, _, _, fin hd, q0, rfl, q1, q2⟩)
        · rintro sl m2 ⟨o8, o9, o10, o11, hnd, hL2, rfl, k0, kk⟩
          have e1 : pbf r1 r2 (i + a.length + 1) = gvis (stepP r1 r2) x (pbf r1 r2 (i + a.length)) := gbf_at hx
          refine wb_nil ⟨_, _, _, _, _, _, ?_, ?_, rfl, ?_, ?_⟩
          · rw [List.length_append, List.length_singleton, ← Nat.add_assoc]
            exact nd.next hx hnd
          · rw [List.length_append, List.length_singleton, ← Nat.add_assoc, e1]; exact hL2
          · rw [List.length_append, List.length_singleton, ← Nat.add_assoc, e1]; exact k0
          · rw [List.length_append, List.length_singleton, ← Nat.add_assoc, e1]; exact kk
      · rintro sl m1 ⟨o6, o7, o8, o9, o10, o11, nd, hL1, rfl, k0, kk⟩
        have hil : i + ((pbf r1 r2 i).drop i).length = (pbf r1 r2 i).length := by rw [List.length_drop]; omega
        rw [hil] at k0 kk nd hL1
        refine wb_cons (ws_asg (we_var rfl (wb_nil ⟨20000000 - (pbf r1 r2 i).length, by omega, (pbf r1 r2 i).length, L + 1, .m mm.length, some (.m mm.length), o6, o7, o8, o9, o10, o11, rfl, ?_, nd, hL1, by simp, k0, .inr ⟨mm.length, by omega, rfl, kk⟩⟩)))
        obtain ⟨t, q⟩ := gbf_pre (f := stepP r1 r2) (k0 := pr0 r1 r2) i ((pbf r1 r2 i).length - i)
        rw [show i + ((pbf r1 r2 i).length - i) = (pbf r1 r2 i).length by omega] at q
        have q2 := congrArg List.length q
        rw [List.length_append] at q2
        show (gbf _ _ i).length ≤ (gbf _ _ ((gbf _ _ i).length)).length
        have q3 : (pbf r1 r2 i).length = (gbf (stepP r1 r2) (pr0 r1 r2) i).length := rfl
        rw [q3] at q2
        omega
    · have hle : (pbf r1 r2 i).length ≤ i := by
        apply Nat.le_of_not_lt
        intro h
        have h2 : kpD ((pbf r1 r2 i).drop i) ≠ [] := by
          intro h3
          have := congrArg List.length h3
          rw [kp_len, List.length_drop, List.length_nil] at this
          omega
        cases hk : kpD ((pbf r1 r2 i).drop i) with
        | nil => exact h2 hk
        | cons x xs => rw [hk] at hf; simp at hf
      exact wb_cons (ws_ret (we_cst ⟨none, nd.out g1 g2 hle, rfl⟩))
  obtain ⟨x, e, q⟩ := w
  cases x with
  | rt d m =>
    obtain ⟨o, ho, rfl⟩ := q
    refine ⟨o, ho, ?_⟩
    show callF sub T gv (n + 3 + 1) 1100 [r1.d, r2.d] [] = _
    rw [callF_succ, if_pos (by rfl), e]
    show finF 0 _ m = _
    unfold finF
    rw [nD_pure]; rfl
  | nx s m => exact q.elim
  | ex x s m => exact q.elim
  | bk _ _ => exact q.elim
  | ct _ _ => exact q.elim
end Mp
/-! Kr: the written rule of k08, its neighbours, what parts them (printed by mkkr.py) -/
namespace Mp
def R0 : Ru := ⟨3, tSame, tSame, 2, 0, tEither, tStays, false, true⟩
def nbR : List Ru := [⟨1, tSame, tSame, 2, 0, tEither, tStays, false, true⟩, ⟨2, tSame, tSame, 2, 0, tEither, tStays, false, true⟩, ⟨3, tAnew, tSame, 2, 0, tEither, tStays, false, true⟩, ⟨3, tLonger, tSame, 2, 0, tEither, tStays, false, true⟩, ⟨3, tNew, tSame, 2, 0, tEither, tStays, false, true⟩, ⟨3, tSame, tAnew, 2, 0, tEither, tStays, false, true⟩, ⟨3, tSame, tLonger, 2, 0, tEither, tStays, false, true⟩, ⟨3, tSame, tSame, 0, 0, tEither, tStays, false, true⟩, ⟨3, tSame, tSame, 1, 0, tEither, tStays, false, true⟩, ⟨3, tSame, tSame, 2, 0, tEither, tEnds, false, true⟩, ⟨3, tSame, tSame, 2, 0, tEither, tStays, false, false⟩, ⟨3, tSame, tSame, 2, 0, tEither, tStays, true, true⟩, ⟨3, tSame, tSame, 2, 0, tFirst, tStays, false, true⟩, ⟨3, tSame, tSame, 2, 0, tThing, tStays, false, true⟩, ⟨3, tSame, tSame, 2, 3, tEither, tStays, false, true⟩, ⟨3, tSame, tSame, 2, 4, tEither, tStays, false, true⟩, ⟨3, tSame, tSame, 2, 5, tEither, tStays, false, true⟩, ⟨3, tSame, tSame, 2, 6, tEither, tStays, false, true⟩, ⟨3, tSame, tSame, 2, 7, tEither, tStays, false, true⟩, ⟨3, tSame, tSame, 2, 8, tEither, tStays, false, true⟩, ⟨3, tSame, tSame, 3, 0, tEither, tStays, false, true⟩, ⟨4, tSame, tSame, 2, 0, tEither, tStays, false, true⟩]
def nbI : List Nat := [0, 1, 21, 2, 3, 4, 5, 6, 7, 8, 20, 14, 15, 16, 17, 18, 19, 12, 13, 9, 11, 10]
def nbF (i : Nat) : D := match nbR[i]? with
  | some r => r.d
  | none => .non
theorem nb_all : (nearAll (.int R0.c) (.str R0.b) (.str R0.p) (.int R0.o) (.int R0.k) (.str R0.l) (.str R0.m) (.bl R0.a) (.bl R0.r)).filter isRuleM = nbI.map nbF := by rfl
theorem nb_le : (nbI.all fun a => nbI.all fun b => decide (a ≤ b) == leD (nbF a) (nbF b)) = true := by decide +kernel
theorem nb_srt : nbI.mergeSort (fun a b => decide (a ≤ b)) = List.range 22 := by
  refine List.Perm.eq_of_pairwise (le := fun a b => decide (a ≤ b) = true) (fun a b _ _ h1 h2 => ?_) (List.pairwise_mergeSort (fun a b c h1 h2 => ?_) (fun a b => ?_) _) (by decide) ((List.mergeSort_perm _ _).trans (by decide))
  · simp only [decide_eq_true_eq] at h1 h2; omega
  · simp only [decide_eq_true_eq] at h1 h2 ⊢; omega
  · simp only [Bool.or_eq_true, decide_eq_true_eq]; omega
theorem nb_near : nearR R0 = (List.range 22).map nbF := by
  unfold nearR
  rw [nb_all, ← nb_srt, List.map_mergeSort]
  intro a ha b hb
  have h1 := List.all_eq_true.mp nb_le a ha
  have h2 := List.all_eq_true.mp h1 b hb
  exact eq_of_beq h2
theorem good0 : Good R0 := ⟨by decide, by decide, .inr (.inr (.inr rfl)), .inr (.inr rfl), by decide, by decide, by decide, by decide, .inl rfl, .inr rfl, .inl rfl⟩
theorem goodN : ∀ r ∈ nbR, Good r := by
  intro r hr
  simp only [nbR, List.mem_cons, List.not_mem_nil, or_false] at hr
  rcases hr with rfl | rfl | rfl | rfl | rfl | rfl | rfl | rfl | rfl | rfl | rfl | rfl | rfl | rfl | rfl | rfl | rfl | rfl | rfl | rfl | rfl | rfl
  · exact ⟨by decide, by decide, .inr (.inr (.inr rfl)), .inr (.inr rfl), by decide, by decide, by decide, by decide, .inl rfl, .inr rfl, .inl rfl⟩
  · exact ⟨by decide, by decide, .inr (.inr (.inr rfl)), .inr (.inr rfl), by decide, by decide, by decide, by decide, .inl rfl, .inr rfl, .inl rfl⟩
  · exact ⟨by decide, by decide, .inl rfl, .inr (.inr rfl), by decide, by decide, by decide, by decide, .inl rfl, .inr rfl, .inl rfl⟩
  · exact ⟨by decide, by decide, .inr (.inl rfl), .inr (.inr rfl), by decide, by decide, by decide, by decide, .inl rfl, .inr rfl, .inl rfl⟩
  · exact ⟨by decide, by decide, .inr (.inr (.inl rfl)), .inr (.inr rfl), by decide, by decide, by decide, by decide, .inl rfl, .inr rfl, .inl rfl⟩
  · exact ⟨by decide, by decide, .inr (.inr (.inr rfl)), .inl rfl, by decide, by decide, by decide, by decide, .inl rfl, .inr rfl, .inl rfl⟩
  · exact ⟨by decide, by decide, .inr (.inr (.inr rfl)), .inr (.inl rfl), by decide, by decide, by decide, by decide, .inl rfl, .inr rfl, .inl rfl⟩
  · exact ⟨by decide, by decide, .inr (.inr (.inr rfl)), .inr (.inr rfl), by decide, by decide, by decide, by decide, .inl rfl, .inr rfl, .inl rfl⟩
  · exact ⟨by decide, by decide, .inr (.inr (.inr rfl)), .inr (.inr rfl), by decide, by decide, by decide, by decide, .inl rfl, .inr rfl, .inl rfl⟩
  · exact ⟨by decide, by decide, .inr (.inr (.inr rfl)), .inr (.inr rfl), by decide, by decide, by decide, by decide, .inl rfl, .inl rfl, .inl rfl⟩
  · exact ⟨by decide, by decide, .inr (.inr (.inr rfl)), .inr (.inr rfl), by decide, by decide, by decide, by decide, .inl rfl, .inr rfl, .inl rfl⟩
  · exact ⟨by decide, by decide, .inr (.inr (.inr rfl)), .inr (.inr rfl), by decide, by decide, by decide, by decide, .inl rfl, .inr rfl, .inl rfl⟩
  · exact ⟨by decide, by decide, .inr (.inr (.inr rfl)), .inr (.inr rfl), by decide, by decide, by decide, by decide, .inr (.inl rfl), .inr rfl, .inl rfl⟩
  · exact ⟨by decide, by decide, .inr (.inr (.inr rfl)), .inr (.inr rfl), by decide, by decide, by decide, by decide, .inr (.inr rfl), .inr rfl, .inl rfl⟩
  · exact ⟨by decide, by decide, .inr (.inr (.inr rfl)), .inr (.inr rfl), by decide, by decide, by decide, by decide, .inl rfl, .inr rfl, .inr (by decide)⟩
  · exact ⟨by decide, by decide, .inr (.inr (.inr rfl)), .inr (.inr rfl), by decide, by decide, by decide, by decide, .inl rfl, .inr rfl, .inr (by decide)⟩
  · exact ⟨by decide, by decide, .inr (.inr (.inr rfl)), .inr (.inr rfl), by decide, by decide, by decide, by decide, .inl rfl, .inr rfl, .inr (by decide)⟩
  · exact ⟨by decide, by decide, .inr (.inr (.inr rfl)), .inr (.inr rfl), by decide, by decide, by decide, by decide, .inl rfl, .inr rfl, .inr (by decide)⟩
  · exact ⟨by decide, by decide, .inr (.inr (.inr rfl)), .inr (.inr rfl), by decide, by decide, by decide, by decide, .inl rfl, .inr rfl, .inr (by decide)⟩
  · exact ⟨by decide, by decide, .inr (.inr (.inr rfl)), .inr (.inr rfl), by decide, by decide, by decide, by decide, .inl rfl, .inr rfl, .inr (by decide)⟩
  · exact ⟨by decide, by decide, .inr (.inr (.inr rfl)), .inr (.inr rfl), by decide, by decide, by decide, by decide, .inl rfl, .inr rfl, .inl rfl⟩
  · exact ⟨by decide, by decide, .inr (.inr (.inr rfl)), .inr (.inr rfl), by decide, by decide, by decide, by decide, .inl rfl, .inr rfl, .inl rfl⟩
/-- rows that part -/
def nbW : List (Nat × List Ev × Ev) := [(0, [.day], .body), (1, [.day, .day], .body), (2, [.day, .body, .day, .day], .body), (3, [.day, .body, .day, .day], .body), (4, [.break, .body], .claim), (5, [.break, .day, .claim, .day, .day], .body), (6, [.break, .day, .claim, .day, .day], .body), (7, [.break, .day, .day, .claim, .break, .day], .claim), (8, [.break, .day, .day, .claim, .break, .day], .claim), (9, [.break, .day, .day, .claim, .break, .day, .fetch, .put, .put], .claim), (10, [.break, .claim, .put], .claim), (11, [.fetch, .put], .claim), (12, [.break, .claim, .break, .day, .day], .claim), (13, [.break, .day, .day, .claim, .break, .day], .claim), (20, [.break, .day, .claim, .break, .day, .day], .claim), (21, [.day, .day, .day], .body)]
theorem nb_parts : (nbW.all fun q => match nbR[q.1]? with | some r => difP R0 r ((runM R0 (s0 R0) q.2.1).1, (runM r (s0 r) q.2.1).1) q.2.2 | none => false) = true := by decide +kernel
/-- the written rule and one with a cap: together -/
structure Sim (k : Int) (x : Pr) : Prop where
  left : x.1.left = x.2.left
  p : x.1.p = x.2.p
  q : x.1.q = x.2.q
  age : x.1.age = 0
  sum : x.2.left = 0 ∨ x.2.left + x.2.age ≤ 3
  a0 : 0 ≤ x.2.age
  ak : x.2.age ≤ k
  l0 : 0 ≤ x.2.left
abbrev Rk (k : Int) : Ru := ⟨3, tSame, tSame, 2, k, tEither, tStays, false, true⟩
theorem R0_eq : R0 = Rk 0 := rfl
theorem ch_same {k age left : Int} (hk : 3 ≤ k) (hs : left = 0 ∨ left + age ≤ 3) (ha : age ≤ k) : changedM (Rk k) age left tSame = left := by
  unfold changedM
  have h1 : ¬ (tSame = tAnew ∨ tSame = tNew) := by decide
  have h2 : ¬ (tSame = tLonger) := by decide
  simp only [h1, h2, if_false]
  rw [if_neg (show ¬ k = 0 by omega)]
  omega
theorem ch_zero {age left : Int} : changedM (Rk 0) age left tSame = left := by
  unfold changedM
  have h1 : ¬ (tSame = tAnew ∨ tSame = tNew) := by decide
  have h2 : ¬ (tSame = tLonger) := by decide
  simp only [h1, h2, if_false, if_true]
theorem cov_any (k : Int) (left : Int) (p : Pt) : coveredM (Rk k) left p = coveredM (Rk 0) left p := rfl
theorem mov_any (k : Int) (p : Pt) : movedM (Rk k) p = movedM (Rk 0) p := rfl
theorem sim_step {k : Int} (hk : 3 ≤ k) {x : Pr} (h : Sim k x) (e : Ev) : Sim k (stepP (Rk 0) (Rk k) x e) ∧ (stepM (Rk 0) x.1 e).2 = (stepM (Rk k) x.2 e).2 := by
  obtain ⟨⟨a, l, p, q⟩, ⟨a', l', p', q'⟩⟩ := x
  obtain ⟨h1, h2, h3, h4, h5, h6, h7, h8⟩ := h
  simp only at h1 h2 h3 h4 h5 h6 h7 h8
  subst h1; subst h2; subst h3; subst h4
  have c1 := ch_same (age := a') (left := l) hk h5 h7
  have c0 := fun a => ch_zero (age := a) (left := l)
  cases e
  · by_cases hl : l = 0
    · have e1 : stepM (Rk 0) ⟨0, l, p, q⟩ .body = (⟨0, l, p, q⟩, tRefused) := by simp [stepM, bodiedM, hl]
      have e2 : stepM (Rk k) ⟨a', l, p, q⟩ .body = (⟨a', l, p, q⟩, tRefused) := by simp [stepM, bodiedM, hl]
      simp only [stepP, e1, e2]
      exact ⟨⟨rfl, rfl, rfl, rfl, h5, h6, h7, h8⟩, trivial⟩
    · have hb : ¬ (tSame = tNew) := by decide
      have e1 : stepM (Rk 0) ⟨0, l, p, q⟩ .body = (⟨0, l, p, q⟩, tPaid) := by
        show bodiedM _ _ = _
        unfold bodiedM
        simp only [hl, if_false, c0, hb]
      have e2 : stepM (Rk k) ⟨a', l, p, q⟩ .body = (⟨a', l, p, q⟩, tPaid) := by
        show bodiedM _ _ = _
        unfold bodiedM
        simp only [hl, if_false, c1, hb]
      simp only [stepP, e1, e2]
      exact ⟨⟨rfl, rfl, rfl, rfl, h5, h6, h7, h8⟩, trivial⟩
  · by_cases hs : p.s = tGood
    · have e1 : ∀ r a, stepM r ⟨a, l, p, q⟩ .break = (⟨a, l, ⟨p.k, p.w, tBroken⟩, q⟩, tDone) := fun r a => by
        have hne : ¬ ((⟨a, l, ⟨p.k, p.w, tBroken⟩, q⟩ : Sd) = ⟨a, l, p, q⟩) := by
          intro h
          have h3 : tBroken = p.s := congrArg (fun z : Sd => z.p.s) h
          rw [hs] at h3
          exact absurd h3 (by decide)
        simp only [stepM, hs, if_true, hne, if_false]
      simp only [stepP, e1]
      exact ⟨⟨rfl, rfl, rfl, rfl, h5, h6, h7, h8⟩, trivial⟩
    · have e1 : ∀ r a, stepM r ⟨a, l, p, q⟩ .break = (⟨a, l, p, q⟩, tNothing) := fun r a => by simp [stepM, hs]
      simp only [stepP, e1]
      exact ⟨⟨rfl, rfl, rfl, rfl, h5, h6, h7, h8⟩, trivial⟩
  · by_cases hs : p.s = tGood
    · have e1 : ∀ r a, stepM r ⟨a, l, p, q⟩ .claim = (⟨a, l, p, q⟩, tNothing) := fun r a => by simp [stepM, claimedM, hs]
      simp only [stepP, e1]
      exact ⟨⟨rfl, rfl, rfl, rfl, h5, h6, h7, h8⟩, trivial⟩
    · cases hc : coveredM (Rk 0) l p with
      | false =>
        have hc' := (cov_any k l p).trans hc
        have e1 : stepM (Rk 0) ⟨0, l, p, q⟩ .claim = (⟨0, l, p, q⟩, tRefused) := by
          show claimedM _ _ = _
          unfold claimedM
          simp only [hs, if_false, hc, if_true]
        have e2 : stepM (Rk k) ⟨a', l, p, q⟩ .claim = (⟨a', l, p, q⟩, tRefused) := by
          show claimedM _ _ = _
          unfold claimedM
          simp only [hs, if_false, hc', if_true]
        simp only [stepP, e1, e2]
        exact ⟨⟨rfl, rfl, rfl, rfl, h5, h6, h7, h8⟩, trivial⟩
      | true =>
        have hc' := (cov_any k l p).trans hc
        have e1 : stepM (Rk 0) ⟨0, l, p, q⟩ .claim = (⟨0, l, ⟨tCame, 2, tGood⟩, q⟩, tPaid) := by
          show claimedM _ _ = _
          unfold claimedM
          simp only [hs, if_false, hc, Bool.true_eq_false, c0, if_true]
        have e2 : stepM (Rk k) ⟨a', l, p, q⟩ .claim = (⟨a', l, ⟨tCame, 2, tGood⟩, q⟩, tPaid) := by
          show claimedM _ _ = _
          unfold claimedM
          simp only [hs, if_false, hc', Bool.true_eq_false, c1, if_true]
        simp only [stepP, e1, e2]
        exact ⟨⟨rfl, rfl, rfl, rfl, h5, h6, h7, h8⟩, trivial⟩
  · have e1 : stepM (Rk 0) ⟨0, l, p, q⟩ .day = (⟨0, max 0 (l - 1), olderM p, q.map olderM⟩, tDone) := rfl
    have e2 : stepM (Rk k) ⟨a', l, p, q⟩ .day = (⟨min (a' + 1) k, max 0 (l - 1), olderM p, q.map olderM⟩, tDone) := by
      show (dayM _ _, _) = _
      unfold dayM
      rw [if_neg (show ¬ (Rk k).k = 0 by show ¬ k = 0; omega)]
    simp only [stepP, e1, e2]
    exact ⟨⟨rfl, rfl, rfl, rfl, by simp only; omega, by simp only; omega, by simp only; omega, by simp only; omega⟩, trivial⟩
  · have e1 : ∀ r a, (stepM r ⟨a, l, p, q⟩ .fetch).1 = ⟨a, l, p, some ⟨tAlien, 0, tBroken⟩⟩ := fun _ _ => rfl
    have e2 : ∀ r a, (stepM r ⟨a, l, p, q⟩ .fetch).2 = if q = some ⟨tAlien, 0, tBroken⟩ then tNothing else tDone := fun r a => by
      by_cases h : q = some ⟨tAlien, 0, tBroken⟩
      · simp [stepM, h]
      · have h' : ¬ (some ⟨tAlien, 0, tBroken⟩ = q) := fun e => h e.symm
        simp [stepM, h, h']
    simp only [stepP, e1, e2]
    exact ⟨⟨rfl, rfl, rfl, rfl, h5, h6, h7, h8⟩, trivial⟩
  · cases q with
    | none =>
      have e1 : ∀ r a, stepM r ⟨a, l, p, none⟩ .put = (⟨a, l, p, none⟩, tNothing) := fun r a => by simp [stepM]
      simp only [stepP, e1]
      exact ⟨⟨rfl, rfl, rfl, rfl, h5, h6, h7, h8⟩, trivial⟩
    | some q =>
      have e1 : ∀ r a, (stepM r ⟨a, l, p, some q⟩ .put).1 = ⟨a, l, movedM r q, some (movedM r p)⟩ := fun _ _ => rfl
      have e2 : ∀ r a, (stepM r ⟨a, l, p, some q⟩ .put).2 = if movedM r q = p ∧ movedM r p = q then tNothing else tDone := fun r a => by
        simp [stepM]
      simp only [stepP, e1, e2, mov_any k]
      exact ⟨⟨rfl, rfl, rfl, rfl, h5, h6, h7, h8⟩, rfl⟩
theorem sim_run {k : Int} (hk : 3 ≤ k) : ∀ (w : List Ev) {x : Pr}, Sim k x → Sim k (grun (stepP (Rk 0) (Rk k)) x w)
  | [], _, h => h
  | e :: w, _, h => sim_run hk w (sim_step hk h e).1
theorem sim_zero {k : Int} (hk : 3 ≤ k) : Sim k (pr0 (Rk 0) (Rk k)) := ⟨rfl, rfl, rfl, rfl, .inr (by show (3 : Int) + 0 ≤ 3; omega), by show (0 : Int) ≤ 0; omega, by show (0 : Int) ≤ k; omega, by show (0 : Int) ≤ 3; omega⟩
theorem alike_k {k : Int} (hk : 3 ≤ k) (g : Good (Rk k)) {o : Option (List Ev)} (h : POut R0 (Rk k) o) : o = none := by
  cases o with
  | none => rfl
  | some v =>
    obtain ⟨w, e, _, hd, _⟩ := GOut.some (pr_step good0 g) (pr_zero good0 g) (pbf_lim good0 g) h
    have := (sim_step hk (sim_run hk w (sim_zero hk)) e).2
    unfold difP at hd
    rw [R0_eq, this] at hd
    simp at hd
theorem parted_w {r : Ru} (g : Good r) {w : List Ev} {e : Ev} (hd : difP R0 r ((runM R0 (s0 R0) w).1, (runM r (s0 r) w).1) e = true) : ¬ POut R0 r none := by
  intro h
  have := GOut.none (pr_step good0 g) (pr_zero good0 g) (pbf_lim good0 g) h w e
  rw [grunP] at this
  rw [hd] at this; cases this
end Mp
/-! Kr2: which neighbours are alike (printed by mkkr.py) -/
namespace Mp
/-- which neighbours are alike -/
theorem nb_alike {i : Nat} {r : Ru} (hr : nbR[i]? = some r) {o : Option (List Ev)} (h : POut R0 r o) : (o = none ↔ 14 ≤ i ∧ i < 20) := by
  have gr := goodN r (List.mem_iff_getElem?.mpr ⟨i, hr⟩)
  have hi : i < 22 := (List.getElem?_eq_some_iff.mp hr).1
  by_cases hc : 14 ≤ i ∧ i < 20
  · refine ⟨fun _ => hc, fun _ => ?_⟩
    have h2 : i = 14 ∨ i = 15 ∨ i = 16 ∨ i = 17 ∨ i = 18 ∨ i = 19 := by omega
    rcases h2 with rfl | rfl | rfl | rfl | rfl | rfl <;> cases hr
    · exact alike_k (k := 3) (by decide) gr h
    · exact alike_k (k := 4) (by decide) gr h
    · exact alike_k (k := 5) (by decide) gr h
    · exact alike_k (k := 6) (by decide) gr h
    · exact alike_k (k := 7) (by decide) gr h
    · exact alike_k (k := 8) (by decide) gr h
  · refine ⟨fun ho => ?_, fun h => absurd h hc⟩
    subst ho
    have hq : ∃ q ∈ nbW, q.1 = i := by
      have h2 : (List.range 22).all (fun i => (decide (14 ≤ i) && decide (i < 20)) || nbW.any fun q => q.1 == i) = true := by decide
      have h3 := List.all_eq_true.mp h2 i (List.mem_range.mpr hi)
      rw [Bool.or_eq_true] at h3
      rcases h3 with h3 | h3
      · simp only [Bool.and_eq_true, decide_eq_true_eq] at h3
        exact absurd h3 hc
      · obtain ⟨q, hq, e⟩ := List.any_eq_true.mp h3
        exact ⟨q, hq, eq_of_beq e⟩
    obtain ⟨q, hq, rfl⟩ := hq
    have h2 := List.all_eq_true.mp nb_parts q hq
    simp only [hr] at h2
    exact absurd h (parted_w gr (w := q.2.1) (e := q.2.2) h2)
/-! the shortest row that parts from the rule without its back -/
abbrev Rb : Ru := ⟨3, tSame, tSame, 2, 0, tEither, tStays, false, false⟩
theorem goodb : Good Rb := goodN Rb (List.mem_iff_getElem?.mpr ⟨10, rfl⟩)
theorem few_none : (EVS.all fun e => !difP R0 Rb ((runM R0 (s0 R0) []).1, (runM Rb (s0 Rb) []).1) e) = true ∧ (EVS.all fun a => EVS.all fun e => !difP R0 Rb ((runM R0 (s0 R0) [a]).1, (runM Rb (s0 Rb) [a]).1) e) = true ∧
    (EVS.all fun a => EVS.all fun b => EVS.all fun e => !difP R0 Rb ((runM R0 (s0 R0) [a, b]).1, (runM Rb (s0 Rb) [a, b]).1) e) = true := by decide +kernel
theorem not_t {b : Bool} (h : (!b) = true) : b = false := by cases b; rfl; cases h
theorem no_dif2 : ∀ (w : List Ev) (e : Ev), w.length ≤ 2 → difP R0 Rb ((runM R0 (s0 R0) w).1, (runM Rb (s0 Rb) w).1) e = false
  | [], e, _ => not_t (List.all_eq_true.mp few_none.1 e (all_evs e))
  | [a], e, _ => not_t (List.all_eq_true.mp (List.all_eq_true.mp few_none.2.1 a (all_evs a)) e (all_evs e))
  | [a, b], e, _ => not_t (List.all_eq_true.mp (List.all_eq_true.mp (List.all_eq_true.mp few_none.2.2 a (all_evs a)) b (all_evs b)) e (all_evs e))
  | a :: b :: c :: w, e, h => by simp only [List.length_cons] at h; omega
theorem four_dif : difP R0 Rb ((runM R0 (s0 R0) [.break, .claim, .put]).1, (runM Rb (s0 Rb) [.break, .claim, .put]).1) .claim = true := by decide +kernel
theorem four_ok {o : Option (List Ev)} (h : POut R0 Rb o) : ∃ v, o = some v ∧ v.length = 4 := by
  cases o with
  | none =>
    exact absurd h (parted_w goodb (w := [.break, .claim, .put]) (e := .claim) four_dif)
  | some v =>
    obtain ⟨w, e, rfl, hd, hm⟩ := GOut.some (pr_step good0 goodb) (pr_zero good0 goodb) (pbf_lim good0 goodb) h
    refine ⟨_, rfl, ?_⟩
    have h3 : w.length ≤ 3 := hm [.break, .claim, .put] .claim (by rw [grunP]; exact four_dif)
    rw [grunP] at hd
    have h4 : ¬ w.length ≤ 2 := by
      intro hl
      rw [no_dif2 w e hl] at hd
      cases hd
    clear hd hm h
    rw [List.length_append, List.length_singleton]
    omega
end Mp
/-! Sl: alike (43), parting (44), like_rules (45), the row that parts (1101) -/
namespace Mp
theorem T45 : T 45 = p_like_rules := rfl
theorem parted_is (n : Nat) {r1 r2 : Ru} (g1 : Good r1) (g2 : Good r2) {o : Option (List Ev)} (h : POut r1 r2 o) : callF sub T gv (n + 4) 42 [r1.d, r2.d] [] = some (.rt (oD o) [] []) := by
  obtain ⟨o', h', e⟩ := parted_ok n r1 r2 g1 g2
  rw [GOut.eq h h']; exact e
theorem fewest_is (n : Nat) {r1 r2 : Ru} (g1 : Good r1) (g2 : Good r2) {o : Option (List Ev)} (h : POut r1 r2 o) : callF sub T gv (n + 4) 1100 [r1.d, r2.d] [] = some (.rt (nD o) [] []) := by
  obtain ⟨o', h', e⟩ := fewest_ok n r1 r2 g1 g2
  rw [GOut.eq h h']; exact e
theorem pout_ex {r1 r2 : Ru} (g1 : Good r1) (g2 : Good r2) : ∃ o, POut r1 r2 o := by
  obtain ⟨o, h, _⟩ := parted_ok 0 r1 r2 g1 g2
  exact ⟨o, h⟩
theorem isN_oD (o : Option (List Ev)) {mm : Mm} {Q : D → Mm → Prop} (q : Q (.bl o.isNone) mm) : WO (unS .isN (oD o) mm) Q := WO.of (by cases o <;> rfl) q
theorem isN_nD (o : Option (List Ev)) {mm : Mm} {Q : D → Mm → Prop} (q : Q (.bl o.isNone) mm) : WO (unS .isN (nD o) mm) Q := WO.of (by cases o <;> rfl) q
theorem notN_oD (o : Option (List Ev)) {mm : Mm} {Q : D → Mm → Prop} (q : Q (.bl o.isSome) mm) : WO (unS .notN (oD o) mm) Q := WO.of (by cases o <;> rfl) q
theorem ru_pure (r : Ru) : pureD r.d = true := by simp
theorem two_pure (r1 r2 : Ru) : pureDs [r1.d, r2.d] = true := by simp
theorem alike_ok (n : Nat) {r1 r2 : Ru} (g1 : Good r1) (g2 : Good r2) {o : Option (List Ev)} (h : POut r1 r2 o) : callF sub T gv (n + 5) 43 [r1.d, r2.d] [] = some (.rt (.bl o.isNone) [] []) := by
  refine callF_of T43 rfl ?_
  refine wb_cons (ws_exp (we_call (wl_cons (we_var rfl (wl_nil (wc_pure (need_ok n r1 g1) (by simp) rfl ?_))))))
  refine wb_cons (ws_exp (we_call (wl_cons (we_var rfl (wl_nil (wc_pure (need_ok n r2 g2) (by simp) rfl ?_))))))
  refine wb_cons (ws_ret (we_un (we_call (wl_cons (we_var rfl (wl_cons (we_var rfl (wl_nil (wc_pure (parted_is n g1 g2 h) (two_pure _ _) (oD_pure o) (isN_oD o ?_))))))))))
  rfl
theorem parting_ok (n : Nat) {r1 r2 : Ru} (g1 : Good r1) (g2 : Good r2) {o : Option (List Ev)} (h : POut r1 r2 o) : callF sub T gv (n + 5) 44 [r1.d, r2.d] [] = some (.rt (oD o) [] []) := by
  refine callF_of T44 rfl ?_
  refine wb_cons (ws_exp (we_call (wl_cons (we_var rfl (wl_nil (wc_pure (need_ok n r1 g1) (by simp) rfl ?_))))))
  refine wb_cons (ws_exp (we_call (wl_cons (we_var rfl (wl_nil (wc_pure (need_ok n r2 g2) (by simp) rfl ?_))))))
  refine wb_cons (ws_ret (we_call (wl_cons (we_var rfl (wl_cons (we_var rfl (wl_nil (wc_pure (parted_is n g1 g2 h) (two_pure _ _) (oD_pure o) ?_))))))))
  show finF 0 (oD o) _ = _
  unfold finF
  rw [oD_pure]; rfl
/-! like_rules of the written rule -/
def capsL : List D := [Ru.d (Rk 3), Ru.d (Rk 4), Ru.d (Rk 5), Ru.d (Rk 6), Ru.d (Rk 7), Ru.d (Rk 8)]
def alB (d : D) : Bool := match d with
  | .tup [_, _, _, _, .int k, _, _, _, _] => decide (3 ≤ k)
  | _ => false
theorem nbF_at {i : Nat} (h : i < 22) : ∃ r, nbR[i]? = some r ∧ nbF i = r.d := by
  have : i < nbR.length := h
  refine ⟨nbR[i], List.getElem?_eq_getElem this, ?_⟩
  unfold nbF
  rw [List.getElem?_eq_getElem this]
theorem alB_nb : ((List.range 22).all fun i => alB (nbF i) == (decide (14 ≤ i) && decide (i < 20))) = true := by decide +kernel
theorem caps_filter : ((List.range 22).map nbF).filter alB = capsL := by rfl
theorem rules_near0 (n : Nat) : callF sub T gv (n + 4) 9 [R0.d] [] = some (.rt (.lst (nearR R0)) [] []) := rules_near_ok n (.int R0.c) (.str R0.b) (.str R0.p) (.int R0.o) (.int R0.k) (.str R0.l) (.str R0.m) (.bl R0.a) (.bl R0.r) rfl rfl (by simp [hgts, hgt])
theorem like_ok (n : Nat) : callF sub T gv (n + 5) 45 [R0.d] [] = some (.rt (.lst capsL) [] []) := by
  refine callF_of T45 rfl ?_
  refine wb_cons (ws_exp (we_call (wl_cons (we_var rfl (wl_nil (wc_pure (need_ok n R0 good0) rfl rfl ?_))))))
  refine wb_cons (ws_ret (we_lc alB id (wi_lst (we_call (wl_cons (we_var rfl (wl_nil (wc_pure (rules_near0 n) rfl (by rw [pu_lst]; exact nearR_pure R0) ⟨_, rfl, by have := nearR_len R0; omega, fun v hv => ?_, ?_⟩))))))))
  · rw [nb_near] at hv
    obtain ⟨i, hi, rfl⟩ := List.mem_map.mp hv
    have hi := List.mem_range.mp hi
    obtain ⟨r, hr, e⟩ := nbF_at hi
    have gr := goodN r (List.mem_iff_getElem?.mpr ⟨i, hr⟩)
    obtain ⟨o, ho⟩ := pout_ex good0 gr
    have hk := nb_alike hr ho
    have hb : alB (nbF i) = o.isNone := by
      have h1 := eq_of_beq (List.all_eq_true.mp alB_nb i (List.mem_range.mpr hi))
      rw [h1]
      by_cases hc : 14 ≤ i ∧ i < 20
      · rw [hk.mpr hc]; simp [hc]
      · have : o ≠ none := fun h => hc (hk.mp h)
        cases o with
        | none => exact absurd rfl this
        | some v => simp only [Option.isNone_some]; simp; omega
    refine ⟨_, rfl, ?_, fun _ => ⟨we_var rfl ⟨rfl, rfl⟩, by rw [e]; simp⟩⟩
    have hpair : pureDs [R0.d, nbF i] = true := by rw [e]; simp
    refine we_un (we_call (wl_cons (we_var rfl (wl_cons (we_var rfl (wl_nil (wc_pure (d := oD o) ?_ hpair (oD_pure o) (isN_oD o ⟨by rw [hb], rfl⟩))))))))
    rw [e]
    exact parted_is n good0 gr ho
  · rw [nb_near, List.map_id, caps_filter]
    rfl
/-! the row that parts, by the law -/
abbrev partB : B := (.cons (.par 7 8 (.call 1027 (.cons (.var 0) (.cons (.var 4) (.cons (.var 3) .nil)))) (.call 1027 (.cons (.var 1) (.cons (.var 5) (.cons (.var 3) .nil)))))
    (.cons (.par3 4 5 6 (.bin .idx (.var 7) (.cst (.int 0))) (.bin .idx (.var 8) (.cst (.int 0))) (.lst (.cons (.bin .idx (.var 7) (.cst (.int 1))) (.cons (.bin .idx (.var 8) (.cst (.int 1))) .nil))))
    .nil))
theorem ix_last (xs : List D) (x : D) {mm : Mm} {Q : D → Mm → Prop} (q : Q x mm) : WO (binS .idx (.tup (xs ++ [x])) (.int (-1)) mm) Q :=
  WO.of (by
    show idxS (.tup (xs ++ [x])) (.int (-1)) mm = _
    have hn : L2.ixN (xs ++ [x]).length (-1) = some xs.length := by
      unfold L2.ixN
      simp only [List.length_append, List.length_singleton]
      rw [if_neg (by omega), if_pos (by omega)]
      congr 1; omega
    show (match L2.atI (xs ++ [x]) (-1) with | some x => okE x mm | none => none) = _
    unfold L2.atI
    rw [hn]
    simp) q
theorem parts_ok (n : Nat) {r1 r2 : Ru} (g1 : Good r1) (g2 : Good r2) {w : List Ev} {e : Ev} (hd : difP r1 r2 (grun (stepP r1 r2) (pr0 r1 r2) w) e = true) : callF sub T gv (n + 4) 1101 [r1.d, r2.d, rowD (w ++ [e])] [] = some (.rt (.bl true) [] []) := by
  refine callF_of T1101 rfl ?_
  refine wb_cons (ws_par3 (we_call (wl_cons (we_var rfl (wl_nil (wc_pure (new_ok (n + 2) r1) (by simp) (by simp) (we_call (wl_cons (we_var rfl (wl_nil (wc_pure (new_ok (n + 2) r2) (by simp) (by simp) (we_lst (wl_nil ⟨rfl, ?_⟩)))))))))))))
  refine wb_cons (ws_for (wi_tup (we_var rfl ⟨_, rfl, ?_⟩)))
  refine wf_pre Ev.d (fun a sl m => ∃ o3 d6 o7 o8, PrOk r1 r2 (grun (stepP r1 r2) (pr0 r1 r2) a) ∧ sl = [some r1.d, some r2.d, some (rowD (w ++ [e])), o3, some (grun (stepP r1 r2) (pr0 r1 r2) a).1.d, some (grun (stepP r1 r2) (pr0 r1 r2) a).2.d, some d6, o7, o8] ∧ m = [] ∧
      ∀ a' e', a = a' ++ [e'] → d6 = .lst [.str (stepM r1 (grun (stepP r1 r2) (pr0 r1 r2) a').1 e').2, .str (stepM r2 (grun (stepP r1 r2) (pr0 r1 r2) a').2 e').2])
    (w ++ [e]) _ _ ⟨none, .lst [], none, none, pr_zero g1 g2, rfl, rfl, fun a' e' h => by have := congrArg List.length h; simp at this⟩ ?_ ?_
  · rintro a x b hab sl m ⟨o3, d6, o7, o8, hp, rfl, rfl, _⟩
    refine ⟨_, rfl, ?_⟩
    have hrun : grun (stepP r1 r2) (pr0 r1 r2) (a ++ [x]) = stepP r1 r2 (grun (stepP r1 r2) (pr0 r1 r2) a) x := by rw [grun_app]; rfl
    have hlast : ∀ a' e', a ++ [x] = a' ++ [e'] → a' = a ∧ e' = x := by
      intro a' e' h
      obtain ⟨rfl, h2⟩ := List.append_inj' h rfl
      simp only [List.cons.injEq, and_true] at h2
      exact ⟨rfl, h2.symm⟩
    have hp2 := pr_step g1 g2 _ x hp
    rw [hrun]
    have hq : ∀ a' e', a ++ [x] = a' ++ [e'] → (D.lst [.str (stepM r1 (grun (stepP r1 r2) (pr0 r1 r2) a).1 x).2, .str (stepM r2 (grun (stepP r1 r2) (pr0 r1 r2) a).2 x).2]) = .lst [.str (stepM r1 (grun (stepP r1 r2) (pr0 r1 r2) a').1 e').2, .str (stepM r2 (grun (stepP r1 r2) (pr0 r1 r2) a').2 e').2] := by
      intro a' e' h
      obtain ⟨rfl, rfl⟩ := hlast a' e' h
      rfl
    generalize grun (stepP r1 r2) (pr0 r1 r2) a = y at hp hp2 hq ⊢
    obtain ⟨d, sc1, sc2⟩ := hp
    refine wb_cons (ws_par (we_call (wl_cons (we_var rfl (wl_cons (we_var rfl (wl_cons (we_var rfl (wl_nil (wc_pure (on_ok n r1 g1 y.1 sc1.toGoodS x) (by simp [Ev.d]) (by simp) ?_))))))))))
    refine we_call (wl_cons (we_var rfl (wl_cons (we_var rfl (wl_cons (we_var rfl (wl_nil (wc_pure (on_ok n r2 g2 y.2 sc2.toGoodS x) (by simp [Ev.d]) (by simp) ?_))))))))
    refine wb_cons (ws_par3 (we_bin (we_var rfl (we_cst (WO.of (d := (stepM r1 y.1 x).1.d) (mm := []) rfl (we_bin (we_var rfl (we_cst (WO.of (d := (stepM r2 y.2 x).1.d) (mm := []) rfl (we_lst (wl_cons (we_bin (we_var rfl (we_cst (WO.of (d := .str (stepM r1 y.1 x).2) (mm := []) rfl (wl_cons (we_bin (we_var rfl (we_cst (WO.of (d := .str (stepM r2 y.2 x).2) (mm := []) rfl (wl_nil ⟨rfl, wb_nil ?_⟩)))))))))))))))))))))
    exact ⟨_, _, _, _, hp2, rfl, rfl, hq⟩
  · rintro sl m ⟨o3, d6, o7, o8, hp, rfl, rfl, hl⟩
    have hl := hl w e rfl
    subst hl
    generalize grun (stepP r1 r2) (pr0 r1 r2) w = y at hd
    unfold difP at hd
    rw [Bool.and_eq_true] at hd
    have hrow : rowD (w ++ [e]) = .tup (w.map Ev.d ++ [e.d]) := by simp [rowD]
    refine wb_cons (ws_ret (we_and (we_bin (we_bin (we_bin (we_var rfl (we_un (we_cst (WO.of (d := .int (-1)) (mm := []) rfl ?_)))))))))
    rw [hrow]
    refine ix_last _ _ (we_cst (WO.of (d := .str e.t) (mm := []) rfl (we_tup (wl_cons (we_cst (wl_cons (we_cst (wl_nil (memt_bc e ⟨_, rfl, fun _ => ?_, fun h => ?_⟩)))))))))
    · refine we_bin (we_bin (we_var rfl (we_cst (WO.of (d := .str (stepM r1 y.1 e).2) (mm := []) rfl (we_bin (we_var rfl (we_cst (WO.of (d := .str (stepM r2 y.2 e).2) (mm := []) rfl (wo_neT ?_)))))))))
      rw [hd.2]
      rfl
    · rw [hd.1] at h; cases h
end Mp
/-! Lw08: the law (k08) -/
namespace Mp
theorem T1999 : T 1999 = l_law := rfl
theorem has_set {mm : Mm} {k : Nat} {c c' : D} (hk : mm[k]? = some (.mu c)) : (mm.set k (.mu c'))[k]? = some (.mu c') := List.getElem?_set_self (List.getElem?_eq_some_iff.mp hk).1
theorem wi_cells {gv : Nat → D} {cf : Nat → List D → Mm → Option FR} {sl : Sl} {mm : Mm} {ns : List Int} {k : Int} (hl : ns.length ≤ 63) (h0 : sl[0]? = some (some (.lst (ns.map .int)))) {QI : List D → Mm → Prop} (q : ∀ cs : List Int, QI (cs.map .int) mm) :
    WI (semI gv cf (.seq (.slc (.bin .add (.lst (.cons (.cst (.int 0)) .nil)) (.var 0)) .no (.cst (.int k)))) sl mm) QI := by
  have ha : binS .add (.lst [.int 0]) (.lst (ns.map .int)) mm = okE (.lst ((0 :: ns).map .int)) mm := by
    have hz : 1 + (ns.map D.int).length ≤ szl := by rw [List.length_map]; unfold szl; omega
    simp only [binS, addS, rdv_lst, List.length_cons, List.length_nil, Nat.zero_add, hz, if_true]
    rfl
  refine wi_lst (we_slc (we_bin (we_lst (wl_cons (we_cst (wl_nil ⟨rfl, we_var h0 (WO.of ha (we_no ⟨none, rfl, we_cst ⟨some k, rfl, WO.of (d := .lst (cutD ((0 :: ns).map D.int) none (some k))) rfl ?_⟩⟩))⟩))))))
  refine ⟨_, rfl, ?_⟩
  have e : cutD ((0 :: ns).map D.int) none (some k) = (((0 :: ns).drop (HT.sIx ((0 :: ns).map D.int).length 0 none)).take (HT.sIx ((0 :: ns).map D.int).length ((0 :: ns).map D.int).length (some k) - HT.sIx ((0 :: ns).map D.int).length 0 none)).map .int := by
    rw [List.map_take, List.map_drop]; rfl
  rw [e]
  exact q _
theorem wo_neB {a b : Bool} {mm : Mm} {Q : D → Mm → Prop} (q : Q (.bl (!(a == b))) mm) : WO (binS .ne (.bl a) (.bl b) mm) Q := WO.of (by cases a <;> cases b <;> rfl) q
abbrev pairB : B := (.cons (.par 10 11 (.call 1100 (.cons (.var 8) (.cons (.var 9) .nil))) (.call 44 (.cons (.var 8) (.cons (.var 9) .nil))))
    (.cons (.ifs (.or (.bin .ne (.call 43 (.cons (.var 8) (.cons (.var 9) .nil))) (.un .isN (.var 10))) (.bin .ne (.un .isN (.var 11)) (.un .isN (.var 10))))
    (.cons (.ret (.cst (.bl false)))
    .nil)
    .nil)
    (.cons (.ifs (.and (.un .notN (.var 11)) (.or (.bin .ne (.un .len (.var 11)) (.var 10)) (.not (.call 1101 (.cons (.var 8) (.cons (.var 9) (.cons (.var 11) .nil)))))))
    (.cons (.ret (.cst (.bl false)))
    .nil)
    .nil)
    .nil)))
theorem pair_turn (n : Nat) {a b : Ru} (ga : Good a) (gb : Good b) (x0 x1 x2 x3 x4 x5 x6 x7 x10 x11 x12 : Option D) (mm : Mm) {QS : RS → Prop}
    (q : ∀ y10 y11, QS (.nx [x0, x1, x2, x3, x4, x5, x6, x7, some a.d, some b.d, y10, y11, x12] mm)) :
    WS (semB sub gv (callF sub T gv (n + 6)) pairB [x0, x1, x2, x3, x4, x5, x6, x7, some a.d, some b.d, x10, x11, x12] mm) QS := by
  obtain ⟨o, ho⟩ := pout_ex ga gb
  refine wb_cons (ws_par (we_call (wl_cons (we_var rfl (wl_cons (we_var rfl (wl_nil (wc_pure (fewest_is (n + 2) ga gb ho) (two_pure a b) (nD_pure o) ?_))))))))
  refine we_call (wl_cons (we_var rfl (wl_cons (we_var rfl (wl_nil (wc_pure (parting_ok (n + 1) ga gb ho) (two_pure a b) (oD_pure o) ?_))))))
  refine wb_cons (ws_if0 (we_or0 (we_bin (we_call (wl_cons (we_var rfl (wl_cons (we_var rfl (wl_nil (wc_pure (alike_ok (n + 1) ga gb ho) (two_pure a b) rfl (we_un (we_var rfl (isN_nD o (wo_neB ⟨by simp, ?_⟩))))))))))))))
  refine we_bin (we_un (we_var rfl (isN_oD o (we_un (we_var rfl (isN_nD o (wo_neB ⟨by simp, wb_nil ?_⟩)))))))
  cases o with
  | none => exact wb_cons (ws_if0 (we_and0 (we_un (we_var rfl (notN_oD none ⟨rfl, rfl, wb_nil (wb_nil (q _ _))⟩)))))
  | some v =>
    obtain ⟨w, e, rfl, hd, _⟩ := GOut.some (pr_step ga gb) (pr_zero ga gb) (pbf_lim ga gb) ho
    refine wb_cons (ws_if0 (we_and1 (we_un (we_var rfl (notN_oD (some (w ++ [e])) ⟨rfl, ?_⟩)))))
    refine we_or0 (we_bin (we_un (we_var rfl (wo_lenT (we_var rfl (wo_neI ⟨by simp, ?_⟩))))))
    refine we_not (we_call (wl_cons (we_var rfl (wl_cons (we_var rfl (wl_cons (we_var rfl (wl_nil (wc_pure (parts_ok (n + 2) ga gb hd) ?_ rfl ⟨true, rfl, rfl, wb_nil (wb_nil (q _ _))⟩)))))))))
    have h2 : pureD (oD (some (w ++ [e]))) = true := oD_pure _
    rw [pu_cons, pu_cons, pu_cons, h2]
    simp
abbrev cellB : B := (.cons (.asg 3 (.call 1000 (.cons (.var 1) (.cons (.cst (.int 45)) .nil))))
    (.cons (.asg 4 (.call 1004 (.cons (.var 3) .nil)))
    (.cons (.asg 5 (.call 11 (.cons (.var 4) .nil)))
    (.cons (.asg 6 (.bin .add (.bin .add (.bin .add (.tup (.cons (.bin .idx (.var 4) (.cst (.int 0))) (.cons (.cst (.str [115, 97, 109, 101])) (.cons (.cst (.str [115, 97, 109, 101])) .nil)))) (.slc (.var 4) (.cst (.int 3)) (.cst (.int 4)))) (.tup (.cons (.cst (.int 0)) .nil))) (.slc (.var 4) (.cst (.int 5)) .no)))
    (.cons (.asg 7 (.lst (.cons (.tup (.cons (.var 4) (.cons (.call 1002 (.cons (.var 3) (.cons (.var 5) .nil))) .nil))) (.cons (.tup (.cons (.var 4) (.cons (.call 1004 (.cons (.var 3) .nil)) .nil))) (.cons (.tup (.cons (.var 6) (.cons (.bin .add (.bin .add (.slc (.var 6) .no (.cst (.int 4))) (.tup (.cons (.bin .idx (.var 4) (.cst (.int 0))) .nil))) (.slc (.var 6) (.cst (.int 5)) .no)) .nil))) .nil)))))
    (.cons (.for (.tp [8, 9]) (.seq (.var 7)) pairB)
    .nil))))))
/-- the rule that never renews, without and with a cap -/
abbrev Rs (r : Ru) : Ru := ⟨r.c, tSame, tSame, r.o, 0, r.l, r.m, r.a, r.r⟩
abbrev Rt (r : Ru) : Ru := ⟨r.c, tSame, tSame, r.o, r.c, r.l, r.m, r.a, r.r⟩
theorem good_s {r : Ru} (g : Good r) : Good (Rs r) := ⟨g.c1, g.c2, .inr (.inr (.inr rfl)), .inr (.inr rfl), g.o1, g.o2, by show (0 : Int) ≤ 0; omega, by show (0 : Int) ≤ 8; omega, g.l, g.m, .inl rfl⟩
theorem good_t {r : Ru} (g : Good r) : Good (Rt r) := ⟨g.c1, g.c2, .inr (.inr (.inr rfl)), .inr (.inr rfl), g.o1, g.o2, by have := g.c1; show 0 ≤ r.c; omega, by have := g.c2; show r.c ≤ 8; omega, g.l, g.m, .inr (Int.le_refl _)⟩
theorem slc_34 {r : Ru} {mm : Mm} : slcS r.d (some 3) (some 4) mm = okE (.tup [.int r.o]) mm := rfl
theorem slc_5 {r : Ru} {mm : Mm} : slcS r.d (some 5) none mm = okE (.tup [.str r.l, .str r.m, .bl r.a, .bl r.r]) mm := rfl
theorem slc_04 {r : Ru} {mm : Mm} : slcS r.d none (some 4) mm = okE (.tup [.int r.c, .str r.b, .str r.p, .int r.o]) mm := rfl
theorem slc_08 {r : Ru} {mm : Mm} : slcS r.d none (some 8) mm = okE (.tup [.int r.c, .str r.b, .str r.p, .int r.o, .int r.k, .str r.l, .str r.m, .bl r.a]) mm := rfl
theorem cell_ok (n : Nat) (c : Int) (x0 x2 x3 x4 x5 x6 x7 x8 x9 x10 x11 x12 : Option D) (mm : Mm) {QS : RS → Prop}
    (q : ∀ y3 y4 y5 y6 y7 y8 y9 y10 y11 mm', QS (.nx [x0, some (.int c), x2, y3, y4, y5, y6, y7, y8, y9, y10, y11, x12] mm')) :
    WS (semB sub gv (callF sub T gv (n + 6)) cellB [x0, some (.int c), x2, x3, x4, x5, x6, x7, x8, x9, x10, x11, x12] mm) QS := by
  obtain ⟨o, ho, hs⟩ := sack_new (n + 5) c 45
  refine wb_cons (ws_asg (we_call (wl_cons (we_var rfl (wl_cons (we_cst (wl_nil (wc_new hs rfl ?_))))))))
  refine wb_cons (ws_asg (we_call (wl_cons (we_var rfl (wl_nil ?_)))))
  have hk0 : (mm ++ [M.mu o])[mm.length]? = some (.mu o) := by simp
  refine wc_dr1 (rule_dr (n + 3)) hk0 ho ?_
  rintro _ c1 ⟨r, g, rfl⟩ _ hc1
  have hk1 := has_set (c' := c1) hk0
  generalize (mm ++ [M.mu o]).set mm.length (.mu c1) = m1 at hk1
  generalize mm.length = k at hk1
  refine wb_cons (ws_asg (we_call (wl_cons (we_var rfl (wl_nil (wc_pure (near_good (n + 1) r (good_rule g)) (by simp) (by rw [pu_lst]; exact nearR_pure r) ?_))))))
  refine wb_cons (ws_asg (we_bin (we_bin (we_bin (we_tup (wl_cons (we_bin (we_var rfl (we_cst (WO.of (d := .int r.c) (mm := m1) rfl (wl_cons (we_cst (wl_cons (we_cst (wl_nil ?_)))))))))))))))
  refine we_slc (we_var rfl (we_cst ⟨some 3, rfl, we_cst ⟨some 4, rfl, WO.of slc_34 (wo_addT (by simp) ?_)⟩⟩))
  refine we_tup (wl_cons (we_cst (wl_nil (wo_addT (by simp) ?_))))
  refine we_slc (we_var rfl (we_cst ⟨some 5, rfl, we_no ⟨none, rfl, WO.of slc_5 (wo_addT (by simp) ?_)⟩⟩))
  show WS (semB _ _ _ _ [x0, some (.int c), x2, some (.m k), some r.d, some (.lst (nearR r)), some (Rs r).d, x7, x8, x9, x10, x11, x12] m1) QS
  refine wb_cons (ws_asg (we_lst (wl_cons (we_tup (wl_cons (we_var rfl (wl_cons (we_call (wl_cons (we_var rfl (wl_cons (we_var rfl (wl_nil ?_)))))))))))))
  refine wc_dr2 (one_dr (n + 4) (nearR r) (nearR_pure r) (nearR_pos g) (by have := nearR_len r; omega)) hk1 hc1 (by rw [pu_lst]; exact nearR_pure r) ?_
  intro v c2 hv _ hc2
  obtain ⟨ra, ga, rfl⟩ := nearR_good hv
  have hk2 := has_set (c' := c2) hk1
  generalize m1.set k (.mu c2) = m2 at hk2
  refine wl_nil (wl_cons (we_tup (wl_cons (we_var rfl (wl_cons (we_call (wl_cons (we_var rfl (wl_nil ?_)))))))))
  refine wc_dr1 (rule_dr (n + 3)) hk2 hc2 ?_
  rintro _ c3 ⟨rb, gb, rfl⟩ _ hc3
  have hk3 := has_set (c' := c3) hk2
  generalize m2.set k (.mu c3) = m3 at hk3
  refine wl_nil (wl_cons (we_tup (wl_cons (we_var rfl (wl_cons (we_bin (we_bin (we_slc (we_var rfl (we_no ⟨none, rfl, we_cst ⟨some 4, rfl, WO.of slc_04 (we_tup (wl_cons (we_bin (we_var rfl (we_cst (WO.of (d := .int r.c) (mm := m3) rfl (wl_nil (wo_addT (by simp) ?_))))))))⟩⟩))))))))))
  refine we_slc (we_var rfl (we_cst ⟨some 5, rfl, we_no ⟨none, rfl, WO.of slc_5 (wo_addT (by simp) ?_)⟩⟩))
  refine wl_nil (wl_nil ⟨by simp, ?_⟩)
  refine wb_cons (ws_for (wi_lst (we_var rfl ⟨[.tup [r.d, ra.d], .tup [r.d, rb.d], .tup [(Rs r).d, (Rt r).d]], rfl, ?_⟩)))
  refine wf_cons rfl (pair_turn n g ga _ _ _ _ _ _ _ _ _ _ _ m3 fun y10 y11 => ?_)
  refine wf_cons rfl (pair_turn n g gb _ _ _ _ _ _ _ _ _ _ _ m3 fun y10 y11 => ?_)
  refine wf_cons rfl (pair_turn n (good_s g) (good_t g) _ _ _ _ _ _ _ _ _ _ _ m3 fun y10 y11 => ?_)
  exact wf_nil (wb_nil (q _ _ _ _ _ _ _ _ _ _))
theorem law_ok (n : Nat) (ns : List Int) (h : ns.length ≤ 63) : ∃ new, callF sub T gv (n + 7) 1999 [.lst (ns.map .int)] [] = some (.rt (.bl true) [] new) := by
  refine ⟨[], callF_of T1999 rfl ?_⟩
  refine wb_cons (ws_for (wi_cells h rfl fun cs => ?_))
  refine wf_mem (fun sl _ => ∃ y1 y3 y4 y5 y6 y7 y8 y9 y10 y11, sl = [some (.lst (ns.map .int)), y1, none, y3, y4, y5, y6, y7, y8, y9, y10, y11, none]) _ _ _ ⟨none, none, none, none, none, none, none, none, none, none, rfl⟩ ?_ ?_
  · rintro x hx sl m ⟨y1, y3, y4, y5, y6, y7, y8, y9, y10, y11, rfl⟩
    obtain ⟨c, _, rfl⟩ := List.mem_map.mp hx
    exact ⟨_, rfl, cell_ok n c _ _ _ _ _ _ _ _ _ _ _ _ m fun z3 z4 z5 z6 z7 z8 z9 z10 z11 mm' => ⟨_, z3, z4, z5, z6, z7, z8, z9, z10, z11, rfl⟩⟩
  · rintro sl m ⟨y1, y3, y4, y5, y6, y7, y8, y9, y10, y11, rfl⟩
    refine wb_cons (ws_asg (WO.of (d := R0.d) (mm := m) rfl ?_))
    refine wb_cons (ws_if0 (we_bin (we_lc (fun _ => true) (fun d => match d with | .tup [_, _, _, _, y, _, _, _, _] => y | _ => .non) (wi_lst (we_call (wl_cons (we_var rfl (wl_nil (wc_pure (like_ok (n + 1)) rfl rfl ⟨_, rfl, by decide, fun v hv => ?_, ?_⟩)))))))))
    · refine ⟨_, rfl, we_cst ⟨rfl, rfl⟩, fun _ => ?_⟩
      simp only [capsL, List.mem_cons, List.not_mem_nil, or_false] at hv
      rcases hv with rfl | rfl | rfl | rfl | rfl | rfl <;> exact ⟨we_bin (we_var rfl (we_cst (WO.of (mm := m) rfl ⟨rfl, rfl⟩))), rfl⟩
    · refine WO.of (d := .lst [.int 3, .int 4, .int 5, .int 6, .int 7, .int 8]) (mm := m) rfl (wo_ne0 (v := .lst [.int 3, .int 4, .int 5, .int 6, .int 7, .int 8]) rfl rfl (by decide) ⟨rfl, wb_nil ?_⟩)
      obtain ⟨o, ho⟩ := pout_ex good0 goodb
      obtain ⟨v, rfl, hv⟩ := four_ok ho
      refine wb_cons (ws_ret (we_bin (we_un (we_call (wl_cons (we_var rfl (wl_cons (we_bin (we_slc (we_var rfl (we_no ⟨none, rfl, we_cst ⟨some 8, rfl, WO.of (slc_08 (r := R0)) (we_tup (wl_cons (we_cst (wl_nil (wo_addT (by simp) (wl_nil (wc_pure (parting_ok (n + 1) good0 goodb ho) rfl (oD_pure _) (wo_lenT (we_cst (wo_eqI ?_))))))))))⟩⟩)))))))))))
      have : ((v.map Ev.d).length : Int) = 4 := by rw [List.length_map, hv]; rfl
      rw [decide_eq_true this]
      rfl
end Mp
open PySem PySem.W
open PySem.Calls PyProof.Rows
namespace Mp
open PySem PySem.Spec
open PyProof.Rows L2
theorem law_facts {P : Program} {w : World} {K : PySem.W.Frag} {h : Heap} {mg : Str → Option Value} {f : Addr} (X : K.In h) (G : h.Ns mainGlobals mg) (hfa : mg ("law" : Str) = some (.ref f)) (c : He.SaysX md.fa md.fn [] [] md.ex w h K) (n : Nat)
    (hp : ∀ ns : List Int, ns.length ≤ 63 → ∃ new, callF sub T gv (n + 1) 1999 [.lst (ns.map .int)] [] = some (.rt (.bl true) [] new)) :
    ∃ (fd : FuncData) (sp : Sp), (∀ (s : Shared) (v : Value), BindsTo s fd ⟨[v], []⟩ [(("_law_script" : Str), v)]) ∧
      (∀ (H : Hp) (a : Addr) (ns : List Int), ns.length ≤ 63 → Only H → SqL K H a (ns.map V.int) → sp [.ref a] H (fun v _ => v = .bl true) fun _ _ _ => False) ∧
      ∀ base : Heap, K.In base → base.Ns mainGlobals mg → FnOk P w K mg base (L2.CX P w) (n + 1) f fd ["_law_script"] sp := by
  have S := stat (K := ⟨K, dN P w⟩) X G c chk binds subs
  have hd : md.ids.contains 1999 = true := by decide +kernel
  have more := c.more
  unfold Md.ex at more
  rw [Bool.and_eq_true] at more
  obtain ⟨fd, FD⟩ := He.SaysD.defs c.t.d (d := Md.defd d_l_law) (by
    show Md.defd (df 1999) ∈ md.fn
    exact List.mem_map_of_mem (by decide))
  have FD : FunD K "law" "law" d_l_law.args d_l_law.body d_l_law.scope [] [] (He.ga K "law") fd := FD
  have b := FunD.bindsA (ps := ["_law_script"]) FD fun _ _ _ _ _ _ us hl => match us, hl with | [_], _ => rfl
  have e1 : f = He.ga K "law" := by
    have hm : mg ("law" : Str) = some (.ref (He.ga K "law")) := He.glo_ok X G (He.SaysD.facts c.t.d (f := .glo "law") (List.mem_append_left _ (List.mem_map_of_mem (f := fun f => He.Fa.glo (md.df f).nm) (a := 1999) (by decide))))
    rw [hfa] at hm
    cases hm; rfl
  subst e1
  refine ⟨fd, spF (md.pg ⟨K, dN P w⟩ mg) (n + 1) 1999, fun s v => b s [v] rfl, fun H a ns hl _ hS => law_sp (p := md.pg ⟨K, dN P w⟩ mg) more.1 (show (md.T 1999).np = 1 by decide +kernel) hS (hp ns hl), fun base _ _ => ?_⟩
  exact fn_step (p := md.pg ⟨K, dN P w⟩ mg) (f := 1999) (d := d_l_law) rfl S (fns_ok rfl S n) FD c_l_law
end Mp
theorem PySem.Challenge.cw_coveranew_k08_rules_alike_and_parted_holds : PySem.Challenge.rw_coveranew_k08_rules_alike_and_parted.Holds := by
  have hp := Mp.law_ok 8
  w_on; o_law
  refine HandSHeadRun.head_any (r := OpenLaw.row PySem.Challenge.rw_coveranew_k08_rules_alike_and_parted) (q := view (OpenLaw.row PySem.Challenge.rw_coveranew_k08_rules_alike_and_parted).prog [46]) (H := Mp.hk) (ob := Mp.ob) (M := 20000) (loose := Mp.loose) (d := HandSHeadRun.topDef (OpenLaw.row PySem.Challenge.rw_coveranew_k08_rules_alike_and_parted).prog 46) (kwd := []) Mp.ob_eq
    (by kernel_rfl) (fun s => by kernel_rfl) Mp.run (by kernel_rfl) (by kernel_rfl) (by kernel_rfl) (by rfl) (by first | assumption | decide +kernel) (by decide +kernel) ⟨rfl, rfl, rfl, rfl, rfl, by decide +kernel⟩ ?hw ?hc
  case hw => w_witness2
  case hc =>
    refine Mp.walk_own (l := PySem.Challenge.rw_coveranew_k08_rules_alike_and_parted) (m := 63) (k := 15) (x := "_law_script") (CX := fun w => L2.CX (PySem.Challenge.rw_coveranew_k08_rules_alike_and_parted).prog w) rfl (by decide) (by kernel_rfl) ⟨rfl, by decide, by decide⟩ ?F (fun _ _ _ _ _ z => ?_)
    · intro w mg fa h Y G hmg0
      obtain ⟨K, KX, c⟩ := Y
      have hmg : mg ("law" : PySem.Str) = some (.ref fa) := by
        have e : (HandSHeadRun.topDef (OpenLaw.row PySem.Challenge.rw_coveranew_k08_rules_alike_and_parted).prog 46).name = ("law" : PySem.Str) := by kernel_rfl
        rw [← e]
        exact hmg0
      obtain ⟨fd, sp, hb, hsp, hF⟩ := Mp.law_facts (P := (PySem.Challenge.rw_coveranew_k08_rules_alike_and_parted).prog) (w := w) KX G hmg c 14 hp
      exact ⟨K, fd, sp, KX, hb, hsp, hF⟩
    · obtain ⟨_, _, _, _, _, _, _, _, _, _, _, _, z⟩ := z
      exact z
