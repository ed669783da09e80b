import PyProof.Rows.All
import Wide.All
import OpenK.AllK
import Wide.FinOn
import HandS.ForMost
import HandS.ForExc
import KE.KDictKeyed
import HandS.TupLen
import KE.KDictDisplayH
import HandS.ExcValue
import HandS.ExcIs
import KE.KExcStr
import KE.KExcMore
import HandS.ExcInit
import HandS.ExcField
import KE.KExcIs
import HandS.ClsMeth
import HandS.Defaults
import HandS.OwnEq
import HandS.Property
import HandS.Star
import HandS.MakeKw
import KE.KOpsOwn
import KE.KFmtOwn
import KE.KIsAll
import HandS.ExcOwn
import HandS.HeadHook1
import HandS.Deep
import HandS.TupAny
import HandS.TupMul
import HandS.IsInst
import HandS.Conv
import HandS.Strs
import HandS.RaiseMore
import KE.SortData
import KE.DatumOrd
import HandS.Zip
import KE.GoesZip
import KE.GoesMore
import HandS.TryMany
import HandS.More
import HandS.Style
import HandS.Codes
import HandS.Head0
import HandS.Head1
import HandS.Head2
import HandS.HeadEnd
import HandS.HeadHook2
import HandS.HeadHook4
import HandS.HeadNt
import PySem.Challenge.RW_coveranew_k13_whole_policies_and_rows
import KE.KStateDown
set_option Elab.async false
set_option linter.all false
set_option maxRecDepth 99999
set_option maxHeartbeats 0
/-! Md0: dicts whose keys are tuples of any depth, in the hand layer's heap: what they hold, and what is asked of them. -/
namespace Mp
open PySem PySem.Spec
open PyProof.Rows L2
/-- keys, where they lie, values -/
abbrev Nkv := List (NestedKey × Addr × V)
def RelN (p : NestedKey × Addr × V) (q : NestedKey × Addr × Value) : Prop := p.1 = q.1 ∧ p.2.1 = q.2.1 ∧ RelV p.2.2 q.2.2
/-- what the object o of a dict says -/
structure NObj (P : Program) (w : World) (a : Addr) (kvs : Nkv) (o : Obj) : Prop where
  size : kvs.length ≤ sizeLine
  ns : (a == sysModules) = false
  ex : o.ExactDict
  ents : ∃ (ys : List (NestedKey × Addr × Value)) (es : Array DictEntry) (ep : Nat), Paired RelN kvs ys ∧ o.data = .dict es ep ∧ es.toList = ys.map (entryOfKey (nestedKind P w)) ∧ (ys.map (·.1)).Nodup
/-- such a dict, as an object of the hand layer -/
def dN (P : Program) (w : World) (a : Addr) (o : Obj) (kvs : Nkv) : HO := .ext fun h => NObj P w a kvs o ∧ h.get? a = some o
mutual
/-- the value v is the key k -/
inductive KeyV (K : PySem.W.Frag) (H : Hp) : NestedKey → V → Prop
  | non : KeyV K H .none .non
  | num (i : Int) : KeyV K H (.num i) (.int i)
  | text (x : Str) : KeyV K H (.text x) (.str x)
  | tup {a : Addr} {vs : List V} {ks : List NestedKey} : SqT K H a vs → KeyVs K H ks vs → KeyV K H (.tup ks) (.ref a)
inductive KeyVs (K : PySem.W.Frag) (H : Hp) : List NestedKey → List V → Prop
  | nil : KeyVs K H [] []
  | cons {k : NestedKey} {v : V} {ks : List NestedKey} {vs : List V} : KeyV K H k v → KeyVs K H ks vs → KeyVs K H (k :: ks) (v :: vs)
end
section
variable {X : Cx} {pins : List (Addr × Obj)} {σ : L2.St} {H : Hp} {s : Shared}
mutual
theorem KeyV.is (I : Inv X pins σ H s) : ∀ (k : NestedKey) (v : V) (u : Value), KeyV X.K H k v → RelV v u → NestedIs s.heap k u
  | .none, _, u, h, r => by
    cases h
    have r : u = Value.none := r
    subst r; exact .none
  | .num i, _, u, h, r => by
    cases h
    obtain ⟨t, rfl⟩ := r
    exact .int i t
  | .text x, _, u, h, r => by
    cases h
    obtain ⟨t, rfl⟩ := r
    exact .text x t
  | .tup ks, _, u, h, r => by
    cases h with
    | tup hs hk =>
      obtain rfl : u = Value.ref _ := r
      obtain ⟨its, rv, ⟨o, ho, hc, n, hd⟩, _⟩ := I.tuple hs
      exact .tup ho hc hd (by simpa using KeyVs.is I ks _ its hk rv)
theorem KeyVs.is (I : Inv X pins σ H s) : ∀ (ks : List NestedKey) (vs : List V) (us : List Value), KeyVs X.K H ks vs → Vals vs us → NestedAll s.heap ks us
  | [], _, us, h, r => by
    cases h; cases r; exact .nil
  | k :: ks, _, us, h, r => by
    cases h with
    | cons h1 h2 =>
      cases r with
      | cons r1 r2 => exact .cons (KeyV.is I k _ _ h1 r1) (KeyVs.is I ks _ _ h2 r2)
end
/-- a key of a dict: a tuple, not too deep -/
def KeyA (K : PySem.W.Frag) (H : Hp) (k : NestedKey) (b : Addr) : Prop := KeyV K H k (.ref b) ∧ k.depth ≤ 8
theorem KeyA.is (I : Inv X pins σ H s) {k : NestedKey} {b : Addr} (h : KeyA X.K H k b) : (nestedKind X.prog X.w).is s.heap k b := ⟨KeyV.is I k _ _ h.1 rfl, h.2⟩
/-- a dict that is held, with its keys -/
def NAt (X : Cx) (H : Hp) (a : Addr) (o : Obj) (kvs : Nkv) : Prop := Rd H a (dN X.prog X.w a o kvs) ∧ ∀ q ∈ kvs, KeyA X.K H q.1 q.2.1
def atN (kvs : Nkv) (k : NestedKey) : Option V := (kvs.find? fun q => decide (q.1 = k)).map (·.2.2)
def putN (kvs : Nkv) (k : NestedKey) (b : Addr) (v : V) : Nkv := if (atN kvs k).isSome then kvs.map (fun q => if q.1 = k then (q.1, q.2.1, v) else q) else kvs ++ [(k, b, v)]
theorem relN_at {k : NestedKey} : ∀ {kvs : Nkv} {ys : List (NestedKey × Addr × Value)}, Paired RelN kvs ys → RelO (atN kvs k) ((atKey ys k).map (·.2))
  | _, _, .nil => trivial
  | p :: kvs, q :: ys, .cons r t => by
    have ih := relN_at (k := k) t
    by_cases e : p.1 = k
    · have e2 : q.1 = k := by rw [← r.1]; exact e
      simp only [atN, atKey, List.find?_cons, e, e2, decide_true, Option.map_some]
      exact r.2.2
    · have e2 : ¬ q.1 = k := by rw [← r.1]; exact e
      simpa [atN, atKey, List.find?_cons, e, e2] using ih
theorem relN_keys : ∀ {kvs : Nkv} {ys : List (NestedKey × Addr × Value)}, Paired RelN kvs ys → kvs.map (·.1) = ys.map (·.1) ∧ kvs.map (·.2.1) = ys.map (·.2.1)
  | _, _, .nil => ⟨rfl, rfl⟩
  | _, _, .cons r t => by
    obtain ⟨a, b⟩ := relN_keys t
    simp only [List.map_cons, a, b, r.1, r.2.1, and_self]
theorem relN_put {k : NestedKey} {b : Addr} {v : V} {u : Value} (rv : RelV v u) {kvs : Nkv} {ys : List (NestedKey × Addr × Value)} (r : Paired RelN kvs ys) : Paired RelN (putN kvs k b v) (storedH ys k b u) := by
  have q := relN_at (k := k) r
  have hs : (atN kvs k).isSome = (atKey ys k).isSome := by
    have := q.isSome_eq
    rw [Option.isSome_map] at this; exact this
  unfold putN storedH
  rw [hs]
  split
  · clear q hs
    rename_i h; clear h
    induction r with
    | nil => exact .nil
    | @cons p q ps qs h t ih =>
      refine .cons ?_ ih
      unfold putAt
      show RelN (if p.1 = k then (p.1, p.2.1, v) else p) _
      by_cases e : p.1 = k
      · rw [if_pos e, if_pos (by rw [← h.1]; exact e)]; exact ⟨h.1, h.2.1, rv⟩
      · rw [if_neg e, if_neg (by rw [← h.1]; exact e)]; exact h
  · clear q hs
    rename_i h; clear h
    induction r with
    | nil => exact .cons ⟨rfl, rfl, rv⟩ .nil
    | cons h t ih => exact .cons h ih
theorem putN_len (kvs : Nkv) (k : NestedKey) (b : Addr) (v : V) : (putN kvs k b v).length ≤ kvs.length + 1 := by
  unfold putN; split <;> simp
theorem NAt.obj (I : Inv X pins σ H s) {a : Addr} {o : Obj} {kvs : Nkv} (h : NAt X H a o kvs) : NObj X.prog X.w a kvs o ∧ s.heap.get? a = some o := (h.1.ok I.hok).1
/-- what a dict that is held is at the library's level -/
theorem NAt.dict (I : Inv X pins σ H s) {a : Addr} {o : Obj} {kvs : Nkv} (h : NAt X H a o kvs) : kvs.length ≤ sizeLine ∧ (a == sysModules) = false ∧ ∃ ys, Paired RelN kvs ys ∧ s.heap.DictOfH (nestedKind X.prog X.w) a ys := by
  obtain ⟨⟨z, hd, h2, ys, es, ep, r, h3, h4, h5⟩, h1⟩ := h.obj I
  refine ⟨z, hd, ys, r, o, es, ep, h1, h2, h3, h4, ?_, h5⟩
  have all : ∀ {l : Nkv} {m : List (NestedKey × Addr × Value)}, Paired RelN l m → (∀ q ∈ l, KeyA X.K H q.1 q.2.1) → ∀ y ∈ m, (nestedKind X.prog X.w).is s.heap y.1 y.2.1 := by
    intro l m q
    induction q with
    | nil => intro _ y hy; exact nomatch hy
    | @cons p q ps qs hq t ih =>
      intro hk y hy
      rcases List.mem_cons.mp hy with e | hy
      · subst e
        have := (hk p (by simp)).is I
        rw [hq.1, hq.2.1] at this
        exact this
      · exact ih (fun z hz => hk z (by simp [hz])) y hy
  exact all r h.2
theorem NAt.typeIs (I : Inv X pins σ H s) {a : Addr} {o : Obj} {kvs : Nkv} (h : NAt X H a o kvs) : s.TypeIs (.ref a) "dict" := by
  obtain ⟨_, _, ys, _, dd⟩ := h.dict I
  exact dd.typeIs
theorem NAt.noDict (I : Inv X pins σ H s) {a : Addr} {o : Obj} {kvs : Nkv} (h : NAt X H a o kvs) : ∀ b, Value.ref a = .ref b → ∃ ob, s.heap.get? b = some ob ∧ ob.dict = none := fun b q => by
  cases q
  obtain ⟨no, h1⟩ := h.obj I
  exact ⟨o, h1, no.ex.2.1⟩
theorem room_n {A : Around} (hu : A.units + 9 < cLine) : (nestedKind X.prog X.w).room A.in1 := by
  show A.in1.units + 8 < cLine
  have : A.in1.units = A.units + 1 := rfl
  omega
variable {a b : Addr} {ob : Obj} {kvs : Nkv} {k : NestedKey} {v d : V} {u r : Value} {A : Around} {E : Value → Shared → Prop}
theorem n_getItem {Q : Value → Shared → Prop} (hu : A.units + 9 < cLine) (I : Inv X pins σ H s) (g : NAt X H a ob kvs) (hk : KeyA X.K H k b) (l : atN kvs k = some v) (h : ∀ w' s', Inv X pins σ H s' → RelV v w' → Q w' s') :
    wpAny (model X.prog X.w) A (getItem (.ref a) (.ref b)) Q E s := by
  obtain ⟨z, hd, ys, rel, dd⟩ := g.dict I
  obtain ⟨w', hw, rw'⟩ := RelO.some_of (v := v) (o := (atKey ys k).map (·.2)) (by rw [← l]; exact relN_at rel)
  obtain ⟨p, hp, hp2⟩ := Option.map_eq_some_iff.mp hw
  refine wpAny_getItem_heap (room_n (X := X) hu) (hk.is I) dd hp ?_
  rw [hp2]
  exact h w' _ (I.tok _) rw'
theorem n_in {Q : Value → Shared → Prop} (hu : A.units + 9 < cLine) (I : Inv X pins σ H s) (g : NAt X H a ob kvs) (hk : KeyA X.K H k b) (h : ∀ s', Inv X pins σ H s' → Q (.bool (atN kvs k).isSome) s') :
    wpAny (model X.prog X.w) A (compareOp .In (.ref b) (.ref a)) Q E s := by
  obtain ⟨z, hd, ys, rel, dd⟩ := g.dict I
  refine wpAny_in_heap (room_n (X := X) hu) (hk.is I) hd dd ?_
  have q := (relN_at (k := k) rel).isSome_eq
  rw [Option.isSome_map] at q
  rw [← q]
  exact h _ (I.tok _)
theorem n_notIn {Q : Value → Shared → Prop} (hu : A.units + 9 < cLine) (I : Inv X pins σ H s) (g : NAt X H a ob kvs) (hk : KeyA X.K H k b) (h : ∀ s', Inv X pins σ H s' → Q (.bool (!(atN kvs k).isSome)) s') :
    wpAny (model X.prog X.w) A (compareOp .NotIn (.ref b) (.ref a)) Q E s := by
  obtain ⟨z, hd, ys, rel, dd⟩ := g.dict I
  refine wpAny_notIn_heap (room_n (X := X) hu) (hk.is I) hd dd ?_
  have q := (relN_at (k := k) rel).isSome_eq
  rw [Option.isSome_map] at q
  rw [← q]
  exact h _ (I.tok _)
theorem n_get2 {Q : Value → Shared → Prop} (hu : A.units + 9 < cLine) (I : Inv X pins σ H s) (g : NAt X H a ob kvs) (hk : KeyA X.K H k b) (rd : RelV d r) (h : ∀ w' s', Inv X pins σ H s' → RelV ((atN kvs k).getD d) w' → Q w' s') :
    wpAny (model X.prog X.w) A (call (.builtin "dict.get") [.ref a, .ref b, r]) Q E s := by
  obtain ⟨z, hd, ys, rel, dd⟩ := g.dict I
  refine call_meetsIn PySem.F.slot_dict_get dd.typeIs PySem.F.entry_dict_get (PySem.F.args_dict_get_3 _ _ _) (meetsH_dict_get_default (nestedKind X.prog X.w) a b hd r) ⟨room_n (X := X) hu, k, ys, hk.is I, dd, h _ _ (I.tok _) ?_⟩
  exact (relN_at rel).getD rd
theorem n_len {Q : Value → Shared → Prop} (I : Inv X pins σ H s) (g : NAt X H a ob kvs) (h : ∀ t s', Inv X pins σ H s' → Q (.int ((kvs.length : Nat) : Int) t) s') : wpAny (model X.prog X.w) A (call (.builtin "len") [.ref a]) Q E s := by
  obtain ⟨z, hd, ys, rel, dd⟩ := g.dict I
  have hl : kvs.length = ys.length := Paired.length rel
  refine call_len_dictH hd dd (by rw [← hl]; rw [sizeLine_eq] at z; omega) ?_
  rw [← hl]
  exact h _ _ (I.tok _)
/-- the object of a dict that is as it should be -/
theorem dN_ok {P : Program} {w : World} {H' : Hp} {h' : Heap} {ys : List (NestedKey × Addr × Value)} (z : kvs.length ≤ sizeLine) (hd : (a == sysModules) = false) (rel : Paired RelN kvs ys) (dd : h'.DictOfH (nestedKind P w) a ys) :
    ∃ o, ObjOk P w H' h' a (dN P w a o kvs) ∧ h'.get? a = some o := by
  obtain ⟨o, es, ep, h1, h2, h3, h4, _, h5⟩ := dd
  exact ⟨o, ⟨⟨⟨z, hd, h2, ys, es, ep, rel, h3, h4, h5⟩, h1⟩, ⟨o, h1⟩, fun g1 g2 p k => ⟨p.1, k o p.2⟩⟩, h1⟩
theorem n_setItem {Q : Unit → Shared → Prop} (hu : A.units + 9 < cLine) (I : Inv X pins σ H s) (g : H a = some (dN X.prog X.w a ob kvs)) (gk : ∀ q ∈ kvs, KeyA X.K H q.1 q.2.1) (hl : kvs.length < sizeLine) (hk : KeyA X.K H k b) (rv : RelV v r)
    (h : ∀ o' s', Inv X pins σ (upd H a (dN X.prog X.w a o' (putN kvs k b v))) s' → Q () s') : wpAny (model X.prog X.w) A (setItem (.ref a) (.ref b) r) Q E s := by
  obtain ⟨z, hd, ys, rel, dd⟩ := NAt.dict I ⟨.inl g, gk⟩
  have hz : ys.length ≤ sizeLine := by rw [← Paired.length rel]; exact z
  have hl : (putN kvs k b v).length ≤ sizeLine := by have := putN_len kvs k b v; omega
  refine wpAny_setItem_heap (hsz := hz) (room_n (X := X) hu) (hk.is I) dd fun h' dd' hs => ?_
  obtain ⟨o', ok, he⟩ := dN_ok (H' := H) hl hd (relN_put rv rel) dd'
  exact h o' _ (d_write I (by rw [g]; exact True.intro) hs ⟨o', he⟩ ok)
theorem n_empty {P : Program} {w : World} {H : Hp} (h : Heap) (hb : sysModules < h.objs.size) : ObjOk P w H (h.push { cls := .type "dict", data := .dict #[] }) h.objs.size (dN P w h.objs.size { cls := .type "dict", data := .dict #[] } []) :=
  ⟨⟨⟨Nat.zero_le _, beq_eq_false_iff_ne.mpr (Ne.symm (Nat.ne_of_lt hb)), ⟨rfl, rfl, rfl⟩, [], #[], 0, .nil, rfl, rfl, List.nodup_nil⟩, Heap.get?_push_size _ rfl⟩, ⟨_, Heap.get?_push_size _ rfl⟩, fun _ _ p k => ⟨p.1, k _ p.2⟩⟩
end
/-! ### displays -/
section
variable {X : Cx} {pos : Pos}
/-- {}, for keys of any depth -/
theorem pe_dnewN : PE X (.Dict [] [] pos) (fun _ H Q => ∀ q o, H q = none → Q (.ref q) (upd H q (dN X.prog X.w q o []))) := ⟨fun pins s σ H Q I h =>
  wpAny_Dict_empty ⟨.ref s.heap.objs.size, _, I.laid (a := s.heap.objs.size) (o := dN X.prog X.w s.heap.objs.size { cls := .type "dict", data := .dict #[] } []) (t' := s.toks) (fun _ _ q => Heap.get?_push_of_some _ q) (Nat.le_refl _) (n_empty s.heap I.big), rfl, h _ _ (I.hok.fresh (Nat.le_refl _))⟩⟩
end
/-! ### the keys, walked -/
/-- the keys of a dict that stands, in their order -/
def ItN (P : Program) (w : World) (d : Addr) (o : Obj) (kvs : Nkv) : It :=
  ⟨fun i H => Rd H d (dN P w d o kvs) ∧ i < kvs.length, fun i H x H' => H' = H ∧ ∃ q, kvs[i]? = some q ∧ x = .ref q.2.1, fun i H => Rd H d (dN P w d o kvs) ∧ kvs.length ≤ i⟩
theorem n_raw {P : Program} {w : World} {a : Addr} {kvs : Nkv} {o : Obj} (h : NObj P w a kvs o) : ∃ (es : Array DictEntry) (ep : Nat), o.data = .dict es ep ∧ es.size = kvs.length ∧ ∀ (i : Nat) (q : NestedKey × Addr × V), kvs[i]? = some q → ∃ en : DictEntry, es[i]? = some en ∧ en.key = .ref q.2.1 := by
  obtain ⟨_, _, _, ys, es, ep, r, h3, h4, _⟩ := h
  refine ⟨es, ep, h3, ?_, fun i q e => ?_⟩
  · have l1 : es.size = ys.length := size_of_entries h4
    have l2 : kvs.length = ys.length := Paired.length r
    omega
  · obtain ⟨y, hy, _, e2, _⟩ := paired_get r e
    have z := entry_at h4 i
    rw [hy] at z
    exact ⟨_, z, by rw [e2]; rfl⟩
theorem rdN_obj {X : Cx} {pins : List (Addr × Obj)} {σ : L2.St} {H : Hp} {s : Shared} {d : Addr} {o : Obj} {kvs : Nkv} (I : Inv X pins σ H s) (h : Rd H d (dN X.prog X.w d o kvs)) : NObj X.prog X.w d kvs o ∧ s.heap.get? d = some o := (h.ok I.hok).1
theorem turn_keysN {P : Program} {w : World} {K : PySem.W.Frag} {tg : Expr} {d : Addr} {o : Obj} {es : Array DictEntry} {ep : Nat} {kvs : Nkv} (it : Addr) (hod : o.data = .dict es ep) :
    Turn P w K tg (ItN P w d o kvs) [it] it (fun i h => h.IsKeyIter it d i kvs.length ep) where
  mem := by simp
  obj := fun i h st b hb => by
    obtain rfl : b = it := by simpa using hb
    obtain ⟨oi, e, _, dd⟩ := st
    exact ⟨oi, e, fun v z => by rw [dd] at z; cases z⟩
  keep := fun i h h' st k => st.at fun oi e => k it (by simp) oi e
  item := by
    intro X hP hw hK hc i pins s σ H E I hf st hg
    subst hP hw hK
    obtain ⟨hd, hi⟩ := hg
    obtain ⟨f0, f1, f2, f3, f4, f5⟩ := hf it (by simp)
    obtain ⟨no, hgd⟩ := rdN_obj I hd
    obtain ⟨es', ep', hdt, hsz, ent⟩ := n_raw no
    obtain ⟨rfl, rfl⟩ := dict_ep hod hdt
    obtain ⟨q, hq⟩ : ∃ q, kvs[i]? = some q := ⟨kvs[i], List.getElem?_eq_getElem hi⟩
    obtain ⟨en, hen, hkey⟩ := ent i q hq
    refine next_key_item st hgd hdt hsz hen fun h' st' sb => ?_
    have I1 : Inv X pins σ H { s with heap := h' } := I.turned (t' := s.toks) (fun b ob hb e => (sb.2 b hb).trans e) f0 f1 f3 f4 f5
    obtain ⟨oi, e, c, dd⟩ := id st'
    exact ⟨en.key, rfl, go_of (s := { s with heap := h' }) e c dd (by decide) ⟨.ref q.2.1, H, I1, hkey, ⟨rfl, q, hq, rfl⟩, st', fun b hb => (hf b hb).1⟩⟩
  done := by
    intro X hP hw hK hc i pins s σ H E I hf st hg
    subst hP hw hK
    obtain ⟨hd, hi⟩ := hg
    obtain ⟨f0, f1, f2, f3, f4, f5⟩ := hf it (by simp)
    obtain ⟨no, hgd⟩ := rdN_obj I hd
    obtain ⟨es', ep', hdt, hsz, ent⟩ := n_raw no
    obtain ⟨rfl, rfl⟩ := dict_ep hod hdt
    exact next_key_end (I.ok.hd hc) st hgd hdt hsz hi fun h' eb => ⟨rfl, I.turned (t' := s.toks) (fun b ob hb e => eb b ob hb e) f0 f1 f3 f4 f5⟩
  self := fun A i s Q E st h => by
    refine wpAny_pyIter_slot st.typeIs PySem.F.slot_dict_keyiterator_iter (wpAny_call_entry PySem.F.slot_dict_keyiterator_iter st.typeIs PySem.F.entry_dict_keyiterator_iter ?_ (PySem.F.args_dict_keyiterator_iter_1 _))
    show wpAny _ _ (ret (.ref it)) _ _ s
    exact wpAny_pure ⟨_, rfl, "dict_keyiterator", _, st.typeIs, PySem.F.slot_dict_keyiterator_next.lookup, h⟩
/-- for k in d -/
theorem pi_keysN {X : Cx} {tg e : Expr} {td : TE} (he : PE X e td) : PI X tg e (fun σ H R => td σ H fun x H1 => ∃ d o kvs, x = .ref d ∧ Rd H1 d (dN X.prog X.w d o kvs) ∧ R (ItN X.prog X.w d o kvs) H1) := by
  refine ⟨fun pins s σ H R I h => thn (he.run pins s σ H _ I h) fun u s1 ⟨x, H1, I1, rx, d, o, kvs, ex, hd, q⟩ => ?_⟩
  subst ex
  obtain rfl : u = Value.ref d := rx
  obtain ⟨no, hgd⟩ := rdN_obj I1 hd
  obtain ⟨es, ep, hdt, hsz, ent⟩ := n_raw no
  refine iter_keys no.ns hgd no.ex hdt (pi_one (tk := s1.toks) I1 _ (turn_keysN _ hdt) ⟨_, Heap.get?_push_size _ rfl, rfl, ?_⟩ q)
  rw [hsz] <;> rfl
end Mp
/-! Md1: dicts of either kind: a display of one pair, get, in, [], stores, len. -/
namespace Mp
open PySem PySem.Spec
open PyProof.Rows L2
section
variable {X : Cx} {pos : Pos}
theorem pe_disp1N {k v : Expr} {tk tv : TE} (hu : X.A.units + 9 < cLine) (hk : PE X k tk) (hv : PE X v tv) :
    PE X (.Dict [some k] [v] pos) (fun σ H Q => ∀ q o, H q = none → tk σ (upd H q (dN X.prog X.w q o [])) fun x H1 => tv σ H1 fun y H2 => H2 q = some (dN X.prog X.w q o []) ∧ ∃ key b, x = .ref b ∧ KeyA X.K H2 key b ∧
      ∀ o', Q (.ref q) (upd H2 q (dN X.prog X.w q o' [(key, b, y)]))) := by
  refine ⟨fun pins s σ H Q I h => ?_⟩
  have hn := I.hok.fresh (Nat.le_refl s.heap.objs.size)
  have I1 := I.laid (a := s.heap.objs.size) (o := dN X.prog X.w s.heap.objs.size { cls := .type "dict", data := .dict #[] } []) (h' := s.heap.push { cls := .type "dict", data := .dict #[] }) (t' := s.toks) (fun _ _ q => Heap.get?_push_of_some _ q) (Nat.le_refl _) (n_empty s.heap I.big)
  have hr : (nestedKind X.prog X.w).room X.A := by show X.A.units + 8 < cLine; omega
  rw [arm_eval_Dict, zip_pairTrees [some k] [v] X.env pos rfl rfl, dictDisplay_pairs (pairTrees [some k] [v] X.env pos) (by simp [pairTrees]) (by simp [pairTrees])]
  refine wpAny_bind (wpAny_standAt (wpAny_bind (wpAny_subDictH (knd := nestedKind X.prog X.w) (Q := fun d s' => wpAny (model X.prog X.w) X.A (pure (Value.ref d)) _ X.xe s') hr (by simp [pairTrees]) ?_)))
  refine pairTrees_cons_walk (thn (hk.run pins _ σ _ _ I1 (h _ _ hn)) fun u s1 ⟨x, H1, I1, rx, q1⟩ => thn (hv.run pins s1 σ H1 _ I1 q1) fun w2 s2 ⟨y, H2, I2, ry, q2⟩ => pairTrees_nil_walk ?_)
  obtain ⟨e, key, b, ex, ka, q3⟩ := q2
  subst ex
  obtain rfl : u = Value.ref b := rx
  obtain ⟨z, hd, ys, r0, dd⟩ := NAt.dict I2 (a := s.heap.objs.size) (kvs := []) ⟨.inl e, fun q h => nomatch h⟩
  cases r0
  refine ⟨[(key, b, w2)], ⟨rfl, rfl, ka.is I2, trivial⟩, dd, fun h' tk dd' hs => ?_⟩
  obtain ⟨o', ok, he⟩ := dN_ok (H' := H2) (kvs := [(key, b, y)]) (by rw [sizeLine_eq]; simp) hd (.cons ⟨rfl, rfl, ry⟩ .nil) dd'
  exact wpAny_pure ⟨.ref s.heap.objs.size, _, d_write I2 (by rw [e]; exact True.intro) hs ⟨o', he⟩ (show ObjOk X.prog X.w (upd H2 s.heap.objs.size (dN X.prog X.w s.heap.objs.size o' [(key, b, y)])) h' s.heap.objs.size (dN X.prog X.w s.heap.objs.size o' [(key, b, y)]) from ok), rfl, q3 o'⟩
end
/-- the object is a dict -/
def IsDN (X : Cx) (H : Hp) (a : Addr) : Prop := IsD H a ∨ ∃ o kvs, NAt X H a o kvs
/-- what the dict at a holds at the key y -/
def DG (X : Cx) (H : Hp) (a : Addr) (y : V) (r : Option V) : Prop := DGet H a y r ∨ ∃ o kvs k b, NAt X H a o kvs ∧ y = .ref b ∧ KeyA X.K H k b ∧ r = atN kvs k
section
variable {X : Cx} {pins : List (Addr × Obj)} {σ : L2.St} {H : Hp} {s : Shared} {a : Addr} {y z v : V} {u r : Value} {o : Option V} {A : Around} {E : Value → Shared → Prop}
theorem isDN_at (I : Inv X pins σ H s) (d : IsDN X H a) : s.TypeIs (.ref a) "dict" ∧ (∀ b, Value.ref a = .ref b → ∃ ob, s.heap.get? b = some ob ∧ ob.dict = none) ∧ (a == sysModules) = false := by
  rcases d with d | ⟨o, kvs, g⟩
  · exact isD_at I d
  · exact ⟨g.typeIs I, g.noDict I, (g.obj I).1.ns⟩
theorem DG.isDN (g : DG X H a y o) : IsDN X H a := by
  rcases g with g | ⟨ob, kvs, k, b, g, _⟩
  · rcases g with ⟨kvs, k, e, _⟩ | ⟨kvs, k, b, e, _⟩
    · exact .inl (.inl ⟨kvs, e⟩)
    · exact .inl (.inr ⟨kvs, e⟩)
  · exact .inr ⟨ob, kvs, g⟩
theorem dg_get1 {Q : Value → Shared → Prop} (hu : A.units + 9 < cLine) (I : Inv X pins σ H s) (g : DG X H a y o) (ry : RelV y u) (h : ∀ w' s', Inv X pins σ H s' → RelV (o.getD .non) w' → Q w' s') :
    wpAny (model X.prog X.w) A (call (.builtin "dict.get") [.ref a, u]) Q E s := by
  rcases g with g | ⟨ob, kvs, k, b, g, ey, hk, l⟩
  · exact d_get1 (by omega) I g ry h
  · subst ey
    obtain rfl : u = Value.ref b := ry
    obtain ⟨z, hd, ys, rel, dd⟩ := g.dict I
    refine call_meetsIn PySem.F.slot_dict_get dd.typeIs PySem.F.entry_dict_get (PySem.F.args_dict_get_2 _ _) (meetsH_dict_get (nestedKind X.prog X.w) a b hd) ⟨room_n (X := X) hu, k, ys, hk.is I, dd, h _ _ (I.tok _) ?_⟩
    rw [l]
    exact (relN_at rel).getD rfl
theorem dg_get2 {Q : Value → Shared → Prop} (hu : A.units + 9 < cLine) (I : Inv X pins σ H s) (g : DG X H a y o) (ry : RelV y u) (rd : RelV z r) (h : ∀ w' s', Inv X pins σ H s' → RelV (o.getD z) w' → Q w' s') :
    wpAny (model X.prog X.w) A (call (.builtin "dict.get") [.ref a, u, r]) Q E s := by
  rcases g with g | ⟨ob, kvs, k, b, g, ey, hk, l⟩
  · exact d_get2 (by omega) I g ry rd h
  · subst ey
    obtain rfl : u = Value.ref b := ry
    exact n_get2 hu I g hk rd fun w' s' I' r' => h w' s' I' (by rw [l]; exact r')
theorem dg_in {Q : Value → Shared → Prop} (hu : A.units + 9 < cLine) (I : Inv X pins σ H s) (g : DG X H a y o) (ry : RelV y u) (h : ∀ s', Inv X pins σ H s' → Q (.bool o.isSome) s') :
    wpAny (model X.prog X.w) A (compareOp .In u (.ref a)) Q E s := by
  rcases g with g | ⟨ob, kvs, k, b, g, ey, hk, l⟩
  · exact d_in (by omega) I g ry h
  · subst ey
    obtain rfl : u = Value.ref b := ry
    exact n_in hu I g hk fun s' I' => by rw [← l]; exact h s' I'
theorem dg_notIn {Q : Value → Shared → Prop} (hu : A.units + 9 < cLine) (I : Inv X pins σ H s) (g : DG X H a y o) (ry : RelV y u) (h : ∀ s', Inv X pins σ H s' → Q (.bool (!o.isSome)) s') :
    wpAny (model X.prog X.w) A (compareOp .NotIn u (.ref a)) Q E s := by
  rcases g with g | ⟨ob, kvs, k, b, g, ey, hk, l⟩
  · exact d_notIn (by omega) I g ry h
  · subst ey
    obtain rfl : u = Value.ref b := ry
    exact n_notIn hu I g hk fun s' I' => by rw [← l]; exact h s' I'
theorem dg_getItem {Q : Value → Shared → Prop} (hu : A.units + 9 < cLine) (I : Inv X pins σ H s) (g : DG X H a y (some v)) (ry : RelV y u) (h : ∀ w' s', Inv X pins σ H s' → RelV v w' → Q w' s') :
    wpAny (model X.prog X.w) A (getItem (.ref a) u) Q E s := by
  rcases g with g | ⟨ob, kvs, k, b, g, ey, hk, l⟩
  · exact d_getItem (by omega) I g ry h
  · subst ey
    obtain rfl : u = Value.ref b := ry
    exact n_getItem hu I g hk l.symm h
end
/-- d.get(k), d.get(k, x) -/
def tG1 (X : Cx) (td ty : TE) : TE := fun σ H Q => td σ H fun x H1 => ∃ a, x = .ref a ∧ IsDN X H1 a ∧ ty σ H1 fun y H2 => ∃ o, DG X H2 a y o ∧ Q (o.getD .non) H2
def tG2 (X : Cx) (td ty tx : TE) : TE := fun σ H Q => td σ H fun x H1 => ∃ a, x = .ref a ∧ IsDN X H1 a ∧ ty σ H1 fun y H2 => tx σ H2 fun z H3 => ∃ o, DG X H3 a y o ∧ Q (o.getD z) H3
section
variable {X : Cx} {o e f : Expr} {apos cpos : Pos} {td ty tx : TE}
theorem pe_g1 (hu : X.A.units + 9 < cLine) (ho : PE X o td) (he : PE X e ty) (m : M1 X o "get" apos e cpos) : PE X (.Call (.Attribute o "get" apos) [e] [] cpos) (tG1 X td ty) := by
  refine ⟨fun pins s σ H Q I h => wpAny_Call_method m.base m.few m.line PySem.F.plainAttrs_dict PySem.F.slot_dict_get PySem.F.type_dict_get (thn (ho.run pins s σ H _ I h) fun u s1 ⟨x, H1, I1, rx, a, ex, d, q1⟩ => ?_)⟩
  subst ex
  obtain rfl : u = Value.ref a := rx
  obtain ⟨t1, t2, _⟩ := isDN_at I1 d
  refine ⟨t1, t2, ?_⟩
  rw [m.trees]
  refine Calls.callWith_builtin rfl (Calls.evalArgs_plain (Calls.spliced_cons (thn (he.run pins s1 σ H1 _ I1 q1) fun iv s2 ⟨y, H2, I2, ry, ov, g, q2⟩ => Calls.spliced_nil ?_)))
  exact dg_get1 hu I2 g ry fun w' s3 I3 rw' => ⟨_, H2, I3, rw', q2⟩
theorem pe_g2 (hu : X.A.units + 9 < cLine) (ho : PE X o td) (he : PE X e ty) (hf : PE X f tx) (m : M2 X o "get" apos e f cpos) : PE X (.Call (.Attribute o "get" apos) [e, f] [] cpos) (tG2 X td ty tx) := by
  refine ⟨fun pins s σ H Q I h => wpAny_Call_method m.base m.few m.line PySem.F.plainAttrs_dict PySem.F.slot_dict_get PySem.F.type_dict_get (thn (ho.run pins s σ H _ I h) fun u s1 ⟨x, H1, I1, rx, a, ex, d, q1⟩ => ?_)⟩
  subst ex
  obtain rfl : u = Value.ref a := rx
  obtain ⟨t1, t2, _⟩ := isDN_at I1 d
  refine ⟨t1, t2, ?_⟩
  rw [m.trees]
  refine Calls.callWith_builtin rfl (Calls.evalArgs_plain (Calls.spliced_cons (thn (he.run pins s1 σ H1 _ I1 q1) fun iv s2 ⟨y, H2, I2, ry, q2⟩ =>
    Calls.spliced_cons (thn (hf.run pins s2 σ H2 _ I2 q2) fun fv s3 ⟨z, H3, I3, rz, ov, g, q3⟩ => Calls.spliced_nil ?_))))
  exact dg_get2 hu I3 g ry rz fun w' s4 I4 rw' => ⟨_, H3, I4, rw', q3⟩
end
section
variable {X : Cx}
/-- len of a dict of either kind -/
def rLenD (X : Cx) : List V → Hp → VK → Prop := fun xs H Q => ∃ (a : Addr) (n : Nat), xs = [.ref a] ∧ ((∃ kvs, Rd H a (.dK kvs) ∧ n = kvs.length) ∨ ∃ o kvs, NAt X H a o kvs ∧ n = kvs.length) ∧ Q (.int ((n : Nat) : Int)) H
theorem call_lenD : CallR X (.builtin "len") (rLenD X) := by
  intro pins s σ H xs us Q I r h
  obtain ⟨a, n, rfl, g, q⟩ := h
  obtain ⟨u, rfl, rx⟩ := vals1 r
  obtain rfl : u = .ref a := rx
  rcases g with ⟨kvs, e, rfl⟩ | ⟨o, kvs, g, rfl⟩
  · exact d_len I e fun t s' I' => ⟨.int ((kvs.length : Nat) : Int), H, I', ⟨t, rfl⟩, q⟩
  · exact n_len I g fun t s' I' => ⟨.int ((kvs.length : Nat) : Int), H, I', ⟨t, rfl⟩, q⟩
/-- in, not in, [] -/
def rInG (X : Cx) : R2 := fun y x H Q => ∃ a o, x = .ref a ∧ DG X H a y o ∧ Q (.bl o.isSome) H
def rNinG (X : Cx) : R2 := fun y x H Q => ∃ a o, x = .ref a ∧ DG X H a y o ∧ Q (.bl (!o.isSome)) H
def rIxG (X : Cx) : R2 := fun x y H Q => ∃ a v, x = .ref a ∧ DG X H a y (some v) ∧ Q v H
theorem op_inG (hu : X.A.units + 9 < cLine) : OpR X (compareOp .In) (rInG X) := by
  intro pins s σ H x y v u Q I rx ry h
  obtain ⟨a, ov, rfl, g, q⟩ := h
  obtain rfl : u = Value.ref a := ry
  exact dg_in hu I g rx fun s3 I3 => ⟨.bl ov.isSome, H, I3, rfl, q⟩
theorem op_ninG (hu : X.A.units + 9 < cLine) : OpR X (compareOp .NotIn) (rNinG X) := by
  intro pins s σ H x y v u Q I rx ry h
  obtain ⟨a, ov, rfl, g, q⟩ := h
  obtain rfl : u = Value.ref a := ry
  exact dg_notIn hu I g rx fun s3 I3 => ⟨.bl (!ov.isSome), H, I3, rfl, q⟩
theorem ix_dictG (hu : X.A.units + 9 < cLine) : IxR X (rIxG X) := by
  intro value slice pins s σ H x y v u Q I rx ry h hs
  obtain ⟨a, w, rfl, g, q⟩ := h
  obtain rfl : v = Value.ref a := rx
  have hT := (isDN_at I g.isDN).1
  unfold subscriptTail
  refine wpAny_bind ?_
  rw [getitemInPython_of_ne hT.not_modules]
  refine wpAny_bind (wpAny_specialOf hT PySem.F.slot_dict_getitem.lookup ?_)
  have fin : wpAny (model X.prog X.w) X.A (subscripted slice false (.ref a) u) (fun r s₃ => wpAny (model X.prog X.w) X.A (letTemporaryGo value (.ref a) r >>= fun _ => pure r) (EP X pins σ Q) X.xe s₃) X.xe s := by
    rw [hs]
    exact wpAny_operating (dg_getItem hu I g ry fun w' s3 I3 rw' => wpAny_bind (wpAny_letTemporaryGo (wpAny_pure ⟨w, H, I3, rw', q⟩)))
  first
    | exact wpAny_pure (wpAny_bind fin)
    | exact wpAny_bind (wpAny_pure (wpAny_bind fin))
    | exact wpAny_bind fin
/-- d[k] = v -/
def sSt (X : Cx) (td ty tv : TE) : TS := fun D σ H => tv σ H fun v H1 => td σ H1 fun x H2 => ty σ H2 fun y H3 => ∃ a, x = .ref a ∧ ((∃ H4, DPut H3 a y v H4 ∧ D.nx σ H4) ∨
  ∃ o kvs k b, H3 a = some (dN X.prog X.w a o kvs) ∧ (∀ q ∈ kvs, KeyA X.K H3 q.1 q.2.1) ∧ kvs.length < sizeLine ∧ y = .ref b ∧ KeyA X.K H3 k b ∧ ∀ o', D.nx σ (upd H3 a (dN X.prog X.w a o' (putN kvs k b v))))
theorem ps_st {o i value : Expr} {pos pos' : Pos} {td ty tv : TE} (hu : X.A.units + 9 < cLine) (ho : PE X o td) (hi : PE X i ty) (hv : PE X value tv) (hs : swapsWith value (some (.Subscript o i pos')) pos.line X.env = pure false) :
    PS X (.Assign [.Subscript o i pos'] value pos) (sSt X td ty tv) := by
  refine ⟨fun pins s σ H D I h => wpAny_Assign_Subscript (thn (hv.run pins s σ H _ I h) fun r s1 ⟨v, H1, I1, rv, q1⟩ => thn (ho.run pins s1 σ H1 _ I1 q1) fun u s2 ⟨x, H2, I2, rx, q2⟩ => thn (hi.run pins s2 σ H2 _ I2 q2) fun iv s3 ⟨y, H3, I3, ry, a, ex, q3⟩ => ?_) hs⟩
  subst ex
  obtain rfl : u = Value.ref a := rx
  rcases q3 with ⟨H4, g, q3⟩ | ⟨ob, kvs, k, b, g, gk, hl, ey, hk, q3⟩
  · exact d_setItem (by omega) I3 g ry rv fun s4 I4 => ⟨σ, H4, I4, q3⟩
  · subst ey
    obtain rfl : iv = Value.ref b := ry
    exact n_setItem hu I3 g gk hl hk rv fun o' s4 I4 => ⟨σ, _, I4, q3 o'⟩
end
end Mp
/-! Mx0: exceptions of own classes as values, with their message: made, in the hand layer's heap. -/
namespace Mp
open PySem PySem.Spec
open PyProof.Rows L2
/-- an exception of the class C, its arguments at t0, not raised -/
def ExV (C a t0 : Addr) : HO := .ext fun h => h.get? a = some { cls := .ref C, data := .fields #[.ref t0, .none, .none, .none, .bool false, .none] }
theorem exv_ok {P : Program} {w : World} {H : Hp} {h : Heap} {a C t0 : Addr} (e : h.get? a = some { cls := .ref C, data := .fields #[.ref t0, .none, .none, .none, .bool false, .none] }) : ObjOk P w H h a (ExV C a t0) :=
  ⟨e, ⟨_, e⟩, fun _ _ q kp => kp _ q⟩
section
variable {fs ex : List Addr} {H : Hp} {h h' : Heap} {a b : Addr} {o u : HO}
/-- two new objects laid at once -/
theorem Un_laid2 (k : ∀ c v, h.get? c = some v → h'.get? c = some v) (ha : h.get? a = none) (hna : H a = none) (hb : h.get? b = none) (hnb : H b = none) : Un fs ex H (upd (upd H a o) b u) h h' where
  keep := fun c v q _ _ _ => k c v q
  slot := fun c v q _ _ _ => ⟨v.slots, k c v q⟩
  free := fun c v q n _ => by rw [upd_ne (fun z => by rw [z, hb] at q; cases q), upd_ne (fun z => by rw [z, ha] at q; cases q)]; exact n
  there := fun c v q _ => ⟨v, k c v q⟩
  tups := fun c xs q => by rw [upd_ne (ne_of_none q hnb), upd_ne (ne_of_none q hna)]; exact q
  frzs := fun c v xs q => by rw [upd_ne (ne_of_none q hnb), upd_ne (ne_of_none q hna)]; exact q
  tbls := fun c ps q => ⟨#[], by rw [upd_ne (ne_of_none q hnb), upd_ne (ne_of_none q hna), q]; simp⟩
end
section
variable {X : Cx}
/-- C(e), an own exception class without own __init__, a text -/
theorem pe_exv {C : Addr} {bmB : List Value} {B newId initId : String} {x : Str} {e : Expr} {ta : TE} {p pos : Pos} (F : ExcBaseFacts B newId initId bmB) (q : PySem.W.excIn X.K C bmB newId = true) (gC : X.mg x = some (.ref C)) (kC : PySem.W.keepIn X.K (.ref C) = true) (hg : Gl X x)
    (he : PE X e ta) (hs : starEach [e] X.env = (false, eval e X.env) :: starEach [] X.env := by rfl) (hdb : (x == ("__debug__" : Str)) = false := by decide) :
    PE X (.Call (.Name x p) [e] [] pos) (fun σ H Q => ta σ H fun v H1 => ∃ m, v = .str m ∧ ∀ t a, H1 t = none → H1 a = none → a ≠ t → Q (.ref a) (upd (upd H1 t (.tup [.str m])) a (ExV C a t))) := by
  refine ⟨fun pins s σ H Q I h => ?_⟩
  refine wpAny_Call_Name_kw (ld_glob I hg gC ?_ hdb)
  refine PySem.W.callWith_K (h₀ := X.base) I.ok.mod.kin kC ?_ hs (by rfl)
  rw [hs]
  show wpAny _ _ (spliced ((false, eval e X.env) :: backTo pos (starEach [] X.env))) _ _ s
  refine Calls.spliced_cons (thn (he.run pins s σ H _ I h) fun u s1 ⟨v, H1, I1, r1, m, hv, q1⟩ => ?_)
  refine Calls.spliced_nil ⟨I1.kIn, ?_⟩
  subst hv
  obtain ⟨tk, rfl⟩ : ∃ tk, u = Value.str m tk := r1
  show wpAny _ _ (call (.ref C) [.str m tk]) _ _ _
  obtain ⟨bm, N, nm, qn, bs, hdct, sn, sub, ab, col, dd, k0, k1, k2, k3, k5, mN, hC, hN, hni, T⟩ := exc_obj I1.kIn q
  refine wpAny_call_exc_subT F T hC hN hni (fun h' a hm => ?_) (by show 1 ≤ sizeLine; rw [sizeLine_eq]; omega)
  have hn : H1 a = none := I1.hok.gone hm.new
  obtain ⟨t, ht, htn, htt⟩ := hm.there
  have hnt : H1 t = none := I1.hok.gone htn
  have hat : a ≠ t := fun e => by
    rw [e] at ht
    rw [ht] at htt
    cases htt
  have k1 : HOk X.prog X.w (upd H1 t (.tup [.str m])) h' := I1.hok.laidN hm.keeps hnt ⟨by show 1 ≤ sizeLine; rw [sizeLine_eq]; omega, [Value.str m tk], .cons ⟨tk, rfl⟩ .nil, ⟨_, htt, rfl, _, rfl⟩⟩
  have k2 : HOk X.prog X.w (upd (upd H1 t (.tup [.str m])) a (ExV C a t)) h' := k1.laidN (fun _ _ q => q) (by rw [upd_ne hat]; exact hn) (exv_ok ht)
  exact ⟨.ref a, _, I1.un (Un_laid2 hm.keeps htn hnt hm.new hn) k2, rfl, q1 t a hnt hn hat⟩
theorem exv_at {pins : List (Addr × Obj)} {σ : L2.St} {H : Hp} {s : Shared} {a C t0 : Addr} (I : Inv X pins σ H s) (ha : Rd H a (ExV C a t0)) : s.heap.get? a = some { cls := .ref C, data := .fields #[.ref t0, .none, .none, .none, .bool false, .none] } :=
  (ha.ok I.hok).1
/-- isinstance(e, c), e such an exception -/
def rIsV (K : PySem.W.Frag) : List V → Hp → VK → Prop := fun xs H Q => ∃ (a D t0 : Addr) (c : V) (cv : Value) (b : Bool), xs = [.ref a, c] ∧ Rd H a (ExV D a t0) ∧ L2.ExcC K D ∧ (∀ u, RelV c u → u = cv) ∧ PySem.W.kitOne K (.ref D) cv = some b ∧ Q (.bl b) H
theorem call_isV : CallR X (.builtin "isinstance") (rIsV X.K) := by
  intro pins s σ H xs us Q I r h
  obtain ⟨a, D, t0, c, cv, b, rfl, ha, C, hcv, e, q⟩ := h
  cases r with
  | cons rx rr =>
    cases rr with
    | cons rt rr =>
      cases rr
      cases rx
      have ec := hcv _ rt
      subst ec
      have hget := exv_at I ha
      have J : PySem.W.InstAt s.heap a _ D none := ⟨hget, rfl, rfl, trivial⟩
      exact PySem.W.kia_one (PySem.W.handS_kitx_exc C.hg C.hk C.hs C.hd C.ha C.hn C.ht C.hm) I.kIn J e (fun z => nomatch z) fun tk => ⟨.bl b, H, I.kept (t' := tk) fun _ _ z => z, rfl, q⟩
/-- str(e), e such an exception with one text -/
theorem call_strV (hu : X.A.units + 2 < cLine) : CallR X (.type "str") (fun xs H Q => ∃ (a C t0 : Addr) (m : Str), xs = [.ref a] ∧ Rd H a (ExV C a t0) ∧ SqT X.K H t0 [.str m] ∧ PySem.W.findIn X.K (.ref C) "__str__" = some (some (.builtin "BaseException.__str__")) ∧ PySem.W.subIn X.K (.ref C) (.type "BaseException") = some true ∧ Q (.str m) H) := by
  intro pins s σ H xs us Q I r h
  obtain ⟨a, C, t0, m, rfl, ha, ht, hs, hB, q⟩ := h
  obtain ⟨u, rfl, r1⟩ := vals1 r
  cases r1
  have hget := exv_at I ha
  obtain ⟨its, rv, ⟨o, ho, hc, n, hd⟩, _⟩ := I.tuple ht
  obtain ⟨v, rfl, tk, rfl⟩ := vals1 rv
  refine PySem.P.str_of_C_one (C := C) (e := a) (t0 := t0) (m := m) (tk := tk) hu ⟨I.kIn, _, _, hget, rfl, rfl, rfl⟩ ⟨o, n, ho, hc, hd⟩ hs hB ?_
  exact ⟨.str m, H, I, ⟨_, rfl⟩, q⟩
end
end Mp
/-! Mx1: exceptions of own classes with own __init__ as values: made; isinstance. -/
namespace Mp
open PySem PySem.Spec PyProof.Rows L2 PySem.OEX
section
variable {X : Cx} {e : Expr} {es : List Expr} {ta : TA} {p pos : Pos}
theorem pe_oexv {CX : CXT} {x : Str} {C fI : Addr} {k : Nat} {fd : FuncData} {ps : List Str} {sp : Sp} {ds : List Value} {dvs : List V} (T : OexC X.K C) (iC : PySem.W.findIn X.K (.ref C) "__init__" = some (some (.ref fI))) (tI : PySem.W.typeIn X.K (.ref fI) = some (.type "function"))
    (F1 : FnOk X.prog X.w X.K X.mg X.base CX k fI fd ps sp) (hr : Room (k + 1) X.A) (hb : Binds X.K fd ps ds) (hd : Vals dvs ds) (hx : Passes CX X (fun _ _ _ => False)) (hg : Gl X x) (hm : X.mg x = some (.ref C)) (ha : PA X (e :: es) ta)
    (hdb : (x == ("__debug__" : Str)) = false := by decide) (he : starEach (e :: es) X.env = (false, eval e X.env) :: starEach es X.env := by rfl) (hpl : (backTo pos (starEach es X.env)).any (·.1) = false := by rfl) :
    PE X (.Call (.Name x p) (e :: es) [] pos) (fun σ H Q => ta σ H fun vs H1 => vs.length ≤ 1000 ∧ ∀ a, H1 a = none → sp (.ref a :: (vs ++ dvs)) (upd H1 a (exo a C none)) (fun v H2 => v = .non ∧ Q (.ref a) H2) (fun _ _ _ => False)) := by
  refine ⟨fun pins s σ H Q I h => ?_⟩
  obtain ⟨nm, q, N, bs, bm, sn, sub, ab, col, dd, k0, k1, k2, k3, k5, hC, hbm⟩ := T.cls
  refine wpAny_Call_Name_kw (ld_glob I hg hm ?_ hdb)
  refine PySem.W.callWith_K (h₀ := X.base) I.ok.mod.kin T.kC (thn (ha.run pos pins s σ H _ I h) fun us s1 ⟨vs, H1, I1, r1, hz, q1⟩ => ⟨I1.kIn, ?_⟩) he hpl
  show wpAny _ _ (call (.ref C) us) _ _ _
  obtain ⟨hp, g, dr, tk, os⟩ := s1
  have hsz : hp.objs.size ≤ hp.objs.size + 1 := Nat.le_succ _
  have hn : H1 (hp.objs.size + 1) = none := I1.hok.fresh hsz
  have hq := q1 (hp.objs.size + 1) hn
  have kk : ∀ b o, hp.get? b = some o → ((hp.push (PySem.W.kdv_tup us)).push (PySem.HandSPX.excO C hp.objs.size)).get? b = some o := fun b o e => Heap.get?_push_of_some _ (Heap.get?_push_of_some _ e)
  have hget : ((hp.push (PySem.W.kdv_tup us)).push (PySem.HandSPX.excO C hp.objs.size)).get? (hp.objs.size + 1) = some (PySem.HandSPX.excO C hp.objs.size) := by heap_get
  have I2 : Inv X pins σ (upd H1 (hp.objs.size + 1) (exo (hp.objs.size + 1) C none)) ⟨(hp.push (PySem.W.kdv_tup us)).push (PySem.HandSPX.excO C hp.objs.size), g, dr, tk, os⟩ :=
    I1.laid (t' := tk) (a := hp.objs.size + 1) (o := exo (hp.objs.size + 1) C none) (h' := (hp.push (PySem.W.kdv_tup us)).push (PySem.HandSPX.excO C hp.objs.size)) kk hsz (exo_ok hget)
  have r2 : Vals (V.ref (hp.objs.size + 1) :: (vs ++ dvs)) (Value.ref (hp.objs.size + 1) :: (us ++ ds)) := .cons rfl (r1.append hd)
  have hl : (Value.ref (hp.objs.size + 1) :: us ++ ds).length = ps.length := by
    have e := r2.length
    rw [F1.len _ _ _ _ hq] at e
    exact e.symm
  have hus : us.length ≤ sizeLine := by
    rw [← Paired.length r1, sizeLine_eq]
    omega
  refine wpAny_call (PySem.HandSPX.call_own F.excBase_ValueError (fun Y => PySem.HandSPX.refsVE_contains Y bm hbm) (I1.kIn _ _ hC) (PySem.W.looks_findIn I1.kIn iC) (fun self => PySem.W.bind_fn I1.kIn self tI) hus
    (codeAny_mono (F1.run _ X.stack _ _ ⟨Value.ref (hp.objs.size + 1) :: us, []⟩ (Value.ref (hp.objs.size + 1) :: (us ++ ds)) _ _ (fun _ _ _ => False) (hr.make C us []) (I2.env0.make C us []) (hb _ (Value.ref (hp.objs.size + 1) :: us) I2.kIn hl) r2 hq) fun r s' hq' => ?_))
  cases r with
  | error er => exact hx pins σ _ _ er s' I2 hq'
  | ok fl =>
    cases fl with
    | ret u =>
      obtain ⟨v, H', I3, rv, ev, q3⟩ := I2.after hq'
      subst ev
      exact ⟨rv, ⟨V.ref (hp.objs.size + 1), H', I3, rfl, q3⟩⟩
    | next => exact False.elim hq'
    | brk => exact False.elim hq'
    | cont => exact False.elim hq'
end
section
variable {X : Cx}
theorem exo_rd {pins : List (Addr × Obj)} {σ : L2.St} {H : Hp} {s : Shared} {e C : Addr} {d : Option Addr} (I : Inv X pins σ H s) (he : Rd H e (exo e C d)) : ∃ t1 : Addr, s.heap.get? e = some ({ cls := .ref C, dict := d, data := .fields #[.ref t1, .none, .none, .none, .bool false, .none] } : Obj) := by
  have x : ObjOk X.prog X.w H s.heap e (exo e C d) := he.ok I.hok
  unfold exo at x
  exact x.1
theorem exd_rd {pins : List (Addr × Obj)} {σ : L2.St} {H : Hp} {s : Shared} {dx : Addr} {fs : List (Str × V)} (I : Inv X pins σ H s) (he : Rd H dx (exd dx fs)) : ∃ mA, s.heap.Ns1 dx mA ∧ ∀ f, RelO (fs.lookup f) (mA f) := by
  have x : ObjOk X.prog X.w H s.heap dx (exd dx fs) := he.ok I.hok
  unfold exd at x
  exact x.1
theorem exo_inst {pins : List (Addr × Obj)} {σ : L2.St} {H : Hp} {s : Shared} {a C d : Addr} {fs : List (Str × V)} (I : Inv X pins σ H s) (ea : Rd H a (exo a C (some d))) (ed : Rd H d (exd d fs)) :
    ∃ (oe od : Obj) (mA : Str → Option Value), PySem.W.InstAt s.heap a oe C (some od) ∧ (∀ f, PySem.W.lookIn f od = some (mA f)) ∧ ∀ f, RelO (fs.lookup f) (mA f) := by
  obtain ⟨t1, hg⟩ := exo_rd I ea
  obtain ⟨mA, hns, hr⟩ := exd_rd I ed
  obtain ⟨od, ho, hl⟩ := lookIn_ns hns
  exact ⟨_, od, mA, ⟨hg, rfl, rfl, ho⟩, hl, hr⟩
/-- isinstance(e, c), e an exception with own attributes -/
theorem call_isO : CallR X (.builtin "isinstance") (fun xs H Q => ∃ (a D d : Addr) (fs : List (Str × V)) (c : V) (cv : Value) (b : Bool), xs = [.ref a, c] ∧ Rd H a (exo a D (some d)) ∧ Rd H d (exd d fs) ∧ L2.ExcC X.K D ∧ (∀ u, RelV c u → u = cv) ∧ PySem.W.kitOne X.K (.ref D) cv = some b ∧ Q (.bl b) H) := by
  intro pins s σ H xs us Q I r h
  obtain ⟨a, D, d, fs, c, cv, b, rfl, ea, ed, C, hcv, e, q⟩ := h
  cases r with
  | cons rx rr =>
    cases rr with
    | cons rt rr =>
      cases rr
      cases rx
      have ec := hcv _ rt
      subst ec
      obtain ⟨oe, od, mA, J, _, _⟩ := exo_inst I ea ed
      have hcl : (PySem.W.clsIn X.K D).isSome = true := by
        obtain ⟨cd, hc, _⟩ := PySem.W.any_some C.hd
        rw [hc]; rfl
      exact PySem.W.kia_one (PySem.W.kitx_exc hcl C.hg C.hk C.hs C.ha C.hn C.ht C.hm) I.kIn J e (fun z => nomatch z) fun tk => ⟨.bl b, H, I.kept (t' := tk) fun _ _ z => z, rfl, q⟩
/-- e.f, e an exception with own attributes -/
theorem pe_xfo {C : Addr} {e : Expr} {te : TE} {pos : Pos} {n : Str} (T : XfC X.K C) (hno : PySem.W.findIn X.K (.ref C) n = some none) (he : PE X e te) (hb : attributeBase e n X.env (eval e X.env) = eval e X.env := by rfl) :
    PE X (.Attribute e n pos) (fun σ H Q => te σ H fun x H1 => ∃ (a d : Addr) (fs : List (Str × V)) (v : V), x = .ref a ∧ Rd H1 a (exo a C (some d)) ∧ Rd H1 d (exd d fs) ∧ fs.lookup n = some v ∧ Q v H1) := by
  refine ⟨fun pins s σ H Q I h => ?_⟩
  refine attr_of hb (thn (he.run pins s σ H _ I h) fun u s1 hh => ?_)
  obtain ⟨x, H1, I1, rx, a, d, fs, v, ex, ea, ed, l, q⟩ := hh
  subst ex
  obtain rfl : u = Value.ref a := rx
  obtain ⟨oe, od, mA, J, hl, hr⟩ := exo_inst I1 ea ed
  obtain ⟨u, hu, ru⟩ := RelO.some_of (v := v) (o := mA n) (by rw [← l]; exact hr n)
  exact HandSPX.exc_get I1.kIn J T.ga T.gg T.exC (PySem.W.findObj_own T.hdC hno rfl (by rw [hl, hu])) (handed_of ru) ⟨v, H1, I1.tok _, ru, q⟩
end
section
variable {X : Cx} {e : Expr} {es : List Expr} {ta : TA} {p1 p2 pos : Pos}
/-- C0.__init__(self, ..), where that is ValueError's -/
theorem pe_cinit {x : Str} {C0 : Addr} {mc : Value} {pl : Sem Bool} (hg : Gl X x) (hm : X.mg x = some (.ref C0)) (r : ClX.CRead X.K C0 mc) (vV : PySem.W.findCls X.K (.ref C0) mc "__init__" = some (.val (.builtin "ValueError.__init__"))) (ha : PA X (e :: es) ta) (hdb : (x == ("__debug__" : Str)) = false := by decide)
    (hc : eval (.Call (.Attribute (.Name x p1) "__init__" p2) (e :: es) [] pos) X.env = (do
      let ov ← eval (.Name x p1) X.env
      standAt p2.atName
      let (f, first) ← holding [ov] (getMethod ov "__init__" pl)
      callWith pos f first (backTo pos (starEach (e :: es) X.env)) (backToKw pos (keywordEach [] X.env))) := by rfl)
    (he : starEach (e :: es) X.env = (false, eval e X.env) :: starEach es X.env := by rfl) (hpl : (backTo pos (starEach es X.env)).any (·.1) = false := by rfl) :
    PE X (.Call (.Attribute (.Name x p1) "__init__" p2) (e :: es) [] pos) (tVeI X.K ta) := by
  refine ⟨fun pins s σ H Q I h => ?_⟩
  refine PySem.W.methodCall_KW (ld_glob I hg hm ?_ hdb) hc
  refine PySem.W.method_cls I.kIn r.ga (PySem.W.cls_value I.kIn r.rd vV rfl ?_)
  show wpAny _ _ (callWith pos (Value.builtin "ValueError.__init__") [] (backTo pos (starEach (e :: es) X.env)) []) _ _ _
  refine PyProof.Rows.callWith_method1 (thn (ha.run pos pins _ σ H _ (I.tok _) h) fun us s1 ⟨vs, H1, I1, r1, a, C, ws, ev, hl, T, ea, q⟩ => ?_) he hpl
  subst ev
  cases r1 with
  | @cons _ u0 _ ur ra rw' =>
    obtain rfl : u0 = Value.ref a := ra
    have hlen : ur.length ≤ sizeLine := by
      rw [← Paired.length rw', sizeLine_eq]
      omega
    exact oinit_ok T I1 ea hlen fun s' J => ⟨.non, H1, J, rfl, q⟩
end
end Mp
/-! Mx3: what own methods are asked by other words than a call: o[i], x in o, o == x, o >> x, len(o), str(o), o += x. -/
namespace Mp
open PySem PySem.Spec
open PyProof.Rows L2
section
variable {X : Cx} {CX : CXT} {k : Nat} {C f : Addr} {fd : FuncData} {ps : List Str} {sp : Sp} {E : L2.St → XK}
theorem run_fnA {A : Around} {pins : List (Addr × Obj)} {σ : L2.St} {H : Hp} {s : Shared} {Q : VK} {us : List Value} {vs : List V} (F : FnOk X.prog X.w X.K X.mg X.base CX k f fd ps sp) (e0 : Env0 X.prog X.w X.K X.mg X.base A X.stack s H) (hr : Room k A) (hb : Binds X.K fd ps [])
    (hx : PassesAt CX X σ (E σ)) (I : Inv X pins σ H s) (r : Vals vs us) (h : sp vs H Q (E σ)) : wpAny (model X.prog X.w) A (call (.ref f) us) (EP X pins σ Q) X.xe s := by
  have el : us.length = ps.length := (Paired.length r).symm.trans (F.len _ _ _ _ h)
  have bt := hb s us I.kIn (by simpa using el)
  rw [List.append_nil] at bt
  refine wpAny_call (codeAny_mono (F.run A X.stack s H ⟨us, []⟩ us vs Q (E σ) hr e0 bt r h) fun res s2 hq => ?_)
  match res, hq with
  | .error er, hq => exact hx pins H s er s2 I hq
  | .ok (.ret u), hq => exact I.after hq
  | .ok .next, hq => exact hq.elim
  | .ok .brk, hq => exact hq.elim
  | .ok .cont, hq => exact hq.elim
theorem ins_inst {pins : List (Addr × Obj)} {σ : L2.St} {H : Hp} {s : Shared} {a dx : Addr} {fs : List (Str × V)} (I : Inv X pins σ H s) (h : H a = some (.ins C dx fs)) : ∃ ox od, PySem.W.InstAt s.heap a ox C (some od) ∧ ox.data = .plain := by
  obtain ⟨mA, O, _⟩ := ins_get I.hok h
  obtain ⟨od, J, _⟩ := O.look
  exact ⟨_, od, J, rfl⟩
/-- what is told of the own method name of the class at C: it is the def at f -/
structure OwnM (K : PySem.W.Frag) (C : Addr) (name : Str) (f : Addr) : Prop where
  at_ : PySem.W.findIn K (.ref C) name = some (some (.ref f))
  fn : PySem.W.isFn K (.ref f) = true
  fi : PySem.W.fnIn K f = true
/-- nothing is let out -/
abbrev XNo : XK := fun _ _ _ => False
/-- an own method, asked at some depth below the running body -/
theorem run_own0 {A : Around} {pins : List (Addr × Obj)} {σ : L2.St} {H : Hp} {s : Shared} {Q : VK} {us : List Value} {vs : List V} (F : FnOk X.prog X.w X.K X.mg X.base (L2.CX X.prog X.w) k f fd ps sp) (e0 : Env0 X.prog X.w X.K X.mg X.base A X.stack s H) (hr : Room k A) (hb : Binds X.K fd ps [])
    (I : Inv X pins σ H s) (r : Vals vs us) (h : sp vs H Q XNo) : wpAny (model X.prog X.w) A (call (.ref f) us) (EP X pins σ Q) X.xe s :=
  run_fnA (E := fun _ => XNo) F e0 hr hb (fun pins H s e s' _ z => by
    obtain ⟨_, _, _, _, _, _, _, _, _, _, _, _, w⟩ := z
    exact w.elim) I r h
/-- o == x -/
theorem op_eqOwn (F : FnOk X.prog X.w X.K X.mg X.base (L2.CX X.prog X.w) k f fd ps sp) (hr : Room k X.A) (m : OwnM X.K C "__eq__" f) (hb : Binds X.K fd ps []) (ht : PySem.W.subIn X.K (.type "tuple") (.ref C) = some false) :
    OpR X (compareOp .Eq) (fun x y H Q => ∃ (a dx : Addr) (fs : List (Str × V)), x = .ref a ∧ H a = some (.ins C dx fs) ∧ ((∃ (b dy : Addr) (gs : List (Str × V)), y = .ref b ∧ H b = some (.ins C dy gs)) ∨ ∃ (b : Addr) (ys : List V), y = .ref b ∧ SqT X.K H b ys) ∧ sp [x, y] H (fun v H' => ∃ c, v = .bl c ∧ Q v H') XNo) := by
  intro pins s σ H x y v u Q I rx ry h
  obtain ⟨a, dx, fs, rfl, ha, hy, h⟩ := h
  obtain rfl : v = Value.ref a := rx
  obtain ⟨ox, od, J, _⟩ := ins_inst I ha
  obtain ⟨mm, hF⟩ := I.fr
  have back : wpAny (model X.prog X.w) X.A (call (.ref f) [.ref a, u]) (PySem.W.CmpBack (EP X pins σ Q)) X.xe s := by
    refine wpAny_mono (run_own0 F I.env0 hr hb I (vs := [.ref a, y]) (.cons rfl (.cons ry .nil)) h) (fun r s' z => ?_) fun _ _ z => z
    obtain ⟨w, H', I', rw', c, rfl, q⟩ := z
    cases rw'
    exact ⟨.bl c, H', I', rfl, q⟩
  rcases hy with ⟨b, dy, gs, rfl, hb'⟩ | ⟨b, ys, rfl, hb'⟩
  · obtain rfl : u = Value.ref b := ry
    obtain ⟨oy, od', J', _⟩ := ins_inst I hb'
    exact PySem.W.cmp_K (op := .Eq) (tb := .ref C) hr.units0 hF I.ok.mod.kin J J'.type (by simp [PySem.W.notFirst]) m.at_ m.fn back
  · obtain rfl : u = Value.ref b := ry
    obtain ⟨its, _, ⟨o, ho, hc, _, _⟩, _⟩ := I.tuple hb'
    have L : PySem.W.Looks (model X.prog X.w) s.heap (typeOf (.ref b)) (.type "tuple") := by
      have := (PySem.W.Looks.ld (M := model X.prog X.w) (part := none) ho).andThen (f := fun o => pure o.cls) .now
      rw [hc] at this
      exact this
    exact PySem.W.cmp_K (op := .Eq) (tb := .type "tuple") hr.units0 hF I.ok.mod.kin J L (by simp [PySem.W.notFirst, ht]) m.at_ m.fn back
/-- x in o -/
theorem op_inOwn (F : FnOk X.prog X.w X.K X.mg X.base (L2.CX X.prog X.w) k f fd ps sp) (hr : Room k X.A) (m : OwnM X.K C "__contains__" f) (hb : Binds X.K fd ps []) :
    OpR X (compareOp .In) (fun x y H Q => ∃ (a dx : Addr) (fs : List (Str × V)), y = .ref a ∧ H a = some (.ins C dx fs) ∧ sp [y, x] H (fun v H' => ∃ c, v = .bl c ∧ Q v H') XNo) := by
  intro pins s σ H x y v u Q I rx ry h
  obtain ⟨a, dx, fs, rfl, ha, h⟩ := h
  obtain rfl : u = Value.ref a := ry
  obtain ⟨ox, od, J, _⟩ := ins_inst I ha
  obtain ⟨mm, hF⟩ := I.fr
  refine PySem.W.in_K hF I.ok.mod.kin J m.at_ m.fn (wpAny_mono (run_own0 F I.env0 hr hb I (vs := [.ref a, x]) (.cons rfl (.cons rx .nil)) h) (fun r s' z => ?_) fun _ _ z => z)
  obtain ⟨w, H', I', rw', c, rfl, q⟩ := z
  cases rw'
  exact wpAny_truthy_bool ⟨.bl c, H', I', rfl, q⟩
/-- len(o) -/
theorem call_lenOwn (F : FnOk X.prog X.w X.K X.mg X.base (L2.CX X.prog X.w) k f fd ps sp) (hr : Room (k + 1) X.A) (m : OwnM X.K C "__len__" f) (hb : Binds X.K fd ps []) :
    CallR X (.builtin "len") (fun xs H Q => ∃ (a dx : Addr) (fs : List (Str × V)), xs = [.ref a] ∧ H a = some (.ins C dx fs) ∧ sp [.ref a] H (fun v H' => ∃ n : Int, v = .int n ∧ (0 ≤ n ∧ n < 2 ^ 63) ∧ Q v H') XNo) := by
  intro pins s σ H xs us Q I r h
  obtain ⟨a, dx, fs, rfl, ha, h⟩ := h
  obtain ⟨u, rfl, r1⟩ := vals1 r
  obtain rfl : u = Value.ref a := r1
  obtain ⟨ox, od, J, _⟩ := ins_inst I ha
  obtain ⟨mm, hF⟩ := I.fr
  refine PySem.W.len_K hF I.ok.mod.kin J m.at_ m.fn (wpAny_mono (run_own0 F I.env0.in1 hr.in1 hb I r h) (fun r s' z => ?_) fun _ _ z => z)
  obtain ⟨w, H', I', rw', n, rfl, hn, q⟩ := z
  obtain ⟨t, rfl⟩ := rw'
  exact ⟨hn, .int n, H', I'.tok _, ⟨_, rfl⟩, q⟩
/-- o[x] -/
theorem pe_itemOwn {a b : Expr} {ta tb : TE} {pos : Pos} {E : L2.St → XK} (F : FnOk X.prog X.w X.K X.mg X.base CX k f fd ps sp) (hr : Room (k + 1) X.A) (m : OwnM X.K C "__getitem__" f) (hb : Binds X.K fd ps []) (hx : ∀ σ, PassesAt CX X σ (E σ)) (he : PE X a ta) (hi : PE X b tb)
    (hs : ∀ x i, subscripted b true (.ref x) i = runValue (.builtin "lifetime.subscript" ⟨[.ref x, i], []⟩)) :
    PE X (.Subscript a b pos) (fun σ H Q => ta σ H fun x H1 => tb σ H1 fun y H2 => ∃ (a dx : Addr) (fs : List (Str × V)), x = .ref a ∧ H2 a = some (.ins C dx fs) ∧ sp [x, y] H2 Q (E σ)) := by
  refine ⟨fun pins s σ H Q I h => Subscript_ (binT he hi I h fun v u s2 x y H2 I2 rx ry q => ?_)⟩
  obtain ⟨a, dx, fs, rfl, ha, q⟩ := q
  obtain rfl : v = Value.ref a := rx
  obtain ⟨ox, od, J, _⟩ := ins_inst I2 ha
  obtain ⟨mm, hF⟩ := I2.fr
  exact PySem.W.sub_K hF I2.ok.mod.kin J m.at_ m.fi m.fn (run_fnA F I2.env0.in1 hr.in1 hb (hx σ) I2 (vs := [.ref a, y]) (.cons rfl (.cons ry .nil)) q) (hs _ _)
/-- o op x, x of a built-in class that has no such slot -/
theorem bin_own {A : Around} {s : Shared} {a L : Addr} {h₀ : Heap} {mf : Str → Option Value} {ox : Obj} {od : Option Obj} {op : Operator} {b : Value} {T : String} {Q : Value → Shared → Prop} {Er : Value → Shared → Prop} (hF : Fr h₀ L s.heap mf) (hK : X.K.In h₀) (J : PySem.W.InstAt s.heap a ox C od)
    (hb : PySem.W.Looks (model X.prog X.w) s.heap (typeOf b) (.type T)) (hc : PySem.W.selfFirst X.K C = true) (m : OwnM X.K C (PySem.dunder op.info.2) f) (h1 : PySem.W.findIn X.K (.type T) (PySem.dunder op.info.2) = some none) (h2 : PySem.W.findIn X.K (.type T) (dunderR op.info.2) = some none)
    (h : wpAny (model X.prog X.w) A (call (.ref f) [.ref a, b]) (PySem.W.CmpBack Q) Er s) : wpAny (model X.prog X.w) A (binaryOp op (.ref a) b) Q Er s := by
  have KX := hK.keeps hF.keep
  obtain ⟨cd, rest, e1, e2⟩ := PySem.W.ksp_first hc
  have tr := PySem.W.ksp_try KX J m.at_ m.fn h
  have ta := J.type (M := model X.prog X.w)
  have fa := PySem.W.fills_K (M := model X.prog X.w) KX e1 e2 m.at_
  have fb := PySem.W.ksp_fillsT (M := model X.prog X.w) KX h1 h2
  have ne : (Value.ref C == Value.type T) = false := Bool.eq_false_iff.mpr fun q => by cases beq_iff_eq.mp q
  unfold binaryOp
  refine wpAny_holding (wpAny_bind ?_)
  unfold binaryOp1
  refine wpAny_bind (ta.here (wpAny_bind (hb.here (wpAny_bind (fa.here ?_)))))
  simp only [ne, Bool.false_eq_true, if_false]
  refine wpAny_bind (fb.here ?_)
  simp only [Option.isSome_none, Bool.false_and, Bool.or_self, Bool.and_false, Bool.false_eq_true, if_false]
  refine wpAny_bind (wpAny_pure ?_)
  simp only [Bool.false_eq_true, if_false, if_true]
  refine wpAny_bind (wpAny_mono tr (fun r s' z => ?_) fun _ _ z => z)
  obtain ⟨v, rfl, q⟩ := z
  first | exact wpAny_pure (wpAny_pure q) | exact wpAny_pure (wpAny_pure (wpAny_pure q))
/-- a tuple, a list, None: its class -/
theorem seq_type {pins : List (Addr × Obj)} {σ : L2.St} {H : Hp} {s : Shared} {y : V} {u : Value} (I : Inv X pins σ H s) (ry : RelV y u) (h : y = .non ∨ ∃ (b : Addr) (ys : List V), y = .ref b ∧ (SqT X.K H b ys ∨ SqL X.K H b ys)) :
    ∃ T : String, (T = "tuple" ∨ T = "list" ∨ T = "NoneType") ∧ PySem.W.Looks (model X.prog X.w) s.heap (typeOf u) (.type T) := by
  have ld : ∀ {b : Addr} {o : Obj} {T : String}, s.heap.get? b = some o → o.cls = .type T → PySem.W.Looks (model X.prog X.w) s.heap (typeOf (.ref b)) (.type T) := fun {b o T} ho hc => by
    have := (PySem.W.Looks.ld (M := model X.prog X.w) (part := none) ho).andThen (f := fun o => pure o.cls) .now
    rw [hc] at this
    exact this
  rcases h with rfl | ⟨b, ys, rfl, h | h⟩
  · obtain rfl : u = Value.none := ry
    exact ⟨"NoneType", .inr (.inr rfl), PySem.W.Looks.of_pure rfl⟩
  · obtain rfl : u = Value.ref b := ry
    obtain ⟨its, _, ⟨o, ho, hc, _⟩, _⟩ := I.tuple h
    exact ⟨"tuple", .inl rfl, ld ho hc⟩
  · obtain rfl : u = Value.ref b := ry
    obtain ⟨its, _, ⟨o, n, ho, hc, _⟩, _⟩ := I.list h
    exact ⟨"list", .inr (.inl rfl), ld ho hc⟩
/-- o >> x, x a tuple, a list or None -/
theorem pe_shrOwn {a b : Expr} {ta tb : TE} {pos : Pos} {E : L2.St → XK} (F : FnOk X.prog X.w X.K X.mg X.base CX k f fd ps sp) (hr : Room k X.A) (m : OwnM X.K C "__rshift__" f) (hb : Binds X.K fd ps []) (hx : ∀ σ, PassesAt CX X σ (E σ)) (he : PE X a ta) (hi : PE X b tb)
    (hc : PySem.W.selfFirst X.K C = true) (hn : ∀ T : String, T = "tuple" ∨ T = "list" ∨ T = "NoneType" → PySem.W.findIn X.K (.type T) "__rshift__" = some none ∧ PySem.W.findIn X.K (.type T) "__rrshift__" = some none) :
    PE X (.BinOp a .RShift b pos) (fun σ H Q => ta σ H fun x H1 => tb σ H1 fun y H2 => ∃ (a dx : Addr) (fs : List (Str × V)), x = .ref a ∧ H2 a = some (.ins C dx fs) ∧ (y = .non ∨ ∃ (b : Addr) (ys : List V), y = .ref b ∧ (SqT X.K H2 b ys ∨ SqL X.K H2 b ys)) ∧ sp [x, y] H2 Q (E σ)) := by
  refine ⟨fun pins s σ H Q I h => wpAny_BinOp (binT he hi I h fun v u s2 x y H2 I2 rx ry q => ?_)⟩
  obtain ⟨a, dx, fs, rfl, ha, hy, q⟩ := q
  obtain rfl : v = Value.ref a := rx
  obtain ⟨ox, od, J, _⟩ := ins_inst I2 ha
  obtain ⟨mm, hF⟩ := I2.fr
  obtain ⟨T, hT, L⟩ := seq_type I2 ry hy
  obtain ⟨h1, h2⟩ := hn T hT
  refine bin_own (op := .RShift) hF I2.ok.mod.kin J L hc m h1 h2 (wpAny_mono (run_fnA F I2.env0 hr hb (hx σ) I2 (vs := [.ref a, y]) (.cons rfl (.cons ry .nil)) q) (fun r s' z => ?_) fun _ _ z => z)
  obtain ⟨w, H', I', rw', q'⟩ := z
  have nn : r ≠ .notImplemented := fun e => by subst e; cases w <;> first | (cases rw'; done) | (obtain ⟨t, e⟩ := rw'; cases e)
  cases r <;> first | exact (nn rfl).elim | exact ⟨w, H', I', rw', q'⟩
end
end Mp
/-! Mx4: own methods called, classes called: what leaves them is wished for at the caller's slots. -/
namespace Mp
open PySem PySem.Spec
open PyProof.Rows L2
/-- o.m(..) in its plain form -/
theorem meth_eval {o : Expr} {name : Str} {apos pos : Pos} {args : List Expr} {env : Env} (hbase : attributeBase o name env (eval o env) = eval o env)
    (hform : methodCallForm (args.length + ([] : List Keyword).length) (backTo pos (starEach args env)) (backToKw pos (keywordEach [] env)) = true) (hline : (apos.endLine == pos.line) = true) :
    eval (.Call (.Attribute o name apos) args [] pos) env = (do
      let ov ← eval o env
      standAt apos.atName
      let (f, first) ← holding [ov] (getMethod ov name (do return (← importBound o env).getD true))
      callWith pos f first (backTo pos (starEach args env)) (backToKw pos (keywordEach [] env))) := by
  rw [arm_eval_Call, hbase]
  have hp : methodCallPos true o env apos pos = pure pos := by unfold methodCallPos; simp [hline]
  unfold methodCall
  rw [hform, hp]
  rfl
section
variable {X : Cx} {CX : CXT} {k : Nat} {C f : Addr} {fd : FuncData} {ps : List Str} {sp : Sp} {E : L2.St → XK} {o e : Expr} {es : List Expr} {ta : TE} {t : TA} {name : Str} {apos pos : Pos} {pl : Sem Bool}
/-- o.m(e, ..) -/
theorem pe_methOwn (he : PE X o ta) (c : Cls X.K C) (hm : OwnM X.K C name f) (hk : PySem.W.keepIn X.K (.ref f) = true) (F : FnOk X.prog X.w X.K X.mg X.base CX k f fd ps sp) (hr : Room k X.A) (hb : Binds X.K fd ps []) (hx : ∀ σ, PassesAt CX X σ (E σ)) (ha : PA X (e :: es) t)
    (hst : starEach (e :: es) X.env = (false, eval e X.env) :: starEach es X.env) (hpl : (backTo pos (starEach es X.env)).any (·.1) = false)
    (ht : eval (.Call (.Attribute o name apos) (e :: es) [] pos) X.env = (do
      let ov ← eval o X.env
      standAt apos.atName
      let (f, first) ← holding [ov] (getMethod ov name pl)
      callWith pos f first (backTo pos (starEach (e :: es) X.env)) (backToKw pos (keywordEach [] X.env)))) :
    PE X (.Call (.Attribute o name apos) (e :: es) [] pos) (fun σ H Q => ta σ H fun x H1 => ∃ (a dx : Addr) (fs : List (Str × V)), x = .ref a ∧ H1 a = some (.ins C dx fs) ∧ fs.lookup name = none ∧ t σ H1 fun vs H2 => sp (x :: vs) H2 Q (E σ)) :=
  ⟨fun pins s σ H Q I h => PySem.W.methodCall_KW (pl := pl) (thn (he.run pins s σ H _ I h) fun u s1 z => by
    obtain ⟨x, H1, I1, rx, a, dx, fs, rfl, ea, l, q⟩ := z
    obtain rfl : u = Value.ref a := rx
    exact getmeth_ok I1 ea c ⟨hm.at_, hm.fn, hk⟩ l (PySem.W.callWith_K (first := [.ref a]) (h₀ := X.base) I1.ok.mod.kin hk (thn (ha.run pos pins s1 σ H1 _ I1 q) fun us s2 z2 => by
      obtain ⟨vs, H2, I2, r, q2⟩ := z2
      exact ⟨I2.kIn, run_fnA (us := .ref a :: us) (vs := .ref a :: vs) F I2.env0 hr hb (hx σ) I2 (.cons rfl r) q2⟩) hst hpl)) ht⟩
/-- o.m() -/
theorem pe_methOwn0 (he : PE X o ta) (c : Cls X.K C) (hm : OwnM X.K C name f) (hk : PySem.W.keepIn X.K (.ref f) = true) (F : FnOk X.prog X.w X.K X.mg X.base CX k f fd ps sp) (hr : Room k X.A) (hb : Binds X.K fd ps []) (hx : ∀ σ, PassesAt CX X σ (E σ))
    (ht : eval (.Call (.Attribute o name apos) [] [] pos) X.env = (do
      let ov ← eval o X.env
      standAt apos.atName
      let (f, first) ← holding [ov] (getMethod ov name pl)
      callWith pos f first (backTo pos (starEach [] X.env)) (backToKw pos (keywordEach [] X.env)))) :
    PE X (.Call (.Attribute o name apos) [] [] pos) (fun σ H Q => ta σ H fun x H1 => ∃ (a dx : Addr) (fs : List (Str × V)), x = .ref a ∧ H1 a = some (.ins C dx fs) ∧ fs.lookup name = none ∧ sp [x] H1 Q (E σ)) :=
  ⟨fun pins s σ H Q I h => PySem.W.methodCall_KW (pl := pl) (thn (he.run pins s σ H _ I h) fun u s1 z => by
    obtain ⟨x, H1, I1, rx, a, dx, fs, rfl, ea, l, q⟩ := z
    obtain rfl : u = Value.ref a := rx
    exact getmeth_ok I1 ea c ⟨hm.at_, hm.fn, hk⟩ l (PySem.W.callWith_K0 (first := [.ref a]) I1.kIn hk (run_fnA (us := [.ref a]) (vs := [.ref a]) F I1.env0 hr hb (hx σ) I1 (.cons rfl .nil) q))) ht⟩
/-- o(e, ..), o an instance -/
theorem pe_callOwn {fe : Expr} (hf : PE X fe ta) (m : OwnM X.K C "__call__" f) (F : FnOk X.prog X.w X.K X.mg X.base CX k f fd ps sp) (hr : Room k X.A) (hb : Binds X.K fd ps []) (hx : ∀ σ, PassesAt CX X σ (E σ)) (ha : PA X (e :: es) t)
    (ht : eval (.Call fe (e :: es) [] pos) X.env = (do callWith pos (← eval fe X.env) [] (backTo pos (starEach (e :: es) X.env)) (backToKw pos (keywordEach [] X.env))))
    (hst : starEach (e :: es) X.env = (false, eval e X.env) :: starEach es X.env) (hpl : (backTo pos (starEach es X.env)).any (·.1) = false) :
    PE X (.Call fe (e :: es) [] pos) (fun σ H Q => ta σ H fun y H1 => ∃ a, y = V.ref a ∧ t σ H1 fun vs H2 => (∃ (dx : Addr) (fs : List (Str × V)), H2 a = some (.ins C dx fs)) ∧ sp (y :: vs) H2 Q (E σ)) :=
  ⟨fun pins s σ H Q I h => Call_ (thn (hf.run pins s σ H _ I h) fun u s1 z => by
    obtain ⟨y, H1, I1, ry, a, rfl, q⟩ := z
    obtain rfl : u = Value.ref a := ry
    refine StX.callO_with (thn (ha.run pos pins s1 σ H1 _ I1 q) fun us s2 z2 => ?_) hst hpl
    obtain ⟨vs, H2, I2, r, ⟨dx, fs, ea⟩, q2⟩ := z2
    obtain ⟨ox, od, J, hd⟩ := ins_inst I2 ea
    have run : codeAny (model X.prog X.w) X.A (.call (.ref f) ⟨.ref a :: us, []⟩) (fun r s' => wants (EP X pins σ Q) X.xe r s') s2 := by
      have el : (Value.ref a :: us).length = ps.length := (Paired.length (Paired.cons (show RelV (.ref a) (Value.ref a) from rfl) r)).symm.trans (F.len _ _ _ _ q2)
      have bt := hb s2 (.ref a :: us) I2.kIn (by simpa using el)
      rw [List.append_nil] at bt
      refine codeAny_mono (F.run X.A X.stack s2 H2 ⟨.ref a :: us, []⟩ (.ref a :: us) (.ref a :: vs) Q (E σ) hr I2.env0 bt (.cons rfl r) q2) fun res s3 hq => ?_
      match res, hq with
      | .error er, hq => exact hx σ pins H2 s2 er s3 I2 hq
      | .ok (.ret u), hq => exact I2.after hq
      | .ok .next, hq => exact hq.elim
      | .ok .brk, hq => exact hq.elim
      | .ok .cont, hq => exact hq.elim
    exact ⟨⟨C, ox, some od, J, hd⟩, wpAny_call (PySem.W.kco_code I2.kIn J hd m.at_ m.fn m.fi run)⟩) ht⟩
/-- a class's call: __init__ runs on the new instance -/
theorem run_makeOwn {pins : List (Addr × Obj)} {σ : L2.St} {H : Hp} {s : Shared} {Q : VK} {us : List Value} {kw : List (Str × Value)} {G : Addr → List Value} {GV : Addr → List V} (M : Mk X.K C f) (F : FnOk X.prog X.w X.K X.mg X.base CX k f fd ps sp) (hr : Room (k + 1) X.A)
    (hb : ∀ (a : Addr) (s' : Shared), X.K.In s'.heap → BindsTo s' fd ⟨.ref a :: us, kw⟩ (ps.zip (G a))) (hg : ∀ a, Vals (GV a) (G a)) (hx : PassesAt CX X σ (E σ)) (I : Inv X pins σ H s)
    (h : ∀ x dx, H x = none → H dx = none → dx ≠ x → sp (GV x) (upd (upd H dx (.own x)) x (.ins C dx [])) (fun v H2 => v = .non ∧ Q (.ref x) H2) (E σ)) :
    wpAny (model X.prog X.w) X.A (call (.ref C) us kw) (EP X pins σ Q) X.xe s := by
  have n1 : H (s.heap.objs.size + 1) = none := I.hok.fresh (Nat.le_succ _)
  have n2 : H s.heap.objs.size = none := I.hok.fresh (Nat.le_refl _)
  have call := h _ _ n1 n2 (Nat.ne_of_lt (Nat.lt_succ_self _))
  have J : Inv X pins σ _ _ := Inv.made (C := C) I
  refine wpAny_call (make_map (f := f) I.kIn M.makes M.init (beq_iff_eq.mp M.fn) (codeAny_mono (F.run _ X.stack _ _ ⟨.ref (s.heap.objs.size + 1) :: us, kw⟩ _ _ _ (E σ) (hr.make C us kw) (J.env0.make C us kw) (hb _ _ J.kIn) (hg _) call) fun res s2 hq => ?_))
  match res, hq with
  | .error er, hq => exact hx pins _ _ er s2 J hq
  | .ok (.ret u), hq =>
    obtain ⟨v, H', I3, rv, ev, q3⟩ := J.after hq
    subst ev
    exact ⟨rv, V.ref (s.heap.objs.size + 1), H', I3, rfl, q3⟩
  | .ok .next, hq => exact hq.elim
  | .ok .brk, hq => exact hq.elim
  | .ok .cont, hq => exact hq.elim
/-- C(e, ..) by places -/
theorem pe_makeOwn {x : Str} {p : Pos} (M : Mk X.K C f) (F : FnOk X.prog X.w X.K X.mg X.base CX k f fd ps sp) (hr : Room (k + 1) X.A) (hg : Gl X x) (hm : X.mg x = some (.ref C)) (hb : Binds X.K fd ps []) (hx : ∀ σ, PassesAt CX X σ (E σ)) (ha : PA X (e :: es) t)
    (hn : ps.length = (e :: es).length + 1) (hdb : (x == ("__debug__" : Str)) = false) (hst : starEach (e :: es) X.env = (false, eval e X.env) :: starEach es X.env) (hpl : (backTo pos (starEach es X.env)).any (·.1) = false) :
    PE X (.Call (.Name x p) (e :: es) [] pos) (fun σ H Q => t σ H fun vs H1 => vs.length + 1 = ps.length ∧ ∀ x dx, H1 x = none → H1 dx = none → dx ≠ x → sp (.ref x :: vs) (upd (upd H1 dx (.own x)) x (.ins C dx [])) (fun v H2 => v = .non ∧ Q (.ref x) H2) (E σ)) :=
  ⟨fun pins s σ H Q I h => wpAny_Call_Name_kw (ld_glob I hg hm (PySem.W.callWith_K (h₀ := X.base) I.ok.mod.kin M.kp (thn (ha.run pos pins s σ H _ I h) fun us s1 z => by
    obtain ⟨vs, H1, I1, r, hl, q⟩ := z
    refine ⟨I1.kIn, run_makeOwn (G := fun a => .ref a :: us) (GV := fun a => .ref a :: vs) M F hr (fun a s' kin => ?_) (fun a => .cons rfl r) (hx σ) I1 q⟩
    have := hb s' (.ref a :: us) kin (by rw [List.append_nil, List.length_cons, ← r.length]; exact hl)
    rw [List.append_nil] at this
    exact this) hst hpl) hdb)⟩
/-- C(e, .., k = v, ..) -/
theorem pe_makeOwnK {x : Str} {p : Pos} {kws : List Keyword} {tk : TA} {n : Nat} {ks : List Str} {g : List Value → List Value → List Value} {gV : List V → List V → List V} (M : Mk X.K C f) (F : FnOk X.prog X.w X.K X.mg X.base CX k f fd ps sp) (hr : Room (k + 1) X.A) (hg : Gl X x) (hm : X.mg x = some (.ref C))
    (hb : KBn X.K fd ps (n + 1) ks g gV) (hx : ∀ σ, PassesAt CX X σ (E σ)) (ha : PA X (e :: es) t) (hkw : PK X kws tk) (hall : (backToKw pos (keywordEach kws X.env)).all (·.1.isSome) = true) (hks : (backToKw pos (keywordEach kws X.env)).filterMap (·.1) = ks)
    (hdb : (x == ("__debug__" : Str)) = false) (hst : starEach (e :: es) X.env = (false, eval e X.env) :: starEach es X.env) (hpl : ((backTo pos (starEach (e :: es) X.env)).any (·.1) || (backToKw pos (keywordEach kws X.env)).any (·.1.isNone)) = false) :
    PE X (.Call (.Name x p) (e :: es) kws pos) (fun σ H Q => t σ H fun vs H1 => tk σ H1 fun zs H2 => vs.length = n ∧ zs.length = ks.length ∧ ∀ x dx, H2 x = none → H2 dx = none → dx ≠ x → sp (gV (.ref x :: vs) zs) (upd (upd H2 dx (.own x)) x (.ins C dx [])) (fun v H3 => v = .non ∧ Q (.ref x) H3) (E σ)) :=
  ⟨fun pins s σ H Q I h => wpAny_Call_Name_kw (ld_glob I hg hm (PySem.W.callWith_KW (h₀ := X.base) I.ok.mod.kin M.kp hall (thn (ha.run pos pins s σ H _ I h) fun us s1 z => by
    obtain ⟨vs, H1, I1, r, q⟩ := z
    refine thn (hkw.run pos pins s1 σ H1 _ I1 q) fun ws s2 z2 => ?_
    obtain ⟨zs, H2, I2, rz, l1, l2, q2⟩ := z2
    rw [hks]
    refine ⟨I2.kIn, run_makeOwn (G := fun a => g (.ref a :: us) ws) (GV := fun a => gV (.ref a :: vs) zs) M F hr (fun a s' kin => hb.to s' (.ref a :: us) ws kin ?_ ?_) (fun a => hb.rel (.cons rfl r) rz) (hx σ) I2 q2⟩
    · rw [List.length_cons, ← r.length, l1]
    · rw [← Paired.length rz, l2]) hpl hst) hdb)⟩
/-- C.m(e, ..), m a classmethod -/
theorem pe_cmOwn {q0 : Addr} {mc : Value} (he : PE X o ta) (r : ClX.CRead X.K C mc) (c : ClX.CMet X.K C mc name q0 f) (F : FnOk X.prog X.w X.K X.mg X.base CX k f fd ps sp) (hr : Room k X.A) (hb : Binds X.K fd ps []) (hx : Passes CX X XNo) (ha : PA X (e :: es) t)
    (hst : starEach (e :: es) X.env = (false, eval e X.env) :: starEach es X.env) (hpl : (backTo pos (starEach es X.env)).any (·.1) = false)
    (ht : eval (.Call (.Attribute o name apos) (e :: es) [] pos) X.env = (do
      let ov ← eval o X.env
      standAt apos.atName
      let (f, first) ← holding [ov] (getMethod ov name pl)
      callWith pos f first (backTo pos (starEach (e :: es) X.env)) (backToKw pos (keywordEach [] X.env)))) :
    PE X (.Call (.Attribute o name apos) (e :: es) [] pos) (fun σ H Q => ta σ H fun x H1 => x = .ref C ∧ t σ H1 fun vs H2 => sp (.ref C :: vs) H2 Q XNo) := by
  have z := ClX.pe_cmeth (E := XNo) he r c (FnOk.raw (sp := sp) F hb .nil) hr hx ha hst hpl ht
  refine ⟨fun pins s σ H Q I h => z.run pins s σ H Q I ?_⟩
  unfold ClX.tCMeth
  simpa only [List.append_nil] using h
end
section
open Builtin Builtin.Str PySem.W
/-- str(o) by an own __str__ -/
theorem str_own {X : Cx} {A : Around} {C a f : Addr} {s : Shared} {ox : Obj} {od : Option Obj} {Q : Value → Shared → Prop} {Er : Value → Shared → Prop} (hu : A.in1.in1.units < cLine) (KX : X.K.In s.heap) (J : InstAt s.heap a ox C od) (m : OwnM X.K C "__str__" f)
    (h : wpAny (model X.prog X.w) A.in1.in1 (call (.ref f) [.ref a]) (StrBack Q) Er s) : wpAny (model X.prog X.w) A (call (.type "str") [.ref a]) Q Er s := by
  have asked : wpAny (model X.prog X.w) A.in1.in1 (PySem.Builtin.Str.strOf (.ref a)) (fun r s1 => ∃ y u, r = .str y u ∧ Q r s1) Er s := by
    unfold PySem.Builtin.Str.strOf
    rw [show isExactStr (.ref a) = false from rfl]
    refine wpAny_bind (m := cRoomFor _ _) (wpAny_cRoomFor hu (wpAny_bind (m := callSpecial? (.ref a) (Str.ofString "__str__")) ?_))
    refine special_fn KX J m.at_ (beq_iff_eq.mp m.fn) (wpAny_mono h (fun r s' z => ?_) fun _ _ y => y)
    cases r <;> first | (exact False.elim z) | (exact wpAny_pure ⟨_, _, rfl, z⟩)
  refine callType_codes (T := "str") (Q₁ := fun r s1 => ∃ y u, r = .str y u ∧ Q r s1) (Bi := Builtin.«object.__init__») PySem.F.called_str (PySem.F.typeCall_str_1 _) PySem.F.entry_object_init (codeAny_of_tree ?_) (fun obj s1 z => ?_)
  · show wpAny _ A.in1.in1 (do checkBuiltinCall "str.__new__" ⟨[.type "str", .ref a], []⟩; again (.builtin "str.__new__" ⟨[.type "str", .ref a], []⟩)) _ _ s
    refine wpAny_bind (wpAny_of_eq (PySem.F.newCall_str_1 _) (wpAny_pure ⟨plainId_quiet (by decide +kernel) _, codeAny_builtin PySem.F.entry_str_new ?_⟩))
    rw [Around.under_plainId (by decide +kernel) _, str_new_tree]
    exact wpAny_bind (wpAny_pure (wpAny_bind (wpAny_of_eq isSubtype_str_str (wpAny_bind (wpAny_mono asked (fun r s1 hr => wpAny_pure hr) fun _ _ y => y)))))
  · obtain ⟨y, u, rfl, hq⟩ := z
    exact ⟨typeIs_str _ _ _, PySem.F.args_object_init_2 _ _, object_init_meets PySem.F.called_str.init.lookup PySem.F.called_str.made (by decide) X.prog X.w A.in1 _ s1 ⟨typeIs_str _ _ _, rfl, hq⟩⟩
end
section
variable {X : Cx} {k : Nat} {C f : Addr} {fd : FuncData} {ps : List Str} {sp : Sp}
theorem call_strOwn (F : FnOk X.prog X.w X.K X.mg X.base (L2.CX X.prog X.w) k f fd ps sp) (hr : Room (k + 2) X.A) (m : OwnM X.K C "__str__" f) (hb : Binds X.K fd ps []) :
    CallR X (.type "str") (fun xs H Q => ∃ (a dx : Addr) (fs : List (Str × V)), xs = [.ref a] ∧ H a = some (.ins C dx fs) ∧ sp [.ref a] H (fun v H' => ∃ z, v = .str z ∧ Q (.str z) H') XNo) := by
  intro pins s σ H xs us Q I r h
  obtain ⟨a, dx, fs, rfl, ha, h⟩ := h
  obtain ⟨u, rfl, r1⟩ := vals1 r
  obtain rfl : u = Value.ref a := r1
  obtain ⟨ox, od, J, _⟩ := ins_inst I ha
  refine str_own (by have := hr.un; show X.A.units + 1 + 1 < _; omega) I.kIn J m (wpAny_mono (run_own0 F I.env0.in1.in1 hr.in1.in1 hb I r h) (fun r s' z => ?_) fun _ _ z => z)
  obtain ⟨w, H', I', rw', z, rfl, q⟩ := z
  obtain ⟨t, rfl⟩ := rw'
  exact ⟨.str z, H', I', ⟨t, rfl⟩, q⟩
/-- e.f, a property -/
theorem pe_propOwn {g q0 : Addr} {name : Str} {o : Expr} {ta : TE} {pos : Pos} (he : PE X o ta) (c : Cls X.K C) (hp : PropOf X.K C name q0 f) (F : FnOk X.prog X.w X.K X.mg X.base (L2.CX X.prog X.w) k f fd ps sp) (hr : Room (k + 1) X.A) (hb : Binds X.K fd ps [])
    (hab : attributeBase o name X.env (eval o X.env) = eval o X.env) : PE X (.Attribute o name pos) (fun σ H Q => ta σ H fun x H1 => ∃ a dx fs, x = .ref a ∧ H1 a = some (.ins C dx fs) ∧ sp [.ref a] H1 Q XNo) :=
  pe_prop (dvs := []) (E := XNo) he c hp F hr hb .nil (fun pins σ H s e s' I z => by
    obtain ⟨_, _, _, _, _, _, _, _, _, _, _, _, w⟩ := z
    exact w.elim) hab
end
end Mp
/-! Mx2: an own exception's __init__ that calls its base's and keeps one attribute. -/
namespace Mp
open PySem PySem.Spec
open PyProof.Rows L2
/-- what such an __init__ promises -/
def spXI (K : PySem.W.Frag) (n : Str) : Sp := fun vs H Q _ => ∃ (a C : Addr) (y : V), vs = [.ref a, y] ∧ OexC K C ∧ PySem.W.findIn K (.ref C) n = some none ∧ H a = some (exo a C none) ∧
  ∀ dx, H dx = none → dx ≠ a → Q .non (upd (upd H dx (exd dx [(n, y)])) a (exo a C (some dx)))
/-- the text of such an __init__ -/
def vXI : List Stmt → Option (Str × Str × Str × Str)
  | [.Expr (.Call (.Attribute (.Name x0 _) i0 pa) [.Name s1 _, .Constant (.str _) _ _] [] pc) _, .Assign [.Attribute (.Name s2 _) n _] (.Name y _) _] => if decide (i0 = ("__init__" : Str)) && decide (s1 = s2) && (pa.endLine == pc.line) then some (x0, s1, n, y) else none
  | _ => none
theorem xinit_ok {P : Program} {w : World} {K : PySem.W.Frag} {mg : Str → Option Value} {base : Heap} {f C0 : Addr} {mc : Value} {fd : FuncData} {nm qual : Str} {params : Arguments} {body : List Stmt} {scope : Scope} {self par n x0 : Str}
    (F : FunD K nm qual params body scope [] [] f fd) (S : FnScope [self, par] [self, par] scope) (hv : vXI body = some (x0, self, n, par)) (hx0 : scope.names.lookup x0 = some .globalImplicit) (hm : mg x0 = some (.ref C0)) (r : ClX.CRead K C0 mc)
    (vV : PySem.W.findCls K (.ref C0) mc "__init__" = some (.val (.builtin "ValueError.__init__"))) (d1 : (self == ("__debug__" : Str)) = false) (d2 : (par == ("__debug__" : Str)) = false) (d3 : (self == ("__classdict__" : Str)) = false) (d4 : (par == ("__classdict__" : Str)) = false) (d5 : (x0 == ("__debug__" : Str)) = false) :
    FnOk P w K mg base (L2.CX P w) 1 f fd [self, par] (spXI K n) := by
  refine F.ok S (fun vs H Q E ⟨a, C, y, e, _⟩ => by rw [e]; rfl) fun cdv A outer s H vs Q E hr hsp => ?_
  obtain ⟨a, C, y, rfl, T, hno, ha, q⟩ := hsp
  unfold vXI at hv
  split at hv
  · rename_i x0' p1 i0 p2 s1 p3 m j p4 p5 p6 s2 p7 n' p8 y' p9 p10
    split at hv
    · rename_i hc
      simp only [Option.some.injEq, Prod.mk.injEq] at hv
      obtain ⟨rfl, rfl, rfl, rfl⟩ := hv
      simp only [Bool.and_eq_true, decide_eq_true_eq] at hc
      obtain ⟨⟨rfl, rfl⟩, hl⟩ := hc
      have v0 : Vis scope s1 := (S.par s1 (by simp)).elim .inl fun z => .inr (.inl z)
      have v1 : Vis scope y' := (S.par y' (by simp)).elim .inl fun z => .inr (.inl z)
      refine ⟨_, pss_cons (ps_expr (pe_cinit (C0 := C0) (mc := mc) hx0 hm r vV (pa_cons (pe_var (i := 0) rfl v0 d1 d3) (pa_cons pe_str pa_nil)) d5 (hc := meth_eval rfl rfl hl))) (pss_one (ps_ost (pe_var (i := 0) rfl v0 d1 d3) (pe_var (i := 1) rfl v1 d2 d4))), ?_⟩
      refine ⟨.ref a, rfl, a, C, [.str m], rfl, by simp, T, ha, ?_⟩
      refine ⟨y, rfl, .ref a, rfl, a, C, rfl, T, hno, .inl ⟨ha, fun dx h1 h2 => q dx h1 h2⟩⟩
    · cases hv
  · cases hv
end Mp
/-! Mp1: data without addresses, a small language of the constructs that the program and the laws use, and what it means. -/
namespace Mp
abbrev Tx := List Nat

/-- data; m k: the k-th object of the activation that can still change -/
inductive D where
  | non | bl (b : Bool) | int (i : Int) | str (s : Tx) | tup (xs : List D) | lst (xs : List D) | dct (ks vs : List D) | dtu (ks vs : List D) | obj (c : Nat) (fs : List D) | m (k : Nat)
  deriving Inhabited

/-- an object of the activation: it may change, or not any more -/
inductive M where
  | mu (d : D) | fz (d : D)
  deriving Inhabited
abbrev Mm := List M
abbrev Sl := List (Option D)
def M.val : M → D
  | .mu d => d
  | .fz d => d
def M.isMu : M → Bool
  | .mu _ => true
  | .fz _ => false

/-- an error: its class, its fields -/
structure Ex where
  cls : Nat
  fs : List D
inductive RE where
  | ok (d : D) (mm : Mm)
  | ex (x : Ex) (mm : Mm)
inductive RS where
  | nx (sl : Sl) (mm : Mm) | rt (d : D) (mm : Mm) | bk (sl : Sl) (mm : Mm) | ct (sl : Sl) (mm : Mm) | ex (x : Ex) (sl : Sl) (mm : Mm)
/-- what a def gives back: the borrowed objects behind it, a new object that it hands on -/
inductive FR where
  | rt (d : D) (bs : Mm) (new : Mm)
  | ex (x : Ex) (bs : Mm)

/-! ### data -/
def okT (s : Tx) : Bool := s.all fun c => decide (c < 1114112)
def toS (s : Tx) : PySem.Str := ⟨s.toArray⟩
mutual
def pureD : D → Bool
  | .non => true
  | .bl _ => true
  | .int _ => true
  | .str _ => true
  | .tup xs => pureDs xs
  | .lst xs => pureDs xs
  | .dct ks vs => pureDs ks && pureDs vs
  | .dtu ks vs => pureDs ks && pureDs vs
  | .obj _ fs => pureDs fs
  | .m _ => false
def pureDs : List D → Bool
  | [] => true
  | x :: xs => pureD x && pureDs xs
end
mutual
/-- how deep; what == does not serve: 100 -/
def hgt : D → Nat
  | .non => 0
  | .bl _ => 0
  | .int _ => 0
  | .str _ => 0
  | .tup xs => hgts xs + 1
  | .lst xs => hgts xs + 1
  | .dct _ _ => 100
  | .dtu _ _ => 100
  | .obj _ _ => 100
  | .m _ => 100
def hgts : List D → Nat
  | [] => 0
  | x :: xs => max (hgt x) (hgts xs)
end
mutual
def toPy : D → PySem.PyData
  | .non => .none
  | .bl b => .bool b
  | .int i => .int i
  | .str s => .str ⟨s.toArray⟩
  | .tup xs => .tuple (toPys xs)
  | .lst xs => .list (toPys xs)
  | .dct _ _ => .none
  | .dtu _ _ => .none
  | .obj _ _ => .none
  | .m _ => .none
def toPys : List D → List PySem.PyData
  | [] => []
  | x :: xs => toPy x :: toPys xs
end
mutual
/-- x == y -/
def eqD : D → D → Bool
  | .non, y => (match y with | .non => true | _ => false)
  | .bl a, y => (match y with | .bl b => a == b | .int j => (if a then 1 else 0) == j | _ => false)
  | .int i, y => (match y with | .int j => decide (i = j) | .bl b => i == (if b then 1 else 0) | _ => false)
  | .str s, y => (match y with | .str t => decide (s = t) | _ => false)
  | .tup xs, y => (match y with | .tup ys => eqDs xs ys | _ => false)
  | .lst xs, y => (match y with | .lst ys => eqDs xs ys | _ => false)
  | .dct _ _, _ => false
  | .dtu _ _, _ => false
  | .obj _ _, _ => false
  | .m _, _ => false
def eqDs : List D → List D → Bool
  | [], ys => (match ys with | [] => true | _ :: _ => false)
  | x :: xs, ys => (match ys with | y :: ys => eqD x y && eqDs xs ys | [] => false)
end
/-- what a value stands for -/
def rd (mm : Mm) : D → D
  | .m k => (match mm[k]? with | some x => x.val | none => .non)
  | d => d
def okEq (d : D) : Bool := decide (hgt d ≤ 64)
def memD (x : D) (xs : List D) : Bool := xs.any fun z => eqD z x
def szl : Nat := 16777216
mutual
/-- can be a key: no truth values in it, no lists -/
def keyD : D → Nat → Bool
  | .non, _ => true
  | .int _, _ => true
  | .str _, _ => true
  | .tup xs, n => (match n with | 0 => false | n + 1 => keyDs xs n)
  | .bl _, _ => false
  | .lst _, _ => false
  | .dct _ _, _ => false
  | .dtu _ _, _ => false
  | .obj _ _, _ => false
  | .m _, _ => false
def keyDs : List D → Nat → Bool
  | [], _ => true
  | x :: xs, n => keyD x n && keyDs xs n
end

/-- a dict's key: a number, a text -/
def isKT : D → Bool
  | .int _ => true
  | .str _ => true
  | _ => false
/-- a text of signs -/
def okKT : D → Bool
  | .str s => okT s
  | _ => true
def isDct : D → Bool
  | .dct _ _ => true
  | .dtu _ _ => true
  | _ => false
/-- a dict's key: a tuple -/
def isKD : D → Bool
  | .tup xs => keyDs xs 6
  | _ => false
/-- no key twice -/
def ndK : List D → Bool
  | [] => true
  | k :: ks => !(memD k ks) && ndK ks
/-! ### the language -/
inductive Ty where | bool | int | str | tuple | list | dict | cls (c : Nat)
inductive U1 where
  | neg | len | int | any | all | sorted | list | listM | tuple | str | minl | maxl | pop | frz | isN | notN | lenD | listD | sortD | isi (t : Ty) | tix (g : Nat) (xs : List Tx) | exv (c : Nat) | exi (c : Nat) | isx (t : Option Nat) (bs : List (Nat × Bool)) | strx (cs : List Nat) | fld (c : Nat) | ifl (c j : Nat) | isc (c : Nat)
inductive B2 where
  | add | sub | mul | fdiv | mod | pow | eq | ne | lt | le | gt | ge | mem | nmem | idx | app | popat | split | join | index | min2 | max2 | lrng | rep
/-- what is asked of an instance, by an own method -/
inductive Op where | meth | prop | call | shr | eq | item | len | inn | clsm | strO | iadd | lgen
inductive Tg where | nm (i : Nat) | tp (is : List Nat)
mutual
inductive E where
  | var (i : Nat) | cst (d : D) | glb (g : Nat) | tup (es : Es) | lst (es : Es) | nls (es : Es) | un (o : U1) (a : E) | bin (o : B2) (a b : E) | mth (o : B2) (a b : E)
  | not (a : E) | and (a b : E) | or (a b : E) | ite (c a b : E) | chn (o p : B2) (a b c : E) | call (f : Nat) (es : Es) | call0 (f : Nat) | slc (a lo hi : E) | no
  | lc (mu : Bool) (tg : Tg) (elt : E) (it : It) (cnd : E)
  | dsp (ks : List D) (es : Es)
  | dn (tk : Bool) | d1 (k v : E) | get1 (d k : E) | get2 (d k x : E)
  | mk (c f : Nat) (es es2 : Es) (fl : List (Option D)) | opc (o : Op) (c f : Nat) (a : E) (es : Es) | op2 (o : Op) (c f : Nat) (a b : E) | ccn (g : Nat)
inductive Es where | nil | cons (e : E) (es : Es)
inductive It where | seq (a : E) | rng (a : E) | rng2 (a b : E) | zip (a b : E) | enm (a : E)
end
mutual
inductive S where
  | asg (i : Nat) (e : E) | unp (is : List Nat) (e : E) | par (i j : Nat) (a b : E) | sto (i : Nat) (ix e : E) | exp (e : E) | ret (e : E) | retn
  | ifs (c : E) (a b : B) | for (tg : Tg) (it : It) (b : B) | whl (c : E) (b : B) | brk | cnt | pass | rse (c : Nat) (es : Es) | try (b : B) (hs : Hs)
  | dead | std (i : Nat) (ix e : E) | par3 (i j l : Nat) (a b c : E) | stf (c i j : Nat) (e : E)
inductive B where | nil | cons (s : S) (b : B)
/-- except clauses: the class, what is handed back -/
inductive Hs where | nil | cons (c : Nat) (d : D) (hs : Hs)
end
structure FDef where
  np : Nat
  ns : Nat
  body : B

/-! ### what it means -/
def bindE (r : Option RE) (f : D → Mm → Option RE) : Option RE := match r with
  | none => none
  | some (.ok d mm) => f d mm
  | some (.ex x mm) => some (.ex x mm)
def okE (d : D) (mm : Mm) : Option RE := some (.ok d mm)
def allBl : List D → Option (List Bool)
  | [] => some []
  | .bl b :: r => (allBl r).map (b :: ·)
  | _ :: _ => none
def allInt : List D → Option (List Int)
  | [] => some []
  | .int b :: r => (allInt r).map (b :: ·)
  | _ :: _ => none
def allStr : List D → Option (List Tx)
  | [] => some []
  | .str b :: r => (allStr r).map (b :: ·)
  | _ :: _ => none
/-- the place of an index -/
abbrev ixP (n : Nat) (i : Int) : Option Nat := L2.ixN n i
abbrev atD (xs : List D) (i : Int) : Option D := L2.atI xs i
def cutD {α : Type} (xs : List α) (lo hi : Option Int) : List α := (xs.drop (HT.sIx xs.length 0 lo)).take (HT.sIx xs.length xs.length hi - HT.sIx xs.length 0 lo)
def isTy : Ty → D → Option Bool
  | .bool, d => some (match d with | .bl _ => true | _ => false)
  | .int, d => some (match d with | .bl _ => true | .int _ => true | _ => false)
  | .str, d => some (match d with | .str _ => true | _ => false)
  | .tuple, d => some (match d with | .tup _ => true | _ => false)
  | .list, d => some (match d with | .lst _ => true | _ => false)
  | .dict, d => some (match d with | .dct _ _ => true | _ => false)
  | .cls _, _ => none
def small64 (i : Int) : Bool := decide (-18446744073709551616 < i) && decide (i < 18446744073709551616)
mutual
/-- can be ordered: place by place of one kind -/
def alikeD : D → D → Bool
  | .bl _, y => (match y with | .bl _ => true | _ => false)
  | .int _, y => (match y with | .int _ => true | _ => false)
  | .str _, y => (match y with | .str _ => true | _ => false)
  | .tup xs, y => (match y with | .tup ys => alikeDs xs ys | _ => false)
  | .lst xs, y => (match y with | .lst ys => alikeDs xs ys | _ => false)
  | .non, _ => false
  | .dct _ _, _ => false
  | .dtu _ _, _ => false
  | .obj _ _, _ => false
  | .m _, _ => false
def alikeDs : List D → List D → Bool
  | [], _ => true
  | x :: xs, ys => (match ys with | y :: ys => alikeD x y && alikeDs xs ys | [] => true)
end
def ltT (x y : Tx) : Bool := decide (x < y)
mutual
/-- x < y of alike data -/
def ltD : D → D → Bool
  | .bl a, y => (match y with | .bl b => !a && b | _ => false)
  | .int a, y => (match y with | .int b => decide (a < b) | _ => false)
  | .str a, y => (match y with | .str b => ltT a b | _ => false)
  | .tup xs, y => (match y with | .tup ys => ltDs xs ys | _ => false)
  | .lst xs, y => (match y with | .lst ys => ltDs xs ys | _ => false)
  | .non, _ => false
  | .dct _ _, _ => false
  | .dtu _ _, _ => false
  | .obj _ _, _ => false
  | .m _, _ => false
def ltDs : List D → List D → Bool
  | [], ys => (match ys with | [] => false | _ :: _ => true)
  | x :: xs, ys => (match ys with | [] => false | y :: ys => if eqD x y then ltDs xs ys else ltD x y)
end
def leD (x y : D) : Bool := !ltD y x
def isTup1 : D → Bool
  | .tup (_ :: _) => true
  | _ => false
def notTup : D → Bool
  | .tup _ => false
  | _ => true
/-- all pairs can be ordered: tuples that are not empty, or no tuples -/
def okSort (xs : List D) : Bool := xs.all (fun x => xs.all fun y => alikeD x y) && xs.all (fun x => decide (hgt x ≤ 64)) && (xs.all isTup1 || xs.all notTup)
def joinT (sep : Tx) (ts : List Tx) : Tx := (PySem.Txt.join (toS sep) (ts.map toS)).cps.toList
def splitT (s sep : Tx) : List Tx := (PySem.Txt.split (toS s) (toS sep)).map fun z => z.cps.toList
def intT (i : Int) : Tx := (toString i).toList.map Char.toNat
def idxOfT (x : Tx) : List Tx → Option Nat
  | [] => none
  | y :: ys => if x = y then some 0 else (idxOfT x ys).map (· + 1)
def idxOfD (x : D) : List D → Option Nat
  | [] => none
  | y :: ys => if eqD y x then some 0 else (idxOfD x ys).map (· + 1)

/-- what isinstance of a built-in type is not asked of -/
def noIs : D → Bool
  | .dct _ _ => true
  | .dtu _ _ => true
  | .obj _ _ => true
  | _ => false
def isObj : D → Bool
  | .obj _ _ => true
  | _ => false
/-- freeze -/
def frzS (d : D) (mm : Mm) : Option RE := match d with
  | .m k => (match mm[k]? with
    | some (.mu c) => if isObj c then none else okE c (mm.set k (.fz c))
    | some (.fz c) => okE c mm
    | none => none)
  | d => okE d mm
def unS (o : U1) (d : D) (mm : Mm) : Option RE := match o with
  | .neg => (match d with | .int i => okE (.int (-i)) mm | _ => none)
  | .len => (match rd mm d with
    | .str s => if s.length ≤ szl then okE (.int s.length) mm else none
    | .tup xs => okE (.int xs.length) mm
    | .lst xs => okE (.int xs.length) mm
    | _ => none)
  | .int => (match d with | .int i => okE (.int i) mm | .bl b => okE (.int (if b then 1 else 0)) mm | _ => none)
  | .any => (match rd mm d with | .lst xs => (match allBl xs with | some bs => okE (.bl (bs.any id)) mm | none => none) | _ => none)
  | .all => (match rd mm d with | .lst xs => (match allBl xs with | some bs => okE (.bl (bs.all id)) mm | none => none) | _ => none)
  | .sorted => (match rd mm d with | .lst xs => if okSort xs then okE (.lst (xs.mergeSort leD)) mm else none | _ => none)
  | .list => (match rd mm d with | .lst xs => okE (.lst xs) mm | .tup xs => okE (.lst xs) mm | _ => none)
  | .listM => (match rd mm d with | .lst xs => okE (.m mm.length) (mm ++ [.mu (.lst xs)]) | .tup xs => okE (.m mm.length) (mm ++ [.mu (.lst xs)]) | _ => none)
  | .tuple => (match rd mm d with | .lst xs => okE (.tup xs) mm | .tup xs => okE (.tup xs) mm | _ => none)
  | .str => (match d with | .int i => if decide (i.natAbs < 10 ^ 60) && okT (intT i) then okE (.str (intT i)) mm else none | .str s => okE (.str s) mm | _ => none)
  | .minl => (match rd mm d with | .lst xs => (match allInt xs with | some (n :: ns) => okE (.int (ns.foldl min n)) mm | _ => none) | _ => none)
  | .maxl => (match rd mm d with | .lst xs => (match allInt xs with | some (n :: ns) => okE (.int (ns.foldl max n)) mm | _ => none) | _ => none)
  | .pop => (match d with
    | .m k => (match mm[k]? with
      | some (.mu (.lst xs)) => (match xs.getLast? with | some x => okE x (mm.set k (.mu (.lst xs.dropLast))) | none => none)
      | _ => none)
    | _ => none)
  | .frz => frzS d mm
  | .lenD => (match rd mm d with | .dct ks _ => okE (.int ks.length) mm | .dtu ks _ => okE (.int ks.length) mm | _ => none)
  | .listD => (match rd mm d with | .dct ks _ => okE (.lst ks) mm | _ => none)
  | .sortD => (match rd mm d with | .dct ks _ => (match allStr ks with | some ts => if decide (ts.length < 64) then okE (.lst ((ts.mergeSort fun x y => !ltT y x).map .str)) mm else none | none => none) | _ => none)
  | .isN => okE (.bl (match d with | .non => true | _ => false)) mm
  | .notN => okE (.bl (match d with | .non => false | _ => true)) mm
  | .isi t => (match noIs (rd mm d) with
    | true => none
    | false => (match isTy t (rd mm d) with | some b => okE (.bl b) mm | none => none))
  | .tix _ xs => (match d with | .str x => (match idxOfT x xs with | some j => okE (.int j) mm | none => none) | _ => none)
  | .exv c => (match d with | .str m => okE (.obj c [.str m]) mm | _ => none)
  | .exi c => if pureD d then okE (.obj c [d]) mm else none
  | .isx _ bs => (match d with | .obj c (_ :: _) => (match bs.lookup c with | some b => okE (.bl b) mm | none => none) | _ => none)
  | .strx cs => (match d with | .obj c [.str m] => if cs.contains c then okE (.str m) mm else none | _ => none)
  | .fld c => (match d with | .obj c' [y] => if c' == c then okE y mm else none | _ => none)
  | .ifl c j => (match d with | .m k => (match mm[k]? with | some (.mu (.obj c' fs)) => if c' == c then (match fs[j]? with | some y => okE y mm | none => none) else none | _ => none) | _ => none)
  | .isc c => (match d with | .m k => (match mm[k]? with | some (.mu (.obj c' _)) => if c' == c then okE (.bl true) mm else none | _ => none) | .tup _ => okE (.bl false) mm | _ => none)
def eqS (a b : D) (neg : Bool) (mm : Mm) : Option RE := if okEq (rd mm a) && okEq (rd mm b) then okE (.bl (if neg then !eqD (rd mm a) (rd mm b) else eqD (rd mm a) (rd mm b))) mm else none
def memS (a b : D) (neg : Bool) (mm : Mm) : Option RE := match rd mm b with
  | .lst xs => if okEq a && okEq (.lst xs) then okE (.bl (if neg then !memD a xs else memD a xs)) mm else none
  | .tup xs => if okEq a && okEq (.tup xs) then okE (.bl (if neg then !memD a xs else memD a xs)) mm else none
  | .dct ks _ => if isKT a && ks.all isKT then okE (.bl (if neg then !memD a ks else memD a ks)) mm else none
  | .dtu ks _ => if isKD a && ks.all isKD then okE (.bl (if neg then !memD a ks else memD a ks)) mm else none
  | _ => none
def cmpI (a b : D) (p : Int → Int → Bool) (mm : Mm) : Option RE := match a, b with
  | .int i, .int j => okE (.bl (p i j)) mm
  | _, _ => none
def addS (a b : D) (mm : Mm) : Option RE := match rd mm a with
  | .int i => (match rd mm b with | .int j => okE (.int (i + j)) mm | _ => none)
  | .str x => (match rd mm b with | .str y => if x.length + y.length ≤ szl then okE (.str (x ++ y)) mm else none | _ => none)
  | .tup x => (match rd mm b with | .tup y => if x.length + y.length ≤ szl then okE (.tup (x ++ y)) mm else none | _ => none)
  | .lst x => (match rd mm b with | .lst y => if x.length + y.length ≤ szl then okE (.lst (x ++ y)) mm else none | _ => none)
  | _ => none
def idxS (a b : D) (mm : Mm) : Option RE := match rd mm a with
  | .lst xs => (match b with | .int i => (match atD xs i with | some x => okE x mm | none => none) | _ => none)
  | .tup xs => (match b with | .int i => (match atD xs i with | some x => okE x mm | none => none) | _ => none)
  | .dct ks vs => if isKT b && ks.all isKT then (match idxOfD b ks with | some j => (match vs[j]? with | some x => okE x mm | none => none) | none => none) else none
  | .dtu ks vs => if isKD b && ks.all isKD then (match idxOfD b ks with | some j => (match vs[j]? with | some x => okE x mm | none => none) | none => none) else none
  | _ => none
/-- what a dict gives for a key -/
def getS (a b x : D) (mm : Mm) : Option RE := match rd mm a with
  | .dct ks vs => if isKT b && ks.all isKT then (match idxOfD b ks with | some j => (match vs[j]? with | some y => okE y mm | none => none) | none => okE x mm) else none
  | .dtu ks vs => if isKD b && ks.all isKD then (match idxOfD b ks with | some j => (match vs[j]? with | some y => okE y mm | none => none) | none => okE x mm) else none
  | _ => none
/-- a dict behind a store -/
def putD (c y d : D) : Option D := match c with
  | .dct ks vs => if isKT y && ks.all isKT && decide (ks.length < szl) then (match idxOfD y ks with | some j => some (.dct ks (vs.set j d)) | none => some (.dct (ks ++ [y]) (vs ++ [d]))) else none
  | .dtu ks vs => if isKD y && ks.all isKD && decide (ks.length < szl) then (match idxOfD y ks with | some j => some (.dtu ks (vs.set j d)) | none => some (.dtu (ks ++ [y]) (vs ++ [d]))) else none
  | _ => none
def rngL (lo : Int) (n : Nat) : List D := (List.range n).map fun (i : Nat) => .int (lo + (i : Int))
def binS (o : B2) (a b : D) (mm : Mm) : Option RE := match o with
  | .add => addS a b mm
  | .sub => (match a, b with | .int i, .int j => okE (.int (i - j)) mm | _, _ => none)
  | .mul => (match rd mm a with
    | .int i => (match b with | .int j => if small64 i || small64 j then okE (.int (i * j)) mm else none | _ => none)
    | .tup xs => (match b with | .int j => if decide (2 ≤ j) && decide (j ≤ 1000) && decide (0 < xs.length) && decide (xs.length ≤ 1000) then okE (.tup (List.replicate j.toNat xs).flatten) mm else none | _ => none)
    | _ => none)
  | .fdiv => (match a, b with | .int i, .int j => if decide (0 < j) && decide (j < 1073741824) then okE (.int (i / j)) mm else none | _, _ => none)
  | .mod => (match a, b with | .int i, .int j => if decide (0 < j) then okE (.int (i % j)) mm else none | _, _ => none)
  | .pow => (match a, b with | .int i, .int j => if decide (0 ≤ j) && decide (j ≤ 1000000) && small64 i then okE (.int (i ^ j.toNat)) mm else none | _, _ => none)
  | .eq => eqS a b false mm
  | .ne => eqS a b true mm
  | .lt => cmpI a b (fun i j => decide (i < j)) mm
  | .le => cmpI a b (fun i j => decide (i ≤ j)) mm
  | .gt => cmpI a b (fun i j => decide (j < i)) mm
  | .ge => cmpI a b (fun i j => decide (j ≤ i)) mm
  | .mem => memS a b false mm
  | .nmem => memS a b true mm
  | .idx => idxS a b mm
  | .app => (match a with
    | .m k => (match mm[k]? with
      | some (.mu (.lst xs)) => if pureD b && decide (xs.length < szl) then okE .non (mm.set k (.mu (.lst (xs ++ [b])))) else none
      | _ => none)
    | _ => none)
  | .popat => (match a with
    | .m k => (match mm[k]? with
      | some (.mu (.lst xs)) => (match b with
        | .int i => if decide (-1000000 ≤ i) && decide (i ≤ 1000000) then (match ixP xs.length i with
          | some j => (match xs[j]? with | some x => okE x (mm.set k (.mu (.lst (xs.eraseIdx j)))) | none => none)
          | none => none) else none
        | _ => none)
      | _ => none)
    | _ => none)
  | .split => (match a, b with | .str x, .str y => if decide (y ≠ []) && decide (x.length + 2 ≤ szl) && (splitT x y).all okT then okE (.lst ((splitT x y).map .str)) mm else none | _, _ => none)
  | .join => (match a with
    | .str x => (match rd mm b with
      | .lst ys => (match allStr ys with | some ts => if decide ((ts.map (·.length)).sum + ts.length * x.length ≤ 16777216) && okT (joinT x ts) then okE (.str (joinT x ts)) mm else none | none => none)
      | _ => none)
    | _ => none)
  | .index => (match rd mm a with
    | .lst xs => if okEq b && okEq (.lst xs) then (match idxOfD b xs with | some j => okE (.int j) mm | none => none) else none
    | _ => none)
  | .min2 => (match a, b with | .int i, .int j => okE (.int (if j < i then j else i)) mm | _, _ => none)
  | .max2 => (match a, b with | .int i, .int j => okE (.int (if j > i then j else i)) mm | _, _ => none)
  | .rep => (match a with
    | .m k => (match mm[k]? with
      | some (.mu (.lst xs)) => (match b with | .int j => if decide (0 ≤ j) && decide (j ≤ 1000) && decide (xs.length ≤ 1000) then okE (.lst (List.replicate j.toNat xs).flatten) mm else none | _ => none)
      | _ => none)
    | _ => none)
  | .lrng => (match a, b with | .int i, .int j => if decide (0 ≤ i) && decide (i ≤ 16777216) && decide (0 ≤ j) && decide (j ≤ 16777216) then okE (.lst (rngL i (j - i).toNat)) mm else none | _, _ => none)
/-- what a method is asked of -/
def recvOk (o : B2) (d : D) (mm : Mm) : Bool := match o with
  | .app => (match rd mm d with | .lst _ => true | _ => false)
  | .popat => (match rd mm d with | .lst _ => true | _ => false)
  | .index => (match rd mm d with | .lst _ => true | _ => false)
  | .split => (match d with | .str _ => true | _ => false)
  | .join => (match d with | .str _ => true | _ => false)
  | _ => false
def slcS (a : D) (lo hi : Option Int) (mm : Mm) : Option RE := match rd mm a with
  | .lst xs => okE (.lst (cutD xs lo hi)) mm
  | .tup xs => okE (.tup (cutD xs lo hi)) mm
  | .str s => if s.length ≤ szl then okE (.str (cutD s lo hi)) mm else none
  | _ => none
def isNo : E → Bool
  | .no => true
  | _ => false
def partS (no : Bool) (d : D) : Option (Option Int) := if no then some none else (match d with | .int i => some (some i) | _ => none)
def bool? : D → Option Bool
  | .bl b => some b
  | _ => none
/-- bind a target -/
def bindT (tg : Tg) (d : D) (sl : Sl) : Option Sl := match tg with
  | .nm i => some (sl.set i (some d))
  | .tp is => (match d with
    | .tup xs => if xs.length == is.length then some ((is.zip xs).foldl (fun sl p => sl.set p.1 (some p.2)) sl) else none
    | _ => none)
def zipD : List D → List D → List D
  | x :: xs, ys => (match ys with | y :: ys => .tup [x, y] :: zipD xs ys | [] => [])
  | [], _ => []
def enmD : Nat → List D → List D
  | _, [] => []
  | n, x :: xs => .tup [.int n, x] :: enmD (n + 1) xs
/-- calls: the objects that are lent -/
def lentOf : List D → List Nat
  | [] => []
  | .m k :: r => k :: lentOf r
  | _ :: r => lentOf r
def argsOf : Nat → List D → List D
  | _, [] => []
  | n, .m _ :: r => .m n :: argsOf (n + 1) r
  | n, d :: r => d :: argsOf n r
def okArg : D → Bool
  | .m _ => true
  | d => pureD d
def takeMu (mm : Mm) : List Nat → Option Mm
  | [] => some []
  | k :: r => (match mm[k]? with | some (.mu c) => (takeMu mm r).map (.mu c :: ·) | _ => none)
def putMu (mm : Mm) : List Nat → Mm → Mm
  | k :: ks, bs => (match bs with | b :: bs => putMu (mm.set k b) ks bs | [] => mm)
  | [], _ => mm
/-- the handed value, at the caller -/
def backM (ks : List Nat) (n j : Nat) : D := match ks[j]? with
  | some k => .m k
  | none => .m (n + (j - ks.length))
def backD (ks : List Nat) (n : Nat) (d : D) : Option D := match pureD d with
  | true => some d
  | false => (match d with
    | .m j => some (backM ks n j)
    | .tup [x, .m j] => if pureD x then some (.tup [x, backM ks n j]) else none
    | _ => none)
def callS (cf : List D → Mm → Option FR) (ds : List D) (mm : Mm) : Option RE :=
  if ds.all okArg && decide (lentOf ds).Nodup then
    (match takeMu mm (lentOf ds) with
    | none => none
    | some bs => (match cf (argsOf 0 ds) bs with
      | none => none
      | some (.rt d bs' new) => if bs'.length = (lentOf ds).length then (match backD (lentOf ds) mm.length d with
        | some d' => some (.ok d' (putMu mm (lentOf ds) bs' ++ new))
        | none => none) else none
      | some (.ex x bs') => if bs'.length = (lentOf ds).length then some (.ex x (putMu mm (lentOf ds) bs')) else none))
  else none
/-- an instance of the class c -/
def isInst (c : Nat) (mm : Mm) : D → Bool
  | .m k => (match mm[k]? with | some (.mu (.obj c' _)) => c' == c | _ => false)
  | _ => false
/-- what an own == is asked of: an instance, a tuple -/
def eqArg (c : Nat) (mm : Mm) : D → Bool
  | .tup _ => true
  | y => isInst c mm y
/-- the arguments by the parameters: none: the next one that is given -/
def fillA : List (Option D) → List D → List D
  | [], ds => ds
  | some d :: r, ds => d :: fillA r ds
  | none :: r, ds => (match ds with | d :: ds => d :: fillA r ds | [] => [])
/-- a new instance -/
def mkS (cf : List D → Mm → Option FR) (c : Nat) (ds : List D) (mm : Mm) : Option RE :=
  match callS cf (.m mm.length :: ds) (mm ++ [.mu (.obj c [])]) with
  | some (.ok .non mm2) => okE (.m mm.length) mm2
  | some (.ex x mm2) => some (.ex x mm2)
  | _ => none
def noEx (r : Option RE) : Option RE := match r with
  | some (.ok d mm) => some (.ok d mm)
  | _ => none
def opS (cf : List D → Mm → Option FR) (o : Op) (c : Nat) (r : D) (ds : List D) (mm : Mm) : Option RE := match o with
  | .meth => callS cf (r :: ds) mm
  | .call => if isInst c mm r then callS cf (r :: ds) mm else none
  | .prop => (match ds with | [] => noEx (callS cf [r] mm) | _ => none)
  | .shr => if isInst c mm r then (match ds with | [.tup xs] => callS cf [r, .tup xs] mm | [.non] => callS cf [r, .non] mm | [.lst xs] => callS cf [r, .lst xs] mm | _ => none) else none
  | .item => (match ds with | [x] => if isInst c mm r then callS cf [r, x] mm else none | _ => none)
  | .iadd => (match ds with | [x] => if isInst c mm r then callS cf [r, x] mm else none | _ => none)
  | .eq => (match ds with | [x] => if isInst c mm r && eqArg c mm x then (match callS cf [r, x] mm with | some (.ok (.bl b) mm1) => okE (.bl b) mm1 | _ => none) else none | _ => none)
  | .inn => (match ds with | [x] => if isInst c mm x then (match callS cf [x, r] mm with | some (.ok (.bl b) mm1) => okE (.bl b) mm1 | _ => none) else none | _ => none)
  | .len => (match ds with | [] => if isInst c mm r then (match callS cf [r] mm with | some (.ok (.int n) mm1) => if decide (0 ≤ n) && decide (n ≤ 1000000) then okE (.int n) mm1 else none | _ => none) else none | _ => none)
  | .strO => (match ds with | [] => if isInst c mm r then (match callS cf [r] mm with | some (.ok (.str s) mm1) => okE (.str s) mm1 | _ => none) else none | _ => none)
  | .clsm => noEx (callS cf (.obj c [] :: ds) mm)
  | .lgen => (match ds with | [] => if isInst c mm r then noEx (callS cf [r] mm) else none | _ => none)
/-- whether the first operand is the instance that is asked -/
def Op.recv : Op → Bool
  | .inn => false
  | .clsm => false
  | _ => true
/-- a def's end -/
def finF (b : Nat) (d : D) (mm : Mm) : Option FR :=
  if (mm.take b).all M.isMu then
    (match pureD d with
    | true => some (.rt d (mm.take b) [])
    | false => (match d with
      | .m k => if k < b then some (.rt (.m k) (mm.take b) []) else (match mm[k]? with | some (.mu c) => some (.rt (.m b) (mm.take b) [.mu c]) | _ => none)
      | .tup [x, .m k] => if pureD x then (if k < b then some (.rt (.tup [x, .m k]) (mm.take b) []) else (match mm[k]? with | some (.mu c) => some (.rt (.tup [x, .m b]) (mm.take b) [.mu c]) | _ => none)) else none
      | _ => none))
  else none
def exF (b : Nat) (x : Ex) (mm : Mm) : Option FR := if (mm.take b).all M.isMu then some (.ex x (mm.take b)) else none
def mapE (f : D → Mm → Option RE) : List D → List D → Mm → Option RE
  | [], acc, mm => okE (.lst acc) mm
  | x :: xs, acc, mm => bindE (f x mm) fun d mm' => mapE f xs (match d with | .tup [.bl true, y] => acc ++ [y] | _ => acc) mm'
def tgIx : Tg → List Nat
  | .nm i => [i]
  | .tp is => is
/-- the slots of a comprehension's own names are forgotten -/
def wipeS (sl : Sl) : List Nat → Sl
  | [] => sl
  | v :: vs => (wipeS sl vs).set v none
/-- the turns of a comprehension: none where an error would leave it -/
def lcS (tg : Tg) (cnd elt : Sl → Mm → Option RE) (sl : Sl) : List D → List D → Mm → Option RE
  | [], acc, mm => okE (.lst acc) mm
  | x :: xs, acc, mm => (match bindT tg x (wipeS sl (tgIx tg)) with
    | none => none
    | some sl' => (match cnd sl' mm with
      | some (.ok (.bl true) mm1) => (match elt sl' mm1 with
        | some (.ok d mm2) => if pureD d && decide (acc.length < szl) then lcS tg cnd elt sl xs (acc ++ [d]) mm2 else none
        | _ => none)
      | some (.ok (.bl false) mm1) => lcS tg cnd elt sl xs acc mm1
      | _ => none))
/-- a for's turns -/
def forS (tg : Tg) (body : Sl → Mm → Option RS) : List D → Sl → Mm → Option RS
  | [], sl, mm => some (.nx sl mm)
  | x :: xs, sl, mm => (match bindT tg x sl with
    | none => none
    | some sl1 => (match body sl1 mm with
      | some (.nx sl2 mm2) => forS tg body xs sl2 mm2
      | some (.ct sl2 mm2) => forS tg body xs sl2 mm2
      | some (.bk sl2 mm2) => some (.nx sl2 mm2)
      | r => r))
/-- a while's turns: so many at most -/
def whlS (cnd : Sl → Mm → Option RE) (body : Sl → Mm → Option RS) : Nat → Sl → Mm → Option RS
  | 0, _, _ => none
  | n + 1, sl, mm => (match cnd sl mm with
    | some (.ok (.bl true) mm1) => (match body sl mm1 with
      | some (.nx sl2 mm2) => whlS cnd body n sl2 mm2
      | some (.ct sl2 mm2) => whlS cnd body n sl2 mm2
      | some (.bk sl2 mm2) => some (.nx sl2 mm2)
      | r => r)
    | some (.ok (.bl false) mm1) => some (.nx sl mm1)
    | some (.ex x mm1) => some (.ex x sl mm1)
    | _ => none)
def wMost : Nat := 1000000000000
def listItems (d : D) : Option (List D) := match d with
  | .lst xs => some xs
  | .dtu ks _ => some ks
  | .tup xs => some xs
  | _ => none
inductive RI where
  | ok (xs : List D) (mm : Mm)
  | ex (x : Ex) (mm : Mm)
inductive RL where
  | ok (ds : List D) (mm : Mm)
  | ex (x : Ex) (mm : Mm)

section
variable (T : Nat → FDef) (gv : Nat → D) (cf : Nat → List D → Mm → Option FR)
mutual
def semE : E → Sl → Mm → Option RE
  | .var i, sl, mm => (match sl[i]? with | some (some d) => okE d mm | _ => none)
  | .cst d, _, mm => okE d mm
  | .glb g, _, mm => okE (gv g) mm
  | .tup es, sl, mm => (match semEs es sl mm with
    | some (.ok ds mm1) => if ds.length ≤ szl then okE (.tup ds) mm1 else none
    | some (.ex x mm1) => some (.ex x mm1)
    | none => none)
  | .lst es, sl, mm => (match semEs es sl mm with
    | some (.ok ds mm1) => if pureDs ds && decide (ds.length ≤ szl) then okE (.lst ds) mm1 else none
    | some (.ex x mm1) => some (.ex x mm1)
    | none => none)
  | .nls es, sl, mm => (match semEs es sl mm with
    | some (.ok ds mm1) => if pureDs ds && decide (ds.length ≤ szl) then okE (.m mm1.length) (mm1 ++ [.mu (.lst ds)]) else none
    | some (.ex x mm1) => some (.ex x mm1)
    | none => none)
  | .un o a, sl, mm => bindE (semE a sl mm) (unS o)
  | .bin o a b, sl, mm => bindE (semE a sl mm) fun x mm1 => bindE (semE b sl mm1) (binS o x)
  | .mth o a b, sl, mm => bindE (semE a sl mm) fun x mm1 => if recvOk o x mm1 then bindE (semE b sl mm1) (binS o x) else none
  | .not a, sl, mm => bindE (semE a sl mm) fun x mm1 => (match x with | .bl b => okE (.bl (!b)) mm1 | _ => none)
  | .and a b, sl, mm => bindE (semE a sl mm) fun x mm1 => (match x with | .bl true => semE b sl mm1 | .bl false => okE (.bl false) mm1 | _ => none)
  | .or a b, sl, mm => bindE (semE a sl mm) fun x mm1 => (match x with | .bl true => okE (.bl true) mm1 | .bl false => semE b sl mm1 | _ => none)
  | .ite c a b, sl, mm => bindE (semE c sl mm) fun x mm1 => (match x with | .bl true => semE a sl mm1 | .bl false => semE b sl mm1 | _ => none)
  | .chn o p a b c, sl, mm => bindE (semE a sl mm) fun x mm1 => bindE (semE b sl mm1) fun y mm2 => bindE (binS o x y mm2) fun z mm3 => (match z with
    | .bl true => bindE (semE c sl mm3) (binS p y)
    | .bl false => okE (.bl false) mm3
    | _ => none)
  | .call f es, sl, mm => (match semEs es sl mm with
    | some (.ok ds mm1) => callS (cf f) ds mm1
    | some (.ex x mm1) => some (.ex x mm1)
    | none => none)
  | .call0 f, _, mm => (match callS (cf f) [] mm with
    | some (.ok d mm1) => some (.ok d mm1)
    | _ => none)
  | .slc a lo hi, sl, mm => bindE (semE a sl mm) fun x mm1 => bindE (semE lo sl mm1) fun l mm2 => (match partS (isNo lo) l with
    | none => none
    | some l => bindE (semE hi sl mm2) fun h mm3 => (match partS (isNo hi) h with
      | none => none
      | some h => slcS x l h mm3))
  | .no, _, mm => okE .non mm
  | .dsp ks es, sl, mm => (match semEs es sl mm with
    | some (.ok ds mm1) => if pureDs ds && decide (ks.length = ds.length) && decide (ks.length ≤ 15) && decide (0 < ks.length) && ks.all isKT && ndK ks && ks.all okKT then okE (.dct ks ds) mm1 else none
    | some (.ex x mm1) => some (.ex x mm1)
    | none => none)
  | .dn tk, _, mm => okE (.m mm.length) (mm ++ [.mu (if tk then .dtu [] [] else .dct [] [])])
  | .d1 k v, sl, mm => bindE (semE k sl mm) fun y mm1 => bindE (semE v sl mm1) fun d mm2 => if isKD y && pureD d then okE (.m mm2.length) (mm2 ++ [.mu (.dtu [y] [d])]) else none
  | .get1 a k, sl, mm => bindE (semE a sl mm) fun c mm1 => if isDct (rd mm1 c) then bindE (semE k sl mm1) fun y mm2 => getS c y .non mm2 else none
  | .get2 a k x, sl, mm => bindE (semE a sl mm) fun c mm1 => if isDct (rd mm1 c) then bindE (semE k sl mm1) fun y mm2 => bindE (semE x sl mm2) fun z mm3 => getS c y z mm3 else none
  | .mk c f es es2 fl, sl, mm => (match semEs es sl mm with
    | some (.ok ds mm1) => (match semEs es2 sl mm1 with
      | some (.ok ds2 mm2) => mkS (cf f) c (fillA fl (ds ++ ds2)) mm2
      | some (.ex x mm1) => some (.ex x mm1)
      | none => none)
    | some (.ex x mm1) => some (.ex x mm1)
    | none => none)
  | .opc o c f a es, sl, mm => bindE (semE a sl mm) fun r mm1 => if o.recv && !isInst c mm1 r then none else (match semEs es sl mm1 with
    | some (.ok ds mm2) => opS (cf f) o c r ds mm2
    | some (.ex x mm2) => some (.ex x mm2)
    | none => none)
  | .op2 o c f a b, sl, mm => bindE (semE a sl mm) fun r mm1 => if o.recv && !isInst c mm1 r then none else bindE (semE b sl mm1) fun x mm2 => opS (cf f) o c r [x] mm2
  | .ccn g, _, mm => okE (gv g) mm
  | .lc mu tg elt it cnd, sl, mm => (match semI it sl mm with
    | some (.ok xs mm1) => bindE (lcS tg (semE cnd) (semE elt) sl xs [] mm1) fun d mm2 => if mu then okE (.m mm2.length) (mm2 ++ [.mu d]) else okE d mm2
    | some (.ex x mm1) => some (.ex x mm1)
    | none => none)
def semEs : Es → Sl → Mm → Option RL
  | .nil, _, mm => some (.ok [] mm)
  | .cons e es, sl, mm => (match semE e sl mm with
    | some (.ok d mm1) => (match semEs es sl mm1 with
      | some (.ok ds mm2) => some (.ok (d :: ds) mm2)
      | r => r)
    | some (.ex x mm1) => some (.ex x mm1)
    | none => none)
def semI : It → Sl → Mm → Option RI
  | .seq a, sl, mm => (match bindE (semE a sl mm) frzS with
    | some (.ok d mm1) => (match listItems d with | some xs => some (.ok xs mm1) | none => none)
    | some (.ex x mm1) => some (.ex x mm1)
    | none => none)
  | .rng a, sl, mm => (match semE a sl mm with
    | some (.ok (.int n) mm1) => if small64 (4 * n) then some (.ok (rngL 0 n.toNat) mm1) else none
    | some (.ex x mm1) => some (.ex x mm1)
    | _ => none)
  | .rng2 a b, sl, mm => (match semE a sl mm with
    | some (.ok (.int n) mm1) => (match semE b sl mm1 with
      | some (.ok (.int k) mm2) => if small64 (4 * n) && small64 (4 * k) then some (.ok (rngL n (k - n).toNat) mm2) else none
      | some (.ex x mm1) => some (.ex x mm1)
      | _ => none)
    | some (.ex x mm1) => some (.ex x mm1)
    | _ => none)
  | .zip a b, sl, mm => (match bindE (semE a sl mm) frzS with
    | some (.ok d mm1) => (match bindE (semE b sl mm1) frzS with
      | some (.ok e mm2) => (match d, e with | .tup xs, .tup ys => some (.ok (zipD xs ys) mm2) | .lst xs, .lst ys => some (.ok (zipD xs ys) mm2) | .tup xs, .lst ys => some (.ok (zipD xs ys) mm2) | _, _ => none)
      | some (.ex x mm1) => some (.ex x mm1)
      | none => none)
    | some (.ex x mm1) => some (.ex x mm1)
    | none => none)
  | .enm a, sl, mm => (match bindE (semE a sl mm) frzS with
    | some (.ok d mm1) => (match d with | .lst xs => some (.ok (enmD 0 xs) mm1) | _ => none)
    | some (.ex x mm1) => some (.ex x mm1)
    | none => none)
end
end
/-- what the except clauses say of an error: some value is handed back, or it goes on; none: not known -/
def hsS (sub : Nat → Nat → Option Bool) : Hs → Ex → Option (Option D)
  | .nil, _ => some none
  | .cons c d hs, x => (match sub x.cls c with
    | none => none
    | some true => some (some d)
    | some false => hsS sub hs x)
section
variable (sub : Nat → Nat → Option Bool) (gv : Nat → D) (cf : Nat → List D → Mm → Option FR)
mutual
def semS : S → Sl → Mm → Option RS
  | .asg i e, sl, mm => (match semE gv cf e sl mm with
    | some (.ok d mm1) => some (.nx (sl.set i (some d)) mm1)
    | some (.ex x mm1) => some (.ex x sl mm1)
    | none => none)
  | .unp is e, sl, mm => (match semE gv cf e sl mm with
    | some (.ok d mm1) => (match bindT (.tp is) d sl with | some sl1 => some (.nx sl1 mm1) | none => none)
    | some (.ex x mm1) => some (.ex x sl mm1)
    | none => none)
  | .par i j a b, sl, mm => (match semE gv cf a sl mm with
    | some (.ok d mm1) => (match semE gv cf b sl mm1 with
      | some (.ok e mm2) => some (.nx ((sl.set i (some d)).set j (some e)) mm2)
      | some (.ex x mm1) => some (.ex x sl mm1)
      | none => none)
    | some (.ex x mm1) => some (.ex x sl mm1)
    | none => none)
  | .sto i ix e, sl, mm => (match semE gv cf e sl mm with
    | some (.ok d mm1) => (match sl[i]? with
      | some (some (.m k)) => (match semE gv cf ix sl mm1 with
        | some (.ok (.int j) mm2) => (match mm2[k]? with
          | some (.mu (.lst xs)) => (match ixP xs.length j with
            | some p => if pureD d then some (.nx sl (mm2.set k (.mu (.lst (xs.set p d))))) else none
            | none => none)
          | _ => none)
        | some (.ex x mm1) => some (.ex x sl mm1)
        | _ => none)
      | _ => none)
    | some (.ex x mm1) => some (.ex x sl mm1)
    | none => none)
  | .dead, _, _ => none
  | .std i ix e, sl, mm => (match semE gv cf e sl mm with
    | some (.ok d mm1) => (match sl[i]? with
      | some (some (.m k)) => (match semE gv cf ix sl mm1 with
        | some (.ok y mm2) => (match mm2[k]? with
          | some (.mu c) => if pureD d then (match putD c y d with
            | some c' => some (.nx sl (mm2.set k (.mu c')))
            | none => none) else none
          | _ => none)
        | some (.ex x mm1) => some (.ex x sl mm1)
        | none => none)
      | _ => none)
    | some (.ex x mm1) => some (.ex x sl mm1)
    | none => none)
  | .stf c i j e, sl, mm => (match semE gv cf e sl mm with
    | some (.ok d mm1) => (match sl[i]? with
      | some (some (.m k)) => (match mm1[k]? with
        | some (.mu (.obj c' fs)) => if (c' == c) && pureD d then (if decide (j < fs.length) then some (.nx sl (mm1.set k (.mu (.obj c (fs.set j d))))) else if decide (j = fs.length) then some (.nx sl (mm1.set k (.mu (.obj c (fs ++ [d]))))) else none) else none
        | _ => none)
      | _ => none)
    | some (.ex x mm1) => some (.ex x sl mm1)
    | none => none)
  | .par3 i j l a b c, sl, mm => (match semEs gv cf (.cons a (.cons b (.cons c .nil))) sl mm with
    | some (.ok [u, v, w] mm1) => some (.nx (((sl.set i (some u)).set j (some v)).set l (some w)) mm1)
    | some (.ex x mm1) => some (.ex x sl mm1)
    | _ => none)
  | .exp e, sl, mm => (match semE gv cf e sl mm with
    | some (.ok _ mm1) => some (.nx sl mm1)
    | some (.ex x mm1) => some (.ex x sl mm1)
    | none => none)
  | .ret e, sl, mm => (match semE gv cf e sl mm with
    | some (.ok d mm1) => some (.rt d mm1)
    | some (.ex x mm1) => some (.ex x sl mm1)
    | none => none)
  | .retn, _, mm => some (.rt .non mm)
  | .ifs c a b, sl, mm => (match semE gv cf c sl mm with
    | some (.ok (.bl true) mm1) => semB a sl mm1
    | some (.ok (.bl false) mm1) => semB b sl mm1
    | some (.ex x mm1) => some (.ex x sl mm1)
    | _ => none)
  | .for tg it b, sl, mm => (match semI gv cf it sl mm with
    | some (.ok xs mm1) => forS tg (semB b) xs sl mm1
    | some (.ex x mm1) => some (.ex x sl mm1)
    | none => none)
  | .whl c b, sl, mm => whlS (semE gv cf c) (semB b) wMost sl mm
  | .brk, sl, mm => some (.bk sl mm)
  | .cnt, sl, mm => some (.ct sl mm)
  | .pass, sl, mm => some (.nx sl mm)
  | .rse c es, sl, mm => (match semEs gv cf es sl mm with
    | some (.ok ds mm1) => (match ds with | [] => some (.ex ⟨c, []⟩ sl mm1) | [y] => if pureD y then some (.ex ⟨c, [y]⟩ sl mm1) else none | _ => none)
    | some (.ex x mm1) => some (.ex x sl mm1)
    | none => none)
  | .try b hs, sl, mm => (match semB b sl mm with
    | some (.ex x sl1 mm1) => (match hsS sub hs x with
      | none => none
      | some (some d) => some (.rt d mm1)
      | some none => some (.ex x sl1 mm1))
    | r => r)
def semB : B → Sl → Mm → Option RS
  | .nil, sl, mm => some (.nx sl mm)
  | .cons s b, sl, mm => (match semS s sl mm with
    | some (.nx sl1 mm1) => semB b sl1 mm1
    | r => r)
end
end
def startS (n : Nat) (args : List D) : Sl := args.map some ++ List.replicate (n - args.length) none
/-- a call at depth n -/
def callF (sub : Nat → Nat → Option Bool) (T : Nat → FDef) (gv : Nat → D) : Nat → Nat → List D → Mm → Option FR
  | 0, _, _, _ => none
  | n + 1, f, args, bs =>
    if args.length == (T f).np then
      (match semB sub gv (callF sub T gv n) (T f).body (startS (T f).ns args) bs with
      | some (.nx _ mm) => finF bs.length .non mm
      | some (.rt d mm) => finF bs.length d mm
      | some (.ex x _ mm) => exF bs.length x mm
      | _ => none)
    else none
end Mp
/-! Mp2: how data lie in the abstract heap of the hand layer. -/
namespace Mp
open PySem PySem.Spec
open PyProof.Rows L2

/-- a list, a tuple that does not change any more -/
def LstZ (Z : Addr → Prop) (H : Hp) (a : Addr) (vs : List V) : Prop := Z a ∧ Rd H a (.lst vs)
def TupZ (K : PySem.W.Frag) (Z : Addr → Prop) (H : Hp) (a : Addr) (vs : List V) : Prop :=
  (Z a ∧ Rd H a (.tup vs)) ∨
    ∃ (o : Obj) (its : Array Value) (n : Nat), K.lookup a = some o ∧ o.cls = .type "tuple" ∧ o.dict = none ∧ o.data = .seq its n ∧ its.size ≤ sizeLine ∧ Vals vs its.toList
theorem LstZ.sq {K : PySem.W.Frag} {Z : Addr → Prop} {H : Hp} {a : Addr} {vs : List V} (h : LstZ Z H a vs) : SqL K H a vs := .inl h.2
theorem TupZ.sq {K : PySem.W.Frag} {Z : Addr → Prop} {H : Hp} {a : Addr} {vs : List V} (h : TupZ K Z H a vs) : SqT K H a vs := by
  rcases h with h | ⟨o, its, n, h1, h2, _, h3⟩
  · exact .inl h.2
  · exact .inr ⟨o, its, n, h1, h2, h3⟩
/-- a key of a dict -/
def keyT : D → L2.Key
  | .int i => .inl i
  | .str s => .inr (toS s)
  | _ => .inl 0
mutual
/-- a key of any depth -/
def nkT : D → NestedKey
  | .non => .none
  | .int i => .num i
  | .str s => .text (toS s)
  | .tup xs => .tup (nkTs xs)
  | _ => .none
def nkTs : List D → List NestedKey
  | [] => []
  | x :: xs => nkT x :: nkTs xs
end
/-- the written part; the form of dicts with such keys -/
structure Kx where
  K : PySem.W.Frag
  dn : Addr → Obj → Nkv → HO
  /-- classes of errors; the attribute of those with own __init__ -/
  xa : Nat → Addr
  xk : Nat → Option Str
  /-- the fields of own classes, in the order in which they are set first -/
  cf : Nat → List Str
instance : Coe Kx PySem.W.Frag := ⟨Kx.K⟩
section
variable (K : Kx) (ad : List Addr) (Z : Addr → Prop) (H : Hp)
mutual
/-- the value v is the datum -/
def RepV : D → V → Prop
  | .non, v => v = .non
  | .bl b, v => v = .bl b
  | .int i, v => v = .int i
  | .str s, v => v = .str (toS s) ∧ okT s = true
  | .tup xs, v => ∃ a vs, v = .ref a ∧ TupZ K Z H a vs ∧ RepL xs vs
  | .lst xs, v => ∃ a vs, v = .ref a ∧ LstZ Z H a vs ∧ RepL xs vs
  | .dct ks xs, v => ∃ a kvs, v = .ref a ∧ Z a ∧ Rd H a (.dK kvs) ∧ kvs.map (·.1) = ks.map keyT ∧ ks.all isKT = true ∧ RepL ks (kvs.map fun q => kV q.1) ∧ RepL xs (kvs.map (·.2))
  | .dtu ks xs, v => ∃ a o kvs, v = .ref a ∧ Z a ∧ Rd H a (K.dn a o kvs) ∧ kvs.map (·.1) = ks.map nkT ∧ ks.all isKD = true ∧ RepL ks (kvs.map fun q => V.ref q.2.1) ∧ RepL xs (kvs.map (·.2.2))
  | .obj c fs, v => (fs = [] ∧ v = .ref (K.xa c)) ∨ ∃ a y, v = .ref a ∧ Z a ∧ RepL fs [y] ∧ ((K.xk c = none ∧ ∃ t0 m, y = .str m ∧ Rd H a (ExV (K.xa c) a t0) ∧ TupZ K Z H t0 [y]) ∨ ∃ n d, K.xk c = some n ∧ Z d ∧ Rd H a (L2.exo a (K.xa c) (some d)) ∧ Rd H d (L2.exd d [(n, y)]))
  | .m k, v => ∃ a, ad[k]? = some a ∧ v = .ref a
def RepL : List D → List V → Prop
  | [], vs => vs = []
  | x :: xs, vs => ∃ v r, vs = v :: r ∧ RepV x v ∧ RepL xs r
end
/-- the object at a, which may change, holds the datum -/
def RepM (d : D) (a : Addr) : Prop := match d with
  | .lst xs => ∃ vs, H a = some (.lst vs) ∧ RepL K ad Z H xs vs
  | .dct ks xs => ∃ kvs, H a = some (.dK kvs) ∧ kvs.map (·.1) = ks.map keyT ∧ ks.all isKT = true ∧ RepL K ad Z H ks (kvs.map fun q => kV q.1) ∧ RepL K ad Z H xs (kvs.map (·.2)) ∧ (ks.map keyT).Nodup
  | .dtu ks xs => ∃ o kvs, H a = some (K.dn a o kvs) ∧ kvs.map (·.1) = ks.map nkT ∧ ks.all isKD = true ∧ RepL K ad Z H ks (kvs.map fun q => V.ref q.2.1) ∧ RepL K ad Z H xs (kvs.map (·.2.2)) ∧ (ks.map nkT).Nodup
  | .obj c fs => ∃ dx vs, H a = some (.ins (K.xa c) dx ((K.cf c).zip vs)) ∧ RepL K ad Z H fs vs ∧ fs.length ≤ (K.cf c).length
  | _ => False
end

/-- what grows while code runs -/
structure Le (ad : List Addr) (Z : Addr → Prop) (H : Hp) (ad' : List Addr) (Z' : Addr → Prop) (H' : Hp) : Prop where
  ad : ∃ l, ad' = ad ++ l
  z : ∀ a, Z a → Z' a
  rd : ∀ a u, Z a → Rd H a u → Rd H' a u
section
variable {K : Kx} {ad ad' ad2 : List Addr} {Z Z' Z2 : Addr → Prop} {H H' H2 : Hp}
theorem Le.refl : Le ad Z H ad Z H := ⟨⟨[], by simp⟩, fun _ h => h, fun _ _ _ h => h⟩
theorem Le.trans (a : Le ad Z H ad' Z' H') (b : Le ad' Z' H' ad2 Z2 H2) : Le ad Z H ad2 Z2 H2 := by
  obtain ⟨l, rfl⟩ := a.ad
  obtain ⟨l2, rfl⟩ := b.ad
  exact ⟨⟨l ++ l2, by simp⟩, fun x h => b.z x (a.z x h), fun x u h r => b.rd x u (a.z x h) (a.rd x u h r)⟩
theorem Le.get (a : Le ad Z H ad' Z' H') {k : Nat} {x : Addr} (h : ad[k]? = some x) : ad'[k]? = some x := by
  obtain ⟨l, rfl⟩ := a.ad
  have hk : k < ad.length := (List.getElem?_eq_some_iff.mp h).1
  rw [List.getElem?_append_left hk]; exact h
theorem LstZ.le (a : Le ad Z H ad' Z' H') {x : Addr} {vs : List V} (h : LstZ Z H x vs) : LstZ Z' H' x vs := ⟨a.z _ h.1, a.rd _ _ h.1 h.2⟩
theorem TupZ.le (a : Le ad Z H ad' Z' H') {x : Addr} {vs : List V} (h : TupZ K Z H x vs) : TupZ K Z' H' x vs := h.imp (fun h => ⟨a.z _ h.1, a.rd _ _ h.1 h.2⟩) id
mutual
theorem RepV.le (a : Le ad Z H ad' Z' H') : ∀ (d : D) (v : V), RepV K ad Z H d v → RepV K ad' Z' H' d v
  | .non, _, h => by simp only [RepV] at h ⊢; exact h
  | .bl _, _, h => by simp only [RepV] at h ⊢; exact h
  | .int _, _, h => by simp only [RepV] at h ⊢; exact h
  | .str _, _, h => by simp only [RepV] at h ⊢; exact h
  | .tup xs, _, h => by
    simp only [RepV] at h ⊢
    obtain ⟨x, vs, e, t, r⟩ := h
    exact ⟨x, vs, e, t.le a, RepL.le a xs vs r⟩
  | .lst xs, _, h => by
    simp only [RepV] at h ⊢
    obtain ⟨x, vs, e, t, r⟩ := h
    exact ⟨x, vs, e, t.le a, RepL.le a xs vs r⟩
  | .dct ks xs, _, h => by
    simp only [RepV] at h ⊢
    obtain ⟨x, kvs, e, z, t, k, pk, r1, r⟩ := h
    exact ⟨x, kvs, e, a.z _ z, a.rd _ _ z t, k, pk, RepL.le a ks _ r1, RepL.le a xs _ r⟩
  | .dtu ks xs, _, h => by
    simp only [RepV] at h ⊢
    obtain ⟨x, o, kvs, e, z, t, k, pk, r1, r⟩ := h
    exact ⟨x, o, kvs, e, a.z _ z, a.rd _ _ z t, k, pk, RepL.le a ks _ r1, RepL.le a xs _ r⟩
  | .obj c fs, _, h => by
    simp only [RepV] at h ⊢
    refine h.imp id fun h => ?_
    obtain ⟨x, y, e, z, r, hh⟩ := h
    exact ⟨x, y, e, a.z _ z, RepL.le a fs [y] r, hh.imp (fun ⟨k, t0, m, ey, rx, t⟩ => ⟨k, t0, m, ey, a.rd _ _ z rx, t.le a⟩) fun ⟨n, d, k, zd, rx, rd⟩ => ⟨n, d, k, a.z _ zd, a.rd _ _ z rx, a.rd _ _ zd rd⟩⟩
  | .m k, _, h => by
    simp only [RepV] at h ⊢
    obtain ⟨x, e, r⟩ := h
    exact ⟨x, a.get e, r⟩
theorem RepL.le (a : Le ad Z H ad' Z' H') : ∀ (ds : List D) (vs : List V), RepL K ad Z H ds vs → RepL K ad' Z' H' ds vs
  | [], _, h => by simp only [RepL] at h ⊢; exact h
  | x :: xs, _, h => by
    simp only [RepL] at h ⊢
    obtain ⟨v, r, e, h1, h2⟩ := h
    exact ⟨v, r, e, RepV.le a x v h1, RepL.le a xs r h2⟩
end
mutual
/-- pure data do not hang on the activation's objects -/
theorem RepV.pure (a : List Addr) : ∀ (d : D) (v : V), pureD d = true → RepV K ad Z H d v → RepV K a Z H d v
  | .non, _, _, h => by simp only [RepV] at h ⊢; exact h
  | .bl _, _, _, h => by simp only [RepV] at h ⊢; exact h
  | .int _, _, _, h => by simp only [RepV] at h ⊢; exact h
  | .str _, _, _, h => by simp only [RepV] at h ⊢; exact h
  | .tup xs, _, p, h => by
    simp only [RepV] at h ⊢
    obtain ⟨x, vs, e, t, r⟩ := h
    exact ⟨x, vs, e, t, RepL.pure a xs vs (by simpa only [pureD] using p) r⟩
  | .lst xs, _, p, h => by
    simp only [RepV] at h ⊢
    obtain ⟨x, vs, e, t, r⟩ := h
    exact ⟨x, vs, e, t, RepL.pure a xs vs (by simpa only [pureD] using p) r⟩
  | .dct ks xs, _, p, h => by
    simp only [RepV] at h ⊢
    obtain ⟨x, kvs, e, z, t, k, pk, r1, r⟩ := h
    simp only [pureD, Bool.and_eq_true] at p
    exact ⟨x, kvs, e, z, t, k, pk, RepL.pure a ks _ p.1 r1, RepL.pure a xs _ p.2 r⟩
  | .dtu ks xs, _, p, h => by
    simp only [RepV] at h ⊢
    obtain ⟨x, o, kvs, e, z, t, k, pk, r1, r⟩ := h
    simp only [pureD, Bool.and_eq_true] at p
    exact ⟨x, o, kvs, e, z, t, k, pk, RepL.pure a ks _ p.1 r1, RepL.pure a xs _ p.2 r⟩
  | .obj c fs, _, p, h => by
    simp only [RepV] at h ⊢
    simp only [pureD] at p
    refine h.imp id fun h => ?_
    obtain ⟨x, y, e, z, r, hh⟩ := h
    exact ⟨x, y, e, z, RepL.pure a fs [y] p r, hh⟩
  | .m k, _, p, _ => by simp only [pureD, Bool.false_eq_true] at p
theorem RepL.pure (a : List Addr) : ∀ (ds : List D) (vs : List V), pureDs ds = true → RepL K ad Z H ds vs → RepL K a Z H ds vs
  | [], _, _, h => by simp only [RepL] at h ⊢; exact h
  | x :: xs, _, p, h => by
    simp only [RepL] at h ⊢
    simp only [pureDs, Bool.and_eq_true] at p
    obtain ⟨v, r, e, h1, h2⟩ := h
    exact ⟨v, r, e, RepV.pure a x v p.1 h1, RepL.pure a xs r p.2 h2⟩
end
theorem RepL.len : ∀ {ds : List D} {vs : List V}, RepL K ad Z H ds vs → vs.length = ds.length
  | [], _, h => by simp only [RepL] at h; subst h; rfl
  | x :: xs, _, h => by
    simp only [RepL] at h
    obtain ⟨v, r, rfl, _, h2⟩ := h
    simp [RepL.len h2]
theorem RepL.nil : RepL K ad Z H [] [] := by simp only [RepL]
theorem RepL.cons {d : D} {v : V} {ds : List D} {vs : List V} (h : RepV K ad Z H d v) (r : RepL K ad Z H ds vs) : RepL K ad Z H (d :: ds) (v :: vs) := by
  simp only [RepL]; exact ⟨v, vs, rfl, h, r⟩
theorem RepL.one {d : D} {v : V} (h : RepV K ad Z H d v) : RepL K ad Z H [d] [v] := RepL.cons h RepL.nil
theorem RepL.app : ∀ {ds es : List D} {vs ws : List V}, RepL K ad Z H ds vs → RepL K ad Z H es ws → RepL K ad Z H (ds ++ es) (vs ++ ws)
  | [], _, _, _, h, r => by simp only [RepL] at h; subst h; exact r
  | x :: xs, _, _, _, h, r => by
    simp only [RepL] at h
    obtain ⟨v, t, rfl, h1, h2⟩ := h
    exact RepL.cons h1 (RepL.app h2 r)
theorem RepL.get : ∀ {ds : List D} {vs : List V} {i : Nat} {d : D}, RepL K ad Z H ds vs → ds[i]? = some d → ∃ v, vs[i]? = some v ∧ RepV K ad Z H d v
  | [], _, _, _, h, e => by simp at e
  | x :: xs, _, 0, d, h, e => by
    simp only [RepL] at h
    obtain ⟨v, t, rfl, h1, h2⟩ := h
    simp only [List.getElem?_cons_zero, Option.some.injEq] at e
    subst e
    exact ⟨v, rfl, h1⟩
  | x :: xs, _, i + 1, d, h, e => by
    simp only [RepL] at h
    obtain ⟨v, t, rfl, h1, h2⟩ := h
    simp only [List.getElem?_cons_succ] at e
    obtain ⟨w, q, r⟩ := RepL.get h2 e
    exact ⟨w, by simpa using q, r⟩
theorem RepL.getV : ∀ {ds : List D} {vs : List V} {i : Nat} {v : V}, RepL K ad Z H ds vs → vs[i]? = some v → ∃ d, ds[i]? = some d ∧ RepV K ad Z H d v := fun {ds vs i v} h e => by
  have hl := h.len
  have hi : i < vs.length := (List.getElem?_eq_some_iff.mp e).1
  have hd : ds[i]? = some ds[i] := List.getElem?_eq_getElem (by omega)
  obtain ⟨w, q, r⟩ := h.get hd
  rw [e] at q; cases q
  exact ⟨_, hd, r⟩
theorem RepL.take : ∀ {ds : List D} {vs : List V} (n : Nat), RepL K ad Z H ds vs → RepL K ad Z H (ds.take n) (vs.take n)
  | _, _, 0, _ => by simp only [List.take_zero]; exact RepL.nil
  | [], _, n + 1, h => by simp only [RepL] at h; subst h; exact RepL.nil
  | x :: xs, _, n + 1, h => by
    simp only [RepL] at h
    obtain ⟨v, t, rfl, h1, h2⟩ := h
    exact RepL.cons h1 (RepL.take n h2)
theorem RepL.drop : ∀ {ds : List D} {vs : List V} (n : Nat), RepL K ad Z H ds vs → RepL K ad Z H (ds.drop n) (vs.drop n)
  | _, _, 0, h => h
  | [], _, n + 1, h => by simp only [RepL] at h; subst h; exact RepL.nil
  | x :: xs, _, n + 1, h => by
    simp only [RepL] at h
    obtain ⟨v, t, rfl, h1, h2⟩ := h
    exact RepL.drop n h2
theorem RepL.set : ∀ {ds : List D} {vs : List V} (i : Nat) {d : D} {v : V}, RepL K ad Z H ds vs → RepV K ad Z H d v → RepL K ad Z H (ds.set i d) (vs.set i v)
  | [], _, _, _, _, h, _ => by simp only [RepL] at h; subst h; exact RepL.nil
  | x :: xs, _, 0, _, _, h, r => by
    simp only [RepL] at h
    obtain ⟨w, t, rfl, h1, h2⟩ := h
    exact RepL.cons r h2
  | x :: xs, _, i + 1, _, _, h, r => by
    simp only [RepL] at h
    obtain ⟨w, t, rfl, h1, h2⟩ := h
    exact RepL.cons h1 (RepL.set i h2 r)
theorem RepL.eraseIdx : ∀ {ds : List D} {vs : List V} (i : Nat), RepL K ad Z H ds vs → RepL K ad Z H (ds.eraseIdx i) (vs.eraseIdx i)
  | [], _, _, h => by simp only [RepL] at h; subst h; exact RepL.nil
  | x :: xs, _, 0, h => by
    simp only [RepL] at h
    obtain ⟨w, t, rfl, h1, h2⟩ := h
    exact h2
  | x :: xs, _, i + 1, h => by
    simp only [RepL] at h
    obtain ⟨w, t, rfl, h1, h2⟩ := h
    exact RepL.cons h1 (RepL.eraseIdx i h2)
theorem RepL.dropLast {ds : List D} {vs : List V} (h : RepL K ad Z H ds vs) : RepL K ad Z H ds.dropLast vs.dropLast := by
  rw [List.dropLast_eq_take, List.dropLast_eq_take, h.len]; exact h.take _
theorem RepL.rep {ds : List D} {vs : List V} (h : RepL K ad Z H ds vs) : ∀ k, RepL K ad Z H (List.replicate k ds).flatten (List.replicate k vs).flatten
  | 0 => RepL.nil
  | k + 1 => by rw [List.replicate_succ, List.replicate_succ]; exact h.app (RepL.rep h k)
theorem RepL.cut {ds : List D} {vs : List V} (h : RepL K ad Z H ds vs) (lo hi : Option Int) : RepL K ad Z H (cutD ds lo hi) (cutV vs lo hi) := by
  unfold cutD cutV
  rw [h.len]
  exact (h.drop _).take _
theorem RepL.at {ds : List D} {vs : List V} (h : RepL K ad Z H ds vs) {i : Int} {d : D} (e : atD ds i = some d) : ∃ v, atI vs i = some v ∧ RepV K ad Z H d v := by
  unfold atD atI at *
  rw [h.len]
  cases q : ixN ds.length i with
  | none => rw [q] at e; simp at e
  | some j =>
    rw [q] at e
    simp only [Option.bind_some] at e ⊢
    exact h.get e
mutual
theorem RepV.dp : ∀ (d : D) (v : V), hgt d < 100 → RepV K ad Z H d v → Dp K H v (toPy d)
  | .non, _, _, h => by simp only [RepV] at h; subst h; exact .non
  | .bl _, _, _, h => by simp only [RepV] at h; subst h; exact .bl _
  | .int _, _, _, h => by simp only [RepV] at h; subst h; exact .int _
  | .str _, _, _, h => by simp only [RepV] at h; obtain ⟨rfl, _⟩ := h; exact .str _
  | .tup xs, _, p, h => by
    simp only [RepV] at h
    simp only [hgt] at p
    obtain ⟨x, vs, rfl, t, r⟩ := h
    exact .tup t.sq (RepL.dp xs vs (by omega) r)
  | .lst xs, _, p, h => by
    simp only [RepV] at h
    simp only [hgt] at p
    obtain ⟨x, vs, rfl, t, r⟩ := h
    exact .lst t.sq (RepL.dp xs vs (by omega) r)
  | .dct _ _, _, h0, _ => by simp only [hgt] at h0; omega
  | .dtu _ _, _, h0, _ => by simp only [hgt] at h0; omega
  | .obj _ _, _, h0, _ => by simp only [hgt] at h0; omega
  | .m _, _, p, _ => by simp only [hgt] at p; omega
theorem RepL.dp : ∀ (ds : List D) (vs : List V), hgts ds < 100 → RepL K ad Z H ds vs → DpAll K H vs (toPys ds)
  | [], _, _, h => by simp only [RepL] at h; subst h; exact .nil
  | x :: xs, _, p, h => by
    simp only [RepL] at h
    simp only [hgts] at p
    obtain ⟨v, r, rfl, h1, h2⟩ := h
    exact .cons (RepV.dp x v (by omega) h1) (RepL.dp xs r (by omega) h2)
end
mutual
theorem RepV.lay : ∀ (d : D) (v : V), hgt d < 100 → RepV K ad Z H d v → (toPy d).canLay0 = true
  | .non, _, _, _ => rfl
  | .bl _, _, _, _ => rfl
  | .int _, _, _, _ => rfl
  | .str s, _, _, h => by
    simp only [RepV] at h
    show PyData.strOk (toS s) = true
    unfold PyData.strOk toS
    rw [← Array.all_toList]
    exact h.2
  | .tup xs, _, p, h => by
    simp only [RepV] at h
    simp only [hgt] at p
    obtain ⟨x, vs, rfl, t, r⟩ := h
    show PyData.canLayAll0 (toPys xs) = true
    exact RepL.lay xs vs (by omega) r
  | .lst xs, _, p, h => by
    simp only [RepV] at h
    simp only [hgt] at p
    obtain ⟨x, vs, rfl, t, r⟩ := h
    show PyData.canLayAll0 (toPys xs) = true
    exact RepL.lay xs vs (by omega) r
  | .dct _ _, _, h0, _ => by simp only [hgt] at h0; omega
  | .dtu _ _, _, h0, _ => by simp only [hgt] at h0; omega
  | .obj _ _, _, h0, _ => by simp only [hgt] at h0; omega
  | .m _, _, p, _ => by simp only [hgt] at p; omega
theorem RepL.lay : ∀ (ds : List D) (vs : List V), hgts ds < 100 → RepL K ad Z H ds vs → PyData.canLayAll0 (toPys ds) = true
  | [], _, _, _ => rfl
  | x :: xs, _, p, h => by
    simp only [RepL] at h
    simp only [hgts] at p
    obtain ⟨v, r, rfl, h1, h2⟩ := h
    show ((toPy x).canLay0 && PyData.canLayAll0 (toPys xs)) = true
    rw [RepV.lay x v (by omega) h1, RepL.lay xs r (by omega) h2]; rfl
end
mutual
theorem depth_toPy : ∀ d : D, hgt d < 100 → (toPy d).depth = hgt d
  | .non, _ => rfl
  | .bl _, _ => rfl
  | .int _, _ => rfl
  | .str _, _ => rfl
  | .tup xs, h => by
    simp only [hgt] at h ⊢
    show PyData.depthAll (toPys xs) + 1 = _
    rw [depth_toPys xs (by omega)]
  | .lst xs, h => by
    simp only [hgt] at h ⊢
    show PyData.depthAll (toPys xs) + 1 = _
    rw [depth_toPys xs (by omega)]
  | .dct _ _, h => by simp only [hgt] at h; omega
  | .dtu _ _, h => by simp only [hgt] at h; omega
  | .obj _ _, h => by simp only [hgt] at h; omega
  | .m _, h => by simp only [hgt] at h; omega
theorem depth_toPys : ∀ ds : List D, hgts ds < 100 → PyData.depthAll (toPys ds) = hgts ds
  | [], _ => rfl
  | x :: xs, h => by
    simp only [hgts] at h ⊢
    show max (toPy x).depth (PyData.depthAll (toPys xs)) = _
    rw [depth_toPy x (by omega), depth_toPys xs (by omega)]
end
theorem RepV.shaped {d : D} {v : V} (h : RepV K ad Z H d v) (e : okEq d = true) : SeqAt.shaped (toPy d) = true := by
  have e' : hgt d ≤ 64 := of_decide_eq_true e
  unfold SeqAt.shaped
  rw [RepV.lay d v (by omega) h, depth_toPy d (by omega)]
  simpa using e'
theorem RepV.dpE {d : D} {v : V} (h : RepV K ad Z H d v) (e : okEq d = true) : Dp K H v (toPy d) := by
  have e' : hgt d ≤ 64 := of_decide_eq_true e
  exact RepV.dp d v (by omega) h
end
theorem toS_inj {s t : Tx} (h : toS s = toS t) : s = t := by
  unfold toS at h
  injection h with h
  have := congrArg Array.toList h
  simpa using this
theorem toS_beq (s t : Tx) : (toS s == toS t) = decide (s = t) := by
  by_cases e : s = t
  · subst e; simp
  · rw [decide_eq_false e, beq_eq_false_iff_ne]
    exact fun q => e (toS_inj q)
mutual
theorem eqv_toPy : ∀ a b : D, hgt a < 100 → hgt b < 100 → PyData.eqv (toPy a) (toPy b) = eqD a b
  | .non, b, _, hb => by cases b <;> first | rfl | (simp only [hgt] at hb; omega)
  | .bl x, b, _, hb => by cases b <;> first | rfl | (simp only [hgt] at hb; omega)
  | .int x, b, _, hb => by cases b <;> first | rfl | (simp only [hgt] at hb; omega)
  | .str x, b, _, hb => by
    cases b <;> first | rfl | (simp only [hgt] at hb; omega) | skip
    rename_i j
    exact toS_beq x j
  | .tup xs, b, ha, hb => by
    cases b <;> first | rfl | (simp only [hgt] at hb; omega) | skip
    rename_i ys
    simp only [hgt] at ha hb
    exact eqv_toPys xs ys (by omega) (by omega)
  | .lst xs, b, ha, hb => by
    cases b <;> first | rfl | (simp only [hgt] at hb; omega) | skip
    rename_i ys
    simp only [hgt] at ha hb
    exact eqv_toPys xs ys (by omega) (by omega)
  | .dct _ _, _, h, _ => by simp only [hgt] at h; omega
  | .dtu _ _, _, h, _ => by simp only [hgt] at h; omega
  | .obj _ _, _, h, _ => by simp only [hgt] at h; omega
  | .m _, _, h, _ => by simp only [hgt] at h; omega
theorem eqv_toPys : ∀ a b : List D, hgts a < 100 → hgts b < 100 → PyData.eqvAll (toPys a) (toPys b) = eqDs a b
  | [], [], _, _ => rfl
  | [], _ :: _, _, _ => rfl
  | _ :: _, [], _, _ => rfl
  | x :: xs, y :: ys, ha, hb => by
    simp only [hgts] at ha hb
    show (PyData.eqv (toPy x) (toPy y) && PyData.eqvAll (toPys xs) (toPys ys)) = (eqD x y && eqDs xs ys)
    rw [eqv_toPy x y (by omega) (by omega), eqv_toPys xs ys (by omega) (by omega)]
end
theorem okEq_lt {d : D} (e : okEq d = true) : hgt d < 100 := by
  have e' : hgt d ≤ 64 := of_decide_eq_true e
  omega
theorem mem_toPys {x : D} (hx : hgt x < 100) : ∀ xs : List D, hgts xs < 100 → ((toPys xs).any fun z => PyData.eqv z (toPy x)) = memD x xs
  | [], _ => rfl
  | y :: ys, h => by
    simp only [hgts] at h
    show (PyData.eqv (toPy y) (toPy x) || (toPys ys).any fun z => PyData.eqv z (toPy x)) = (eqD y x || ys.any fun z => eqD z x)
    rw [eqv_toPy y x (by omega) hx, mem_toPys hx ys (by omega)]
    rfl

theorem nd_ix {α : Type} {N : List α} (hN : N.Nodup) {i j : Nat} {x : α} (a : N[i]? = some x) (b : N[j]? = some x) : i = j := by
  obtain ⟨h1, e1⟩ := List.getElem?_eq_some_iff.mp a
  obtain ⟨h2, e2⟩ := List.getElem?_eq_some_iff.mp b
  exact (List.getElem_inj hN).mp (e1.trans e2.symm)

/-! ### an activation -/
/-- what is fixed while a def runs: the heap and what was settled at its call, the objects that were lent to it -/
structure Gh where
  H0 : Hp
  Z0 : Addr → Prop
  lent : List Addr
structure Cf where
  ad : List Addr
  Z : Addr → Prop
abbrev Cf.Le (c : Cf) (H : Hp) (c' : Cf) (H' : Hp) : Prop := Mp.Le c.ad c.Z H c'.ad c'.Z H'
def ObjR (K : Kx) (c : Cf) (H : Hp) (a : Addr) : M → Prop
  | .mu d => ¬ c.Z a ∧ pureD d = true ∧ RepM K c.ad c.Z H d a
  | .fz d => c.Z a ∧ pureD d = true ∧ RepV K c.ad c.Z H d (.ref a)
structure Rep (K : Kx) (g : Gh) (c : Cf) (sl : Sl) (mm : Mm) (σ : L2.St) (H : Hp) : Prop where
  lenS : sl.length = σ.length
  lenA : c.ad.length = mm.length
  slot : ∀ (i : Nat) (d : D), sl[i]? = some (some d) → ∃ v, σ[i]? = some (some v) ∧ RepV K c.ad c.Z H d v
  obj : ∀ (k : Nat) (a : Addr) (x : M), c.ad[k]? = some a → mm[k]? = some x → ObjR K c H a x
  nd : c.ad.Nodup
  frm : ∀ b o, g.H0 b = some o → b ∉ c.ad → H b = some o
  zin : ∀ a, c.Z a → g.Z0 a ∨ g.H0 a = none ∨ a ∈ g.lent
  trk : ∀ a, c.Z a → H a ≠ none
  pre : ∃ l, c.ad = g.lent ++ l
  adn : ∀ a ∈ c.ad, a ∈ g.lent ∨ g.H0 a = none
section
variable {K : Kx} {g : Gh} {c : Cf} {sl : Sl} {mm : Mm} {σ : L2.St} {H : Hp}
theorem repM_there {a : Addr} {d : D} (h : RepM K c.ad c.Z H d a) : H a ≠ none := by
  cases d <;> simp only [RepM] at h <;> try exact h.elim
  · obtain ⟨vs, e, _⟩ := h
    rw [e]; simp
  · obtain ⟨vs, e, _⟩ := h
    rw [e]; simp
  · obtain ⟨o, vs, e, _⟩ := h
    rw [e]; simp
  · obtain ⟨o, vs, e, _⟩ := h
    rw [e]; simp
theorem ObjR.there {a : Addr} {x : M} (r : Rep K g c sl mm σ H) (h : ObjR K c H a x) : H a ≠ none := by
  cases x with
  | mu d => exact repM_there h.2.2
  | fz d => exact r.trk _ h.1
theorem Rep.adTrk (r : Rep K g c sl mm σ H) {a : Addr} (h : a ∈ c.ad) : H a ≠ none := by
  obtain ⟨k, hk⟩ := List.mem_iff_getElem?.mp h
  have hl : k < c.ad.length := (List.getElem?_eq_some_iff.mp hk).1
  have hl2 : k < mm.length := by rw [← r.lenA]; exact hl
  have hm : mm[k]? = some mm[k] := List.getElem?_eq_getElem hl2
  exact (r.obj k a _ hk hm).there r
theorem Rep.fresh0 (r : Rep K g c sl mm σ H) {p : Addr} (h : H p = none) : g.H0 p = none := by
  cases q : g.H0 p with
  | none => rfl
  | some o =>
    have hp : p ∉ c.ad := fun z => r.adTrk z h
    have := r.frm p o q hp
    rw [h] at this; cases this
theorem rd_upd {H : Hp} {p : Addr} {o : HO} {a : Addr} {u : HO} (hn : a ≠ p) (h : Rd H a u) : Rd (upd H p o) a u := by
  rcases h with h | ⟨ob, h⟩
  · exact .inl (by rw [upd_ne hn]; exact h)
  · exact .inr ⟨ob, by rw [upd_ne hn]; exact h⟩
/-- a new thing that will not change -/
def Cf.add (c : Cf) (p : Addr) : Cf := ⟨c.ad, fun a => c.Z a ∨ a = p⟩
theorem le_fresh (hz : ∀ a, c.Z a → H a ≠ none) {p : Addr} {o : HO} (h : H p = none) : c.Le H (c.add p) (upd H p o) :=
  ⟨⟨[], by simp [Cf.add]⟩, fun a z => .inl z, fun a u z r => rd_upd (fun e => hz a z (by rw [e]; exact h)) r⟩
theorem RepM.le {c c' : Cf} {H H' : Hp} (l : c.Le H c' H') {a : Addr} {d : D} (e : H' a = H a) (h : RepM K c.ad c.Z H d a) : RepM K c'.ad c'.Z H' d a := by
  cases d <;> simp only [RepM] at h ⊢ <;> try exact h
  · obtain ⟨vs, q, r⟩ := h
    exact ⟨vs, by rw [e]; exact q, RepL.le l _ _ r⟩
  · obtain ⟨kvs, q, h1, h2, r1, r, nd⟩ := h
    exact ⟨kvs, by rw [e]; exact q, h1, h2, RepL.le l _ _ r1, RepL.le l _ _ r, nd⟩
  · obtain ⟨o, kvs, q, h1, h2, r1, r, nd⟩ := h
    exact ⟨o, kvs, by rw [e]; exact q, h1, h2, RepL.le l _ _ r1, RepL.le l _ _ r, nd⟩
  · obtain ⟨dx, vs, q, r, hl⟩ := h
    exact ⟨dx, vs, by rw [e]; exact q, RepL.le l _ _ r, hl⟩
theorem Rep.fresh (r : Rep K g c sl mm σ H) {p : Addr} {o : HO} (h : H p = none) : Rep K g (c.add p) sl mm σ (upd H p o) := by
  have l : c.Le H (c.add p) (upd H p o) := le_fresh r.trk h
  have np : ∀ a ∈ c.ad, a ≠ p := fun a ha e => r.adTrk ha (by rw [e]; exact h)
  refine ⟨r.lenS, r.lenA, fun i d e => ?_, fun k a x e1 e2 => ?_, r.nd, fun b u e1 e2 => ?_, fun a z => ?_, fun a z => ?_, r.pre, r.adn⟩
  · obtain ⟨v, q, rv⟩ := r.slot i d e
    exact ⟨v, q, RepV.le l d v rv⟩
  · have ha : a ≠ p := np a (List.mem_of_getElem? e1)
    have := r.obj k a x e1 e2
    cases x with
    | mu d => exact ⟨fun z => z.elim this.1 ha, this.2.1, RepM.le l (upd_ne ha) this.2.2⟩
    | fz d => exact ⟨.inl this.1, this.2.1, RepV.le l _ _ this.2.2⟩
  · have hb := r.frm b u e1 e2
    rw [upd_ne (show b ≠ p from fun e => by rw [e, h] at hb; cases hb)]
    exact hb
  · rcases z with z | rfl
    · exact r.zin a z
    · exact .inr (.inl (r.fresh0 h))
  · rcases z with z | rfl
    · by_cases e : a = p
      · rw [e, upd_same]; simp
      · rw [upd_ne e]; exact r.trk a z
    · rw [upd_same]; simp
/-- a new object that may change -/
def Cf.own (c : Cf) (p : Addr) : Cf := ⟨c.ad ++ [p], c.Z⟩
theorem le_own (hz : ∀ a, c.Z a → H a ≠ none) {p : Addr} {o : HO} (h : H p = none) : c.Le H (c.own p) (upd H p o) :=
  ⟨⟨[p], rfl⟩, fun a z => z, fun a u z r => rd_upd (fun e => hz a z (by rw [e]; exact h)) r⟩
theorem Rep.ownG (r : Rep K g c sl mm σ H) {p : Addr} {o : HO} {e : D} (h : H p = none) (hp : pureD e = true) (hm : RepM K (c.own p).ad (c.own p).Z (upd H p o) e p) : Rep K g (c.own p) sl (mm ++ [.mu e]) σ (upd H p o) := by
  have l : c.Le H (c.own p) (upd H p o) := le_own r.trk h
  have np : ∀ a ∈ c.ad, a ≠ p := fun a ha e => r.adTrk ha (by rw [e]; exact h)
  have nz : ¬ c.Z p := fun z => r.trk p z h
  refine ⟨r.lenS, by simp [Cf.own, r.lenA], fun i d q => ?_, fun k a x e1 e2 => ?_, ?_, fun b u e1 e2 => ?_, r.zin, fun a z => ?_, ?_, fun a ha => ?_⟩
  · obtain ⟨v, q, rv⟩ := r.slot i d q
    exact ⟨v, q, RepV.le l d v rv⟩
  · by_cases hk : k < c.ad.length
    · have e1' : c.ad[k]? = some a := by rw [← e1]; exact (List.getElem?_append_left hk).symm
      have e2' : mm[k]? = some x := by rw [← e2]; exact (List.getElem?_append_left (by rw [← r.lenA]; exact hk)).symm
      have ha : a ≠ p := np a (List.mem_of_getElem? e1')
      have := r.obj k a x e1' e2'
      cases x with
      | mu d => exact ⟨this.1, this.2.1, RepM.le l (upd_ne ha) this.2.2⟩
      | fz d => exact ⟨this.1, this.2.1, RepV.le l _ _ this.2.2⟩
    · have hk' : k = c.ad.length := by
        have := (List.getElem?_eq_some_iff.mp e1).1
        simp [Cf.own] at this; omega
      subst hk'
      have ea : a = p := by simpa [Cf.own] using e1.symm
      rw [r.lenA] at e2
      have ex : x = .mu e := by simpa using e2.symm
      subst ea; subst ex
      exact ⟨nz, hp, hm⟩
  · exact List.nodup_append.mpr ⟨r.nd, by simp, fun a ha b hb => by simp at hb; subst hb; exact np a ha⟩
  · have hb0 : b ∉ c.ad := fun z => e2 (List.mem_append_left _ z)
    have hb := r.frm b u e1 hb0
    rw [upd_ne (show b ≠ p from fun e => by rw [e, h] at hb; cases hb)]
    exact hb
  · by_cases e : a = p
    · exact (nz (e ▸ z)).elim
    · rw [upd_ne e]; exact r.trk a z
  · obtain ⟨l0, e⟩ := r.pre
    exact ⟨l0 ++ [p], by simp [Cf.own, e]⟩
  · rcases List.mem_append.mp ha with ha | ha
    · exact r.adn a ha
    · simp at ha; subst ha; exact .inr (r.fresh0 h)
theorem Rep.own (r : Rep K g c sl mm σ H) {p : Addr} {vs : List V} {ds : List D} (h : H p = none) (hp : pureDs ds = true) (hr : RepL K c.ad c.Z H ds vs) : Rep K g (c.own p) sl (mm ++ [.mu (.lst ds)]) σ (upd H p (.lst vs)) :=
  r.ownG h (by simpa [pureD] using hp) (by
    show ∃ ws, _
    exact ⟨vs, upd_same, RepL.le (le_own r.trk h) _ _ hr⟩)
/-- an object is changed -/
theorem Rep.writeG (r : Rep K g c sl mm σ H) {k : Nat} {a : Addr} {d e : D} {u0 : HO} (ha : c.ad[k]? = some a) (hm : mm[k]? = some (.mu d)) (hp : pureD e = true) (hr : RepM K c.ad c.Z (upd H a u0) e a) :
    c.Le H c (upd H a u0) ∧ Rep K g c sl (mm.set k (.mu e)) σ (upd H a u0) := by
  have o := r.obj k a _ ha hm
  have nz : ¬ c.Z a := o.1
  have l : c.Le H c (upd H a u0) := ⟨⟨[], by simp⟩, fun _ z => z, fun b u z q => rd_upd (fun e => nz (e ▸ z)) q⟩
  refine ⟨l, r.lenS, by simp [r.lenA], fun i d q => ?_, fun k' a' x e1 e2 => ?_, r.nd, fun b u e1 e2 => ?_, r.zin, fun b z => ?_, r.pre, r.adn⟩
  · obtain ⟨v, q, rv⟩ := r.slot i d q
    exact ⟨v, q, RepV.le l d v rv⟩
  · by_cases hk : k' = k
    · subst hk
      rw [ha] at e1; cases e1
      have hl : k' < mm.length := (List.getElem?_eq_some_iff.mp hm).1
      rw [List.getElem?_set_self hl] at e2; cases e2
      exact ⟨nz, hp, hr⟩
    · rw [List.getElem?_set_ne (Ne.symm hk)] at e2
      have na : a' ≠ a := fun e => by
        subst e
        exact hk (nd_ix r.nd e1 ha)
      have := r.obj k' a' x e1 e2
      cases x with
      | mu d => exact ⟨this.1, this.2.1, RepM.le l (upd_ne na) this.2.2⟩
      | fz d => exact ⟨this.1, this.2.1, RepV.le l _ _ this.2.2⟩
  · rw [upd_ne (show b ≠ a from fun e => e2 (e ▸ List.mem_of_getElem? ha))]
    exact r.frm b u e1 e2
  · rw [upd_ne (show b ≠ a from fun e => nz (e ▸ z))]
    exact r.trk b z
theorem Rep.write (r : Rep K g c sl mm σ H) {k : Nat} {a : Addr} {d : D} {vs : List V} {ds : List D} (ha : c.ad[k]? = some a) (hm : mm[k]? = some (.mu d)) (hp : pureDs ds = true) (hr : RepL K c.ad c.Z H ds vs) :
    c.Le H c (upd H a (.lst vs)) ∧ Rep K g c sl (mm.set k (.mu (.lst ds))) σ (upd H a (.lst vs)) := by
  have nz : ¬ c.Z a := (r.obj k a _ ha hm).1
  have l : c.Le H c (upd H a (.lst vs)) := ⟨⟨[], by simp⟩, fun _ z => z, fun b u z q => rd_upd (fun e => nz (e ▸ z)) q⟩
  exact r.writeG ha hm (by simpa [pureD] using hp) (by
    show ∃ ws, _
    exact ⟨vs, upd_same, RepL.le l _ _ hr⟩)
/-- an object is settled -/
theorem Rep.freeze (r : Rep K g c sl mm σ H) {k : Nat} {a : Addr} {d : D} (ha : c.ad[k]? = some a) (hm : mm[k]? = some (.mu d)) (ho : isObj d = false) :
    c.Le H (c.add a) H ∧ Rep K g (c.add a) sl (mm.set k (.fz d)) σ H ∧ RepV K c.ad (c.add a).Z H d (.ref a) := by
  have o := r.obj k a _ ha hm
  have l : c.Le H (c.add a) H := ⟨⟨[], by simp [Cf.add]⟩, fun _ z => .inl z, fun b u z q => q⟩
  have hv : RepV K c.ad (c.add a).Z H d (.ref a) := by
    have q := o.2.2
    cases d <;> simp only [RepM] at q <;> try exact q.elim
    · obtain ⟨vs, e, rl⟩ := q
      simp only [RepV]
      exact ⟨a, vs, rfl, ⟨.inr rfl, .inl e⟩, RepL.le l _ _ rl⟩
    · obtain ⟨kvs, e, h1, h2, r1, rl, _⟩ := q
      simp only [RepV]
      exact ⟨a, kvs, rfl, .inr rfl, .inl e, h1, h2, RepL.le l _ _ r1, RepL.le l _ _ rl⟩
    · obtain ⟨o, kvs, e, h1, h2, r1, rl, _⟩ := q
      simp only [RepV]
      exact ⟨a, o, kvs, rfl, .inr rfl, .inl e, h1, h2, RepL.le l _ _ r1, RepL.le l _ _ rl⟩
    · cases ho
  refine ⟨l, ⟨r.lenS, by simp [Cf.add, r.lenA], fun i d e => ?_, fun k' a' x e1 e2 => ?_, r.nd, r.frm, fun b z => ?_, fun b z => ?_, r.pre, r.adn⟩, hv⟩
  · obtain ⟨v, q, rv⟩ := r.slot i d e
    exact ⟨v, q, RepV.le l d v rv⟩
  · by_cases hk : k' = k
    · subst hk
      have e1' : c.ad[k']? = some a' := e1
      rw [ha] at e1'; cases e1'
      have hl : k' < mm.length := (List.getElem?_eq_some_iff.mp hm).1
      rw [List.getElem?_set_self hl] at e2; cases e2
      exact ⟨.inr rfl, o.2.1, hv⟩
    · rw [List.getElem?_set_ne (Ne.symm hk)] at e2
      have e1' : c.ad[k']? = some a' := e1
      have na : a' ≠ a := fun e => by
        subst e
        exact hk (nd_ix r.nd e1' ha)
      have := r.obj k' a' x e1' e2
      cases x with
      | mu d => exact ⟨fun z => z.elim this.1 na, this.2.1, RepM.le l rfl this.2.2⟩
      | fz d => exact ⟨.inl this.1, this.2.1, RepV.le l _ _ this.2.2⟩
  · rcases z with z | rfl
    · exact r.zin b z
    · exact (r.adn b (List.mem_of_getElem? ha)).elim (fun q => .inr (.inr q)) fun q => .inr (.inl q)
  · rcases z with z | rfl
    · exact r.trk b z
    · exact r.adTrk (List.mem_of_getElem? ha)
/-- a slot is set -/
theorem Rep.set (r : Rep K g c sl mm σ H) {i : Nat} {d : D} {v : V} (hv : RepV K c.ad c.Z H d v) : Rep K g c (sl.set i (some d)) mm (σ.set i (some v)) H := by
  refine ⟨by simp [r.lenS], r.lenA, fun j x e => ?_, r.obj, r.nd, r.frm, r.zin, r.trk, r.pre, r.adn⟩
  by_cases h : j = i
  · subst h
    have hj : j < sl.length := by
      have := (List.getElem?_eq_some_iff.mp e).1
      simpa using this
    rw [List.getElem?_set_self hj] at e
    have ed : d = x := by simpa using e
    subst ed
    exact ⟨v, by rw [List.getElem?_set_self (by rw [← r.lenS]; exact hj)], hv⟩
  · rw [List.getElem?_set_ne (Ne.symm h)] at e
    obtain ⟨w, q, rw'⟩ := r.slot j x e
    exact ⟨w, by rw [List.getElem?_set_ne (Ne.symm h)]; exact q, rw'⟩
/-- what a value reads as -/
theorem Rep.rdL (r : Rep K g c sl mm σ H) {d : D} {v : V} {xs : List D} (hv : RepV K c.ad c.Z H d v) (e : rd mm d = .lst xs) : ∃ a vs, v = .ref a ∧ Rd H a (.lst vs) ∧ RepL K c.ad c.Z H xs vs := by
  cases d <;> simp only [rd] at e <;> try (cases e)
  · simp only [RepV] at hv
    obtain ⟨a, vs, rfl, t, rl⟩ := hv
    exact ⟨a, vs, rfl, t.2, rl⟩
  · rename_i k
    simp only [RepV] at hv
    obtain ⟨a, ha, rfl⟩ := hv
    cases q : mm[k]? with
    | none => rw [q] at e; cases e
    | some x =>
      rw [q] at e
      have o := r.obj k a x ha q
      cases x with
      | mu d =>
        simp only [M.val] at e; subst e
        obtain ⟨vs, h1, h2⟩ := o.2.2
        exact ⟨a, vs, rfl, .inl h1, h2⟩
      | fz d =>
        simp only [M.val] at e; subst e
        have h := o.2.2
        simp only [RepV] at h
        obtain ⟨a', vs, e1, t, rl⟩ := h
        cases e1
        exact ⟨a, vs, rfl, t.2, rl⟩
theorem Rep.rdT (r : Rep K g c sl mm σ H) {d : D} {v : V} {xs : List D} (hv : RepV K c.ad c.Z H d v) (e : rd mm d = .tup xs) : ∃ a vs, v = .ref a ∧ SqT K H a vs ∧ RepL K c.ad c.Z H xs vs := by
  cases d <;> simp only [rd] at e <;> try (cases e)
  · simp only [RepV] at hv
    obtain ⟨a, vs, rfl, t, rl⟩ := hv
    exact ⟨a, vs, rfl, t.sq, rl⟩
  · rename_i k
    simp only [RepV] at hv
    obtain ⟨a, ha, rfl⟩ := hv
    cases q : mm[k]? with
    | none => rw [q] at e; cases e
    | some x =>
      rw [q] at e
      have o := r.obj k a x ha q
      cases x with
      | mu d =>
        simp only [M.val] at e; subst e
        have := o.2.2
        simp only [RepM] at this
      | fz d =>
        simp only [M.val] at e; subst e
        have h := o.2.2
        simp only [RepV] at h
        obtain ⟨a', vs, e1, t, rl⟩ := h
        cases e1
        exact ⟨a, vs, rfl, t.sq, rl⟩
/-- a value of a kind that is no object -/
theorem Rep.rdV (r : Rep K g c sl mm σ H) {d : D} {v : V} (hv : RepV K c.ad c.Z H d v) (h : (∀ xs, rd mm d ≠ .lst xs)) (h2 : ∀ ks xs, rd mm d ≠ .dct ks xs := by intro _ _ z; simp_all) (h3 : ∀ ks xs, rd mm d ≠ .dtu ks xs := by intro _ _ z; simp_all) (h4 : ∀ k xs, rd mm d ≠ .obj k xs := by intro _ _ z; simp_all) : rd mm d = d ∨ ∃ k xs, d = .m k ∧ rd mm d = .tup xs := by
  cases d <;> try exact .inl rfl
  rename_i k
  right
  simp only [RepV] at hv
  obtain ⟨a, ha, rfl⟩ := hv
  have hl : k < mm.length := by rw [← r.lenA]; exact (List.getElem?_eq_some_iff.mp ha).1
  have q : mm[k]? = some mm[k] := List.getElem?_eq_getElem hl
  have o := r.obj k a _ ha q
  have e : rd mm (.m k) = mm[k].val := by simp only [rd, q]
  cases hx : mm[k] with
  | mu d =>
    rw [hx] at o e
    have := o.2.2
    cases d <;> simp only [RepM] at this <;> try exact this.elim
    · exact absurd e (h _)
    · exact absurd e (h2 _ _)
    · exact absurd e (h3 _ _)
    · exact absurd e (h4 _ _)
  | fz d =>
    rw [hx] at o e
    have := o.2.2
    cases d <;> simp only [RepV] at this
    · cases this
    · cases this
    · cases this
    · cases this.1
    · exact ⟨k, _, rfl, e⟩
    · exact absurd e (h _)
    · exact absurd e (h2 _ _)
    · exact absurd e (h3 _ _)
    · exact absurd e (h4 _ _)
    · have := o.2.1
      simp [pureD] at this
/-- a dict -/
theorem Rep.rdD (r : Rep K g c sl mm σ H) {d : D} {v : V} {ks xs : List D} (hv : RepV K c.ad c.Z H d v) (e : rd mm d = .dct ks xs) :
    ∃ a kvs, v = .ref a ∧ Rd H a (.dK kvs) ∧ kvs.map (·.1) = ks.map keyT ∧ RepL K c.ad c.Z H xs (kvs.map (·.2)) ∧ ks.all isKT = true ∧ RepL K c.ad c.Z H ks (kvs.map fun q => kV q.1) := by
  have fin : ∀ a, RepV K c.ad c.Z H (.dct ks xs) (.ref a) → ∃ a' kvs, V.ref a = .ref a' ∧ Rd H a' (.dK kvs) ∧ kvs.map (·.1) = ks.map keyT ∧ RepL K c.ad c.Z H xs (kvs.map (·.2)) ∧ ks.all isKT = true ∧ RepL K c.ad c.Z H ks (kvs.map fun q => kV q.1) := fun a h => by
    simp only [RepV] at h
    obtain ⟨a', kvs, e1, z, t, k, pk, r1, rl⟩ := h
    exact ⟨a', kvs, e1, t, k, rl, pk, r1⟩
  cases d with
  | m k =>
    simp only [RepV] at hv
    obtain ⟨a, ha, rfl⟩ := hv
    have hl : k < mm.length := by rw [← r.lenA]; exact (List.getElem?_eq_some_iff.mp ha).1
    have q : mm[k]? = some mm[k] := List.getElem?_eq_getElem hl
    have o := r.obj k a _ ha q
    have e' : rd mm (.m k) = mm[k].val := by simp only [rd, q]
    rw [e'] at e
    cases hx : mm[k] with
    | mu d =>
      rw [hx] at o e
      simp only [M.val] at e; subst e
      have := o.2.2
      simp only [RepM] at this
      obtain ⟨kvs, h1, h2, h3, h4, h5, _⟩ := this
      exact ⟨a, kvs, rfl, .inl h1, h2, h5, h3, h4⟩
    | fz d =>
      rw [hx] at o e
      simp only [M.val] at e; subst e
      exact fin a o.2.2
  | _ =>
    simp only [rd] at e
    first
      | (cases e; done)
      | (cases e
         have h0 := hv
         simp only [RepV] at h0
         obtain ⟨a, kvs, rfl, _⟩ := h0
         exact fin a hv)
theorem Rep.rdU (r : Rep K g c sl mm σ H) {d : D} {v : V} {ks xs : List D} (hv : RepV K c.ad c.Z H d v) (e : rd mm d = .dtu ks xs) :
    ∃ a o kvs, v = .ref a ∧ Rd H a (K.dn a o kvs) ∧ kvs.map (·.1) = ks.map nkT ∧ ks.all isKD = true ∧ RepL K c.ad c.Z H ks (kvs.map fun q => V.ref q.2.1) ∧ RepL K c.ad c.Z H xs (kvs.map (·.2.2)) := by
  have fin : ∀ a, RepV K c.ad c.Z H (.dtu ks xs) (.ref a) → ∃ a' o kvs, V.ref a = .ref a' ∧ Rd H a' (K.dn a' o kvs) ∧ kvs.map (·.1) = ks.map nkT ∧ ks.all isKD = true ∧ RepL K c.ad c.Z H ks (kvs.map fun q => V.ref q.2.1) ∧ RepL K c.ad c.Z H xs (kvs.map (·.2.2)) := fun a h => by
    simp only [RepV] at h
    obtain ⟨a', o, kvs, e1, z, t, k, pk, r1, rl⟩ := h
    exact ⟨a', o, kvs, e1, t, k, pk, r1, rl⟩
  cases d with
  | m k =>
    simp only [RepV] at hv
    obtain ⟨a, ha, rfl⟩ := hv
    have hl : k < mm.length := by rw [← r.lenA]; exact (List.getElem?_eq_some_iff.mp ha).1
    have q : mm[k]? = some mm[k] := List.getElem?_eq_getElem hl
    have o := r.obj k a _ ha q
    have e' : rd mm (.m k) = mm[k].val := by simp only [rd, q]
    rw [e'] at e
    cases hx : mm[k] with
    | mu d =>
      rw [hx] at o e
      simp only [M.val] at e; subst e
      have := o.2.2
      simp only [RepM] at this
      obtain ⟨ob, kvs, h1, h2, h3, h4, h5, _⟩ := this
      exact ⟨a, ob, kvs, rfl, .inl h1, h2, h3, h4, h5⟩
    | fz d =>
      rw [hx] at o e
      simp only [M.val] at e; subst e
      exact fin a o.2.2
  | _ =>
    simp only [rd] at e
    first
      | (cases e; done)
      | (cases e
         have h0 := hv
         simp only [RepV] at h0
         obtain ⟨a, ob, kvs, rfl, _⟩ := h0
         exact fin a hv)
end
theorem repV_key {K : Kx} {ad : List Addr} {Z : Addr → Prop} {H : Hp} {d : D} {v : V} (h : RepV K ad Z H d v) (k : isKT d = true) : v = kV (keyT d) := by
  cases d <;> simp only [isKT, Bool.false_eq_true] at k
  · simp only [RepV] at h; exact h
  · simp only [RepV] at h; exact h.1
theorem eqD_key {x y : D} (hx : isKT x = true) (hy : isKT y = true) : eqD x y = decide (keyT x = keyT y) := by
  cases x <;> simp only [isKT, Bool.false_eq_true] at hx <;> cases y <;> simp only [isKT, Bool.false_eq_true] at hy <;> simp only [eqD, keyT]
  · by_cases e : ‹Int› = ‹Int› <;> simp [e]
  · simp
  · simp
  · rename_i s t
    by_cases e : s = t
    · simp [e]
    · have h2 : ¬ toS s = toS t := fun z => e (toS_inj z)
      simp [e, h2]
/-- the item at a key -/
theorem valV_key {b : D} (hb : isKT b = true) : ∀ {ks : List D} {kvs : List (L2.Key × V)}, ks.all isKT = true → kvs.map (·.1) = ks.map keyT → valV kvs (keyT b) = (idxOfD b ks).bind fun j => (kvs.map (·.2))[j]?
  | [], [], _, _ => rfl
  | [], _ :: _, _, h => by simp at h
  | _ :: _, [], _, h => by simp at h
  | k :: ks, q :: kvs, hk, h => by
    simp only [List.map_cons, List.cons.injEq] at h
    rw [List.all_cons, Bool.and_eq_true] at hk
    simp only [idxOfD]
    rw [eqD_key hk.1 hb]
    by_cases e : keyT k = keyT b
    · rw [valV_pos (by rw [h.1]; exact e)]
      simp [e]
    · rw [valV_neg (by rw [h.1]; exact e), valV_key hb hk.2 h.2]
      simp only [e, decide_false, Bool.false_eq_true, if_false]
      cases idxOfD b ks <;> rfl
theorem idxOfD_mem {b : D} : ∀ {ks : List D}, (idxOfD b ks).isSome = memD b ks
  | [] => rfl
  | k :: ks => by
    simp only [idxOfD, memD, List.any_cons]
    cases eqD k b with
    | true => rfl
    | false =>
      simp only [Bool.false_eq_true, if_false, Bool.false_or, Option.isSome_map]
      exact idxOfD_mem
theorem idxOfD_lt {b : D} : ∀ {ks : List D} {j : Nat}, idxOfD b ks = some j → j < ks.length
  | [], _, h => by simp [idxOfD] at h
  | k :: ks, j, h => by
    simp only [idxOfD] at h
    split at h
    · cases h; simp
    · cases q : idxOfD b ks with
      | none => rw [q] at h; cases h
      | some i =>
        rw [q] at h
        simp only [Option.map_some, Option.some.injEq] at h
        have := idxOfD_lt q
        simp; omega
end Mp
/-! Mp2b: keys of any depth; what is stored in a dict; objects that are made or changed, of any kind. -/
namespace Mp
open PySem PySem.Spec
open PyProof.Rows L2
section
variable {K : Kx} {ad : List Addr} {Z : Addr → Prop} {H : Hp}
mutual
theorem keyV_of : ∀ (d : D) (n : Nat) (v : V), keyD d n = true → RepV K ad Z H d v → KeyV K.K H (nkT d) v
  | .non, _, _, _, h => by simp only [RepV] at h; subst h; exact .non
  | .int i, _, _, _, h => by simp only [RepV] at h; subst h; exact .num i
  | .str s, _, _, _, h => by simp only [RepV] at h; obtain ⟨rfl, _⟩ := h; exact .text _
  | .tup xs, n, _, k, h => by
    simp only [RepV] at h
    obtain ⟨a, vs, rfl, t, r⟩ := h
    cases n with
    | zero => simp only [keyD, Bool.false_eq_true] at k
    | succ n =>
      simp only [keyD] at k
      exact .tup t.sq (keyVs_of xs n vs k r)
  | .bl _, _, _, k, _ => by simp only [keyD, Bool.false_eq_true] at k
  | .lst _, _, _, k, _ => by simp only [keyD, Bool.false_eq_true] at k
  | .dct _ _, _, _, k, _ => by simp only [keyD, Bool.false_eq_true] at k
  | .dtu _ _, _, _, k, _ => by simp only [keyD, Bool.false_eq_true] at k
  | .obj _ _, _, _, k, _ => by simp only [keyD, Bool.false_eq_true] at k
  | .m _, _, _, k, _ => by simp only [keyD, Bool.false_eq_true] at k
theorem keyVs_of : ∀ (ds : List D) (n : Nat) (vs : List V), keyDs ds n = true → RepL K ad Z H ds vs → KeyVs K.K H (nkTs ds) vs
  | [], _, _, _, h => by simp only [RepL] at h; subst h; exact .nil
  | x :: xs, n, _, k, h => by
    simp only [RepL] at h
    simp only [keyDs, Bool.and_eq_true] at k
    obtain ⟨v, r, rfl, h1, h2⟩ := h
    exact .cons (keyV_of x n v k.1 h1) (keyVs_of xs n r k.2 h2)
end
mutual
theorem depth_nk : ∀ (d : D) (n : Nat), keyD d n = true → (nkT d).depth ≤ n
  | .non, _, _ => Nat.zero_le _
  | .int _, _, _ => Nat.zero_le _
  | .str _, _, _ => Nat.zero_le _
  | .tup xs, n, k => by
    cases n with
    | zero => simp only [keyD, Bool.false_eq_true] at k
    | succ n =>
      simp only [keyD] at k
      have := depth_nks xs n k
      simp only [nkT, NestedKey.depth]; omega
  | .bl _, _, k => by simp only [keyD, Bool.false_eq_true] at k
  | .lst _, _, k => by simp only [keyD, Bool.false_eq_true] at k
  | .dct _ _, _, k => by simp only [keyD, Bool.false_eq_true] at k
  | .dtu _ _, _, k => by simp only [keyD, Bool.false_eq_true] at k
  | .obj _ _, _, k => by simp only [keyD, Bool.false_eq_true] at k
  | .m _, _, k => by simp only [keyD, Bool.false_eq_true] at k
theorem depth_nks : ∀ (ds : List D) (n : Nat), keyDs ds n = true → NestedKey.depthAll (nkTs ds) ≤ n
  | [], _, _ => Nat.zero_le _
  | x :: xs, n, k => by
    simp only [keyDs, Bool.and_eq_true] at k
    have h1 := depth_nk x n k.1
    have h2 := depth_nks xs n k.2
    simp only [nkTs, NestedKey.depthAll]; omega
end
theorem isKD_key {d : D} (h : isKD d = true) : keyD d 7 = true := by
  cases d <;> simp only [isKD, Bool.false_eq_true] at h
  simp only [keyD]; exact h
mutual
theorem eqD_nk : ∀ (x y : D) (n m : Nat), keyD x n = true → keyD y m = true → eqD x y = NestedKey.beq (nkT x) (nkT y)
  | .non, y, _, m, _, k => by cases y <;> first | rfl | (simp only [keyD, Bool.false_eq_true] at k; done)
  | .int i, y, _, m, _, k => by cases y <;> first | rfl | (simp only [keyD, Bool.false_eq_true] at k; done)
  | .str s, y, _, m, _, k => by
    cases y <;> first | rfl | (simp only [keyD, Bool.false_eq_true] at k; done) | skip
    rename_i t
    simp only [eqD, nkT, NestedKey.beq]
    by_cases e : s = t
    · simp [e]
    · have h2 : ¬ toS s = toS t := fun z => e (toS_inj z)
      simp [e, h2]
  | .tup xs, y, n, m, j, k => by
    cases y <;> first | rfl | (simp only [keyD, Bool.false_eq_true] at k; done) | skip
    rename_i ys
    cases n with
    | zero => simp only [keyD, Bool.false_eq_true] at j
    | succ n =>
      cases m with
      | zero => simp only [keyD, Bool.false_eq_true] at k
      | succ m =>
        simp only [keyD] at j k
        simp only [eqD, nkT, NestedKey.beq]
        exact eqDs_nk xs ys n m j k
  | .bl _, _, _, _, k, _ => by simp only [keyD, Bool.false_eq_true] at k
  | .lst _, _, _, _, k, _ => by simp only [keyD, Bool.false_eq_true] at k
  | .dct _ _, _, _, _, k, _ => by simp only [keyD, Bool.false_eq_true] at k
  | .dtu _ _, _, _, _, k, _ => by simp only [keyD, Bool.false_eq_true] at k
  | .obj _ _, _, _, _, k, _ => by simp only [keyD, Bool.false_eq_true] at k
  | .m _, _, _, _, k, _ => by simp only [keyD, Bool.false_eq_true] at k
theorem eqDs_nk : ∀ (xs ys : List D) (n m : Nat), keyDs xs n = true → keyDs ys m = true → eqDs xs ys = NestedKey.beqAll (nkTs xs) (nkTs ys)
  | [], [], _, _, _, _ => rfl
  | [], _ :: _, _, _, _, _ => rfl
  | _ :: _, [], _, _, _, _ => rfl
  | x :: xs, y :: ys, n, m, j, k => by
    simp only [keyDs, Bool.and_eq_true] at j k
    simp only [eqDs, nkTs, NestedKey.beqAll, eqD_nk x y n m j.1 k.1, eqDs_nk xs ys n m j.2 k.2]
end
theorem eqD_kd {x y : D} (hx : isKD x = true) (hy : isKD y = true) : eqD x y = decide (nkT x = nkT y) := by
  rw [eqD_nk x y 7 7 (isKD_key hx) (isKD_key hy), NestedKey.decide_eq]
theorem keyA_of {d : D} {b : Addr} (h : isKD d = true) (r : RepV K ad Z H d (.ref b)) : KeyA K.K H (nkT d) b := ⟨keyV_of d 7 _ (isKD_key h) r, by have := depth_nk d 7 (isKD_key h); omega⟩
/-- a key lies at an address -/
theorem repV_kd {d : D} {v : V} (h : isKD d = true) (r : RepV K ad Z H d v) : ∃ b, v = .ref b := by
  cases d <;> simp only [isKD, Bool.false_eq_true] at h
  simp only [RepV] at r
  obtain ⟨a, _, e, _⟩ := r
  exact ⟨a, e⟩
theorem keysA {ks : List D} {kvs : Nkv} (hk : ks.all isKD = true) (e : kvs.map (·.1) = ks.map nkT) (r : RepL K ad Z H ks (kvs.map fun q => V.ref q.2.1)) : ∀ q ∈ kvs, KeyA K.K H q.1 q.2.1 := by
  induction ks generalizing kvs with
  | nil =>
    cases kvs with
    | nil => intro q h; cases h
    | cons p kvs => simp at e
  | cons x ks ih =>
    cases kvs with
    | nil => simp at e
    | cons p kvs =>
      simp only [List.map_cons, List.cons.injEq] at e
      simp only [List.map_cons, RepL] at r
      obtain ⟨v, t, e2, h1, h2⟩ := r
      cases e2
      rw [List.all_cons, Bool.and_eq_true] at hk
      intro q hq
      rcases List.mem_cons.mp hq with rfl | hq
      · rw [e.1]; exact keyA_of hk.1 h1
      · exact ih hk.2 e.2 h2 q hq
/-- the item at a key -/
theorem atN_key {b : D} (hb : isKD b = true) : ∀ {ks : List D} {kvs : Nkv}, ks.all isKD = true → kvs.map (·.1) = ks.map nkT → atN kvs (nkT b) = (idxOfD b ks).bind fun j => (kvs.map (·.2.2))[j]?
  | [], [], _, _ => rfl
  | [], _ :: _, _, h => by simp at h
  | _ :: _, [], _, h => by simp at h
  | k :: ks, q :: kvs, hk, h => by
    simp only [List.map_cons, List.cons.injEq] at h
    rw [List.all_cons, Bool.and_eq_true] at hk
    have ih := atN_key hb hk.2 h.2
    simp only [idxOfD]
    rw [eqD_kd hk.1 hb]
    by_cases e : nkT k = nkT b
    · have e2 : q.1 = nkT b := by rw [h.1]; exact e
      simp [atN, List.find?_cons, e, e2]
    · have e2 : ¬ q.1 = nkT b := by rw [h.1]; exact e
      simp only [e, decide_false, Bool.false_eq_true, if_false]
      have z : atN (q :: kvs) (nkT b) = atN kvs (nkT b) := by simp [atN, List.find?_cons, e2]
      rw [z, ih]
      cases idxOfD b ks <;> rfl
theorem isSome_nk {b : D} (hb : isKD b = true) {ks : List D} {kvs : Nkv} (hk : ks.all isKD = true) (h : kvs.map (·.1) = ks.map nkT) : (atN kvs (nkT b)).isSome = memD b ks := by
  rw [atN_key hb hk h, ← idxOfD_mem]
  cases q : idxOfD b ks with
  | none => rfl
  | some j =>
    have h1 := idxOfD_lt q
    have h2 : (kvs.map (·.2.2)).length = ks.length := by
      have := congrArg List.length h
      simpa using this
    show ((kvs.map (·.2.2))[j]?).isSome = true
    rw [List.getElem?_eq_getElem (by omega)]; rfl
/-- a store: the keys, their places, the values behind it -/
theorem putN_spec {b : D} {p : Addr} {v : V} (hb : isKD b = true) : ∀ {ks : List D} {kvs : Nkv}, ks.all isKD = true → kvs.map (·.1) = ks.map nkT → (ks.map nkT).Nodup →
    (∀ j, idxOfD b ks = some j → (putN kvs (nkT b) p v).map (·.1) = ks.map nkT ∧ (putN kvs (nkT b) p v).map (·.2.1) = kvs.map (·.2.1) ∧ (putN kvs (nkT b) p v).map (·.2.2) = (kvs.map (·.2.2)).set j v) ∧
    (idxOfD b ks = none → putN kvs (nkT b) p v = kvs ++ [(nkT b, p, v)] ∧ nkT b ∉ ks.map nkT) := by
  intro ks kvs hk h nd
  have hs := isSome_nk hb hk h
  have nin : ∀ {ks : List D}, ks.all isKD = true → idxOfD b ks = none → nkT b ∉ ks.map nkT := by
    intro ks
    induction ks with
    | nil => intro _ _; simp
    | cons k ks ih =>
      intro hk e
      rw [List.all_cons, Bool.and_eq_true] at hk
      simp only [idxOfD] at e
      rw [eqD_kd hk.1 hb] at e
      by_cases z : nkT k = nkT b
      · simp [z] at e
      · simp only [z, decide_false, Bool.false_eq_true, if_false, Option.map_eq_none_iff] at e
        simp only [List.map_cons, List.mem_cons, not_or]
        exact ⟨fun q => z q.symm, ih hk.2 e⟩
  refine ⟨fun j e => ?_, fun e => ?_⟩
  · have hm : (atN kvs (nkT b)).isSome = true := by rw [hs, ← idxOfD_mem, e]; rfl
    unfold putN
    rw [if_pos hm]
    have m1 : ∀ {kvs : Nkv}, (kvs.map (fun q => if q.1 = nkT b then (q.1, q.2.1, v) else q)).map (·.1) = kvs.map (·.1) ∧ (kvs.map (fun q => if q.1 = nkT b then (q.1, q.2.1, v) else q)).map (·.2.1) = kvs.map (·.2.1) := by
      intro kvs
      induction kvs with
      | nil => exact ⟨rfl, rfl⟩
      | cons q kvs ih =>
        simp only [List.map_cons, ih.1, ih.2]
        by_cases z : q.1 = nkT b <;> simp [z]
    refine ⟨by rw [m1.1, h], m1.2, ?_⟩
    clear hm hs m1
    induction ks generalizing kvs j with
    | nil => simp [idxOfD] at e
    | cons k ks ih =>
      cases kvs with
      | nil => simp at h
      | cons q kvs =>
        simp only [List.map_cons, List.cons.injEq] at h
        rw [List.all_cons, Bool.and_eq_true] at hk
        rw [List.map_cons, List.nodup_cons] at nd
        simp only [idxOfD] at e
        rw [eqD_kd hk.1 hb] at e
        by_cases z : nkT k = nkT b
        · simp only [z, decide_true, if_true, Option.some.injEq] at e
          subst e
          have z2 : q.1 = nkT b := by rw [h.1]; exact z
          simp only [List.map_cons, z2, if_true, List.set_cons_zero]
          congr 1
          have : ∀ q' ∈ kvs, ¬ q'.1 = nkT b := fun q' hq e' => by
            have hm : q'.1 ∈ kvs.map (·.1) := List.mem_map_of_mem hq
            rw [h.2, e', ← z] at hm
            exact nd.1 hm
          clear ih nd h z2
          induction kvs with
          | nil => rfl
          | cons q' kvs ih2 =>
            simp only [List.map_cons, this q' (by simp), if_false]
            rw [ih2 fun q'' hq => this q'' (by simp [hq])]
        · have z2 : ¬ q.1 = nkT b := by rw [h.1]; exact z
          simp only [z, decide_false, Bool.false_eq_true, if_false, Option.map_eq_some_iff] at e
          obtain ⟨j', e', rfl⟩ := e
          simp only [List.map_cons, z2, if_false, List.set_cons_succ]
          rw [ih hk.2 h.2 nd.2 j' e']
  · have hm : (atN kvs (nkT b)).isSome = false := by rw [hs, ← idxOfD_mem, e]; rfl
    unfold putN
    rw [hm]
    exact ⟨rfl, nin hk e⟩
end
end Mp
/-! Mp3: readings of the small language, over the hand layer's. -/
namespace Mp
open PySem PySem.Spec
open PyProof.Rows L2

/-- what an own method is -/
inductive MK where | fn | prop | cm
  deriving DecidableEq
/-- a program: the written part, the names, what the small language says of the defs -/
structure Pg where
  K : Kx
  mg : Str → Option Value
  T : Nat → FDef
  gv : Nat → D
  sub : Nat → Nat → Option Bool
  gn : Nat → Str
  fn : Nat → Str
  en : Nat → Str
  fa : Nat → Addr
  ea : Nat → Addr
  dom : Nat → Bool
  gdom : Nat → Bool
  edom : Nat → Bool
  /-- classes of errors that are named in except clauses, in isinstance -/
  hdm : Nat → Bool
  bdom : Str → Bool
  /-- defs that are globals, called by position -/
  gdf : Nat → Bool
  /-- how a class is called: so many places, keywords, what is filled in -/
  kbs : Nat → List (Nat × List Str × List (Option D))
  /-- own classes: names, their __init__; own methods: the class, the kind -/
  cn : Nat → Str
  cdom : Nat → Bool
  ini : Nat → Option Nat
  mt : Nat → Option (Nat × MK)
  /-- constants of classes -/
  con : Nat → Option (Nat × Str)
  /-- exceptions as values: made by a text; by an own __init__ -/
  xvd : Nat → Bool
  xid : Nat → Bool
  /-- isinstance of exceptions, by their classes -/
  ist : Option Nat → List (Nat × Bool)
abbrev Pg.cf (p : Pg) (n : Nat) : Nat → List D → Mm → Option FR := callF p.sub p.T p.gv n
/-- how an error lies -/
def RepX (K : Kx) (Z : Addr → Prop) (H : Hp) (x : Ex) (dd : Option Addr) : Prop := (x.fs = [] ∧ dd = none) ∨
  ∃ y v n d, x.fs = [y] ∧ pureD y = true ∧ K.xk x.cls = some n ∧ dd = some d ∧ Z d ∧ Rd H d (.xd [(n, v)]) ∧ RepV K [] Z H y v
section
variable (p : Pg) (g : Gh)
def PostE (c : Cf) (sl : Sl) (σ : L2.St) (H : Hp) (W : WX) (Q : VK) : Option RE → Prop
  | none => False
  | some (.ok d mm) => ∀ c' v H', c.Le H c' H' → Rep p.K g c' sl mm σ H' → RepV p.K c'.ad c'.Z H' d v → Q v H'
  | some (.ex x mm) => ∀ c' dd H', c.Le H c' H' → Rep p.K g c' sl mm σ H' → RepX p.K c'.Z H' x dd → W (.ref (p.ea x.cls)) dd σ H'
def PostL (c : Cf) (sl : Sl) (σ : L2.St) (H : Hp) (W : WX) (Q : List V → Hp → Prop) : Option RL → Prop
  | none => False
  | some (.ok ds mm) => ∀ c' vs H', c.Le H c' H' → Rep p.K g c' sl mm σ H' → RepL p.K c'.ad c'.Z H' ds vs → Q vs H'
  | some (.ex x mm) => ∀ c' dd H', c.Le H c' H' → Rep p.K g c' sl mm σ H' → RepX p.K c'.Z H' x dd → W (.ref (p.ea x.cls)) dd σ H'
def PostB (c : Cf) (sl : Sl) (σ : L2.St) (H : Hp) (W : WX) (Q : Bool → Hp → Prop) : Option RE → Prop
  | some (.ok (.bl b) mm) => ∀ c' H', c.Le H c' H' → Rep p.K g c' sl mm σ H' → Q b H'
  | some (.ex x mm) => ∀ c' dd H', c.Le H c' H' → Rep p.K g c' sl mm σ H' → RepX p.K c'.Z H' x dd → W (.ref (p.ea x.cls)) dd σ H'
  | _ => False
end
section
variable (p : Pg) (n : Nat) (W : WX)
def tE (e : E) : TE := fun σ H Q => ∃ g c sl mm, Rep p.K g c sl mm σ H ∧ PostE p g c sl σ H W Q (semE p.gv (p.cf n) e sl mm)
def tEs (es : Es) : TA := fun σ H Q => ∃ g c sl mm, Rep p.K g c sl mm σ H ∧ PostL p g c sl σ H W Q (semEs p.gv (p.cf n) es sl mm)
def tB (e : E) : TT := fun σ H Q => ∃ g c sl mm, Rep p.K g c sl mm σ H ∧ PostB p g c sl σ H W Q (semE p.gv (p.cf n) e sl mm)
end
section
variable {p : Pg} {g : Gh} {c c' : Cf} {sl : Sl} {mm : Mm} {σ : L2.St} {H H' : Hp} {W : WX} {Q Q' : VK} {r : Option RE}
theorem PostE.imp (h : PostE p g c sl σ H W Q r) (i : ∀ v H', Q v H' → Q' v H') : PostE p g c sl σ H W Q' r := by
  cases r with
  | none => exact h
  | some r => cases r with
    | ok d mm => exact fun c' v H' l r q => i _ _ (h c' v H' l r q)
    | ex x mm => exact h
theorem PostE.from (h : PostE p g c sl σ H W Q r) (l : c.Le H c' H') : PostE p g c' sl σ H' W Q r := by
  cases r with
  | none => exact h
  | some r => cases r with
    | ok d mm => exact fun c2 v H2 l2 r q => h c2 v H2 (l.trans l2) r q
    | ex x mm => exact fun c2 dd H2 l2 r q => h c2 dd H2 (l.trans l2) r q
theorem PostE.bind {f : D → Mm → Option RE} (h : PostE p g c sl σ H W Q (bindE r f))
    (i : ∀ c1 d mm1 v H1, c.Le H c1 H1 → Rep p.K g c1 sl mm1 σ H1 → RepV p.K c1.ad c1.Z H1 d v → PostE p g c1 sl σ H1 W Q (f d mm1) → Q' v H1) : PostE p g c sl σ H W Q' r := by
  cases r with
  | none => exact h
  | some r => cases r with
    | ok d mm => exact fun c1 v H1 l rp rv => i c1 d mm v H1 l rp rv (PostE.from h l)
    | ex x mm => exact h
theorem PostE.ok {d : D} (h : PostE p g c sl σ H W Q (okE d mm)) {v : V} (l : c.Le H c' H') (r : Rep p.K g c' sl mm σ H') (rv : RepV p.K c'.ad c'.Z H' d v) : Q v H' := h c' v H' l r rv
/-- a value that is no object of its own: the heap as it is -/
theorem PostE.ok0 {d : D} (h : PostE p g c sl σ H W Q (okE d mm)) {v : V} (r : Rep p.K g c sl mm σ H) (rv : RepV p.K c.ad c.Z H d v) : Q v H := h c v H .refl r rv
/-- a new tuple | list that does not change -/
theorem PostE.newT {ds : List D} {vs : List V} (h : PostE p g c sl σ H W Q (okE (.tup ds) mm)) (r : Rep p.K g c sl mm σ H) (rl : RepL p.K c.ad c.Z H ds vs) {q : Addr} (hq : H q = none) : Q (.ref q) (upd H q (.tup vs)) := by
  have l : c.Le H (c.add q) (upd H q (.tup vs)) := le_fresh r.trk hq
  refine h (c.add q) (.ref q) _ l (r.fresh hq) ?_
  simp only [RepV]
  exact ⟨q, vs, rfl, .inl ⟨.inr rfl, .inl upd_same⟩, RepL.le l _ _ rl⟩
theorem PostE.newL {ds : List D} {vs : List V} (h : PostE p g c sl σ H W Q (okE (.lst ds) mm)) (r : Rep p.K g c sl mm σ H) (rl : RepL p.K c.ad c.Z H ds vs) {q : Addr} (hq : H q = none) : Q (.ref q) (upd H q (.lst vs)) := by
  have l : c.Le H (c.add q) (upd H q (.lst vs)) := le_fresh r.trk hq
  refine h (c.add q) (.ref q) _ l (r.fresh hq) ?_
  simp only [RepV]
  exact ⟨q, vs, rfl, ⟨.inr rfl, .inl upd_same⟩, RepL.le l _ _ rl⟩
/-- a new list of the activation's own -/
theorem PostE.newM {ds : List D} {vs : List V} (h : PostE p g c sl σ H W Q (okE (.m mm.length) (mm ++ [.mu (.lst ds)]))) (r : Rep p.K g c sl mm σ H) (hp : pureDs ds = true) (rl : RepL p.K c.ad c.Z H ds vs) {q : Addr} (hq : H q = none) : Q (.ref q) (upd H q (.lst vs)) := by
  refine h (c.own q) (.ref q) _ (le_own r.trk hq) (r.own hq hp rl) ?_
  simp only [RepV]
  exact ⟨q, by rw [← r.lenA]; simp [Cf.own], rfl⟩
end

/-! ### where a piece of code stands -/
def litV : D → V
  | .bl b => .bl b
  | .int i => .int i
  | .str s => .str (toS s)
  | _ => .non
def fillV : List (Option D) → List V → List V
  | [], vs => vs
  | some d :: r, vs => litV d :: fillV r vs
  | none :: r, vs => (match vs with | v :: vs => v :: fillV r vs | [] => [])
def PostF (p : Pg) (c : Cf) (H : Hp) (Q : VK) (E : XK) : Option FR → Prop
  | none => False
  | some (.rt d bs' new) => ∀ c' v H', c.Le H c' H' → Rep p.K ⟨H, c.Z, c.ad⟩ c' [] (bs' ++ new) [] H' → RepV p.K c'.ad c'.Z H' d v → Q v H'
  | some (.ex x bs') => ∀ c' dd H', c.Le H c' H' → Rep p.K ⟨H, c.Z, c.ad⟩ c' [] bs' [] H' → RepX p.K c'.Z H' x dd → E (.ref (p.ea x.cls)) dd H'
def spF (p : Pg) (n f : Nat) : Sp := fun vs H Q E => ∃ c ds bs, Rep p.K ⟨H, c.Z, c.ad⟩ c [] bs [] H ∧ bs.all M.isMu = true ∧ RepL p.K c.ad c.Z H ds vs ∧ vs.length = (p.T f).np ∧ PostF p c H Q E (p.cf n f ds bs)
/-- levels of the hand layer: four for each of ours -/
abbrev lv (n : Nat) : Nat := 4 * n
/-- a class is called so -/
def KBok (K : PySem.W.Frag) (fd : FuncData) (ps : List Str) (q : Nat × List Str × List (Option D)) : Prop :=
  ∃ (g : List Value → List Value → List Value) (gV : List V → List V → List V), KBn K fd ps (q.1 + 1) q.2.1 g gV ∧ ∀ v vs zs, vs.length = q.1 → zs.length = q.2.1.length → gV (v :: vs) zs = v :: fillV q.2.2 (vs ++ zs)
def FnsOk (P : Program) (w : World) (base : Heap) (p : Pg) (n : Nat) : Prop := ∀ f, p.dom f = true → PySem.W.keepIn p.K (.ref (p.fa f)) = true ∧ ∃ (fd : FuncData) (ps : List Str), ps.length = (p.T f).np ∧ (p.kbs f = [] → Binds p.K fd ps []) ∧ (∀ q ∈ p.kbs f, KBok p.K fd ps q) ∧
    FnOk P w p.K p.mg base (L2.CX P w) (lv n) (p.fa f) fd ps (spF p n f)
/-- an own class -/
structure ClsF (p : Pg) (c : Nat) : Prop where
  cls : Cls p.K (p.K.xa c)
  mg : p.mg (p.cn c) = some (.ref (p.K.xa c))
  nd : (p.K.cf c).Nodup
  len : (p.K.cf c).length ≤ 100
  noa : ∀ x ∈ p.K.cf c, NoAttr p.K (p.K.xa c) x
  sf : PySem.W.selfFirst p.K (p.K.xa c) = true
  tup : PySem.W.subIn p.K (.type "tuple") (.ref (p.K.xa c)) = some false
  kit : PySem.W.kitOne p.K (.type "tuple") (.ref (p.K.xa c)) = some false
  kitS : PySem.W.kitOne p.K (.ref (p.K.xa c)) (.ref (p.K.xa c)) = some true
  ha : PySem.W.findIn p.K (.ref (p.K.xa c)) "__class__" = some (some (.builtin "object.__class__"))
  hn : PySem.W.specialIn p.K (.builtin "object.__class__") "__get__" = some (some (.builtin "getset_descriptor.__get__"))
  htk : PySem.W.takesIn p.K (.builtin "object.__class__") = some true
  hm : PySem.W.mroIn p.K (p.K.xa c) (.type "object") = some true
  rsh : ∀ T : String, T = "tuple" ∨ T = "list" ∨ T = "NoneType" → PySem.W.findIn p.K (.type T) "__rshift__" = some none ∧ PySem.W.findIn p.K (.type T) "__rrshift__" = some none
/-- what the text says of classes, of exceptions -/
structure OwnF (p : Pg) : Prop where
  cls : ∀ c, p.cdom c = true → ClsF p c
  ini : ∀ c f, p.ini c = some f → p.cdom c = true ∧ p.dom f = true ∧ Mk p.K (p.K.xa c) (p.fa f)
  fn : ∀ f c, p.mt f = some (c, .fn) → p.cdom c = true ∧ p.dom f = true ∧ p.kbs f = [] ∧ OwnM p.K (p.K.xa c) (p.fn f) (p.fa f) ∧ PySem.W.keepIn p.K (.ref (p.fa f)) = true ∧ p.fn f ∉ p.K.cf c
  prop : ∀ f c, p.mt f = some (c, .prop) → p.cdom c = true ∧ p.dom f = true ∧ p.kbs f = [] ∧ ∃ q, PropOf p.K (p.K.xa c) (p.fn f) q (p.fa f)
  cm : ∀ f c, p.mt f = some (c, .cm) → p.cdom c = true ∧ p.dom f = true ∧ p.kbs f = [] ∧ ∃ mc q, ClX.CRead p.K (p.K.xa c) mc ∧ ClX.CMet p.K (p.K.xa c) mc (p.fn f) q (p.fa f)
  con : ∀ g c x, p.con g = some (c, x) → p.cdom c = true ∧ pureD (p.gv g) = true ∧ ∃ mc u v, ClX.CRead p.K (p.K.xa c) mc ∧ ClX.CVal p.K (p.K.xa c) mc x v u ∧ ∀ H, RepV p.K [] (fun _ => False) H (p.gv g) v
  exc : ∀ c, p.edom c = true → p.mg (p.en c) = some (.ref (p.ea c)) ∧ PySem.W.excIn p.K (p.ea c) He.veBase "ValueError.__new__" = true ∧ PySem.W.keepIn p.K (.ref (p.ea c)) = true ∧ PySem.W.subIn p.K (.ref (p.ea c)) (.type "BaseException") = some true ∧ PySem.W.typeIn p.K (.ref (p.ea c)) = some (.type "type")
  hnd : ∀ c, p.hdm c = true → p.mg (p.en c) = some (.ref (p.ea c))
  exm : ∀ x c b, p.sub x c = some b → PySem.W.exmOne p.K (.ref (p.ea x)) (.ref (p.ea c)) = some b
def isT (p : Pg) : Option Nat → Value
  | none => .type "ValueError"
  | some k => .ref (p.ea k)
/-- exceptions as values -/
structure ExvF (p : Pg) : Prop where
  exv : ∀ c, p.xvd c = true → p.edom c = true ∧ p.K.xk c = none ∧ p.K.xa c = p.ea c ∧ L2.ExcC p.K (p.K.xa c) ∧ PySem.W.findIn p.K (.ref (p.K.xa c)) "__str__" = some (some (.builtin "BaseException.__str__"))
  exi : ∀ c, p.xid c = true → p.mg (p.en c) = some (.ref (p.K.xa c)) ∧ p.K.xa c = p.ea c ∧ L2.ExcC p.K (p.K.xa c) ∧ XfC p.K (p.K.xa c) ∧ OexC p.K (p.K.xa c) ∧ ∃ (n self par : Str) (fI : Addr) (fd : FuncData), p.K.xk c = some n ∧ PySem.W.findIn p.K (.ref (p.K.xa c)) n = some none ∧
    PySem.W.findIn p.K (.ref (p.K.xa c)) "__init__" = some (some (.ref fI)) ∧ PySem.W.typeIn p.K (.ref fI) = some (.type "function") ∧ Binds p.K fd [self, par] [] ∧ ∀ (P : Program) (w : World) (base : Heap), FnOk P w p.K p.mg base (L2.CX P w) 1 fI fd [self, par] (spXI p.K n)
  ist : ∀ t c b, (c, b) ∈ p.ist t → (p.xvd c = true ∨ p.xid c = true) ∧ PySem.W.kitOne p.K (.ref (p.K.xa c)) (isT p t) = some b
  isd : ∀ k, p.ist (some k) ≠ [] → p.hdm k = true
structure XOk (p : Pg) (n : Nat) (N : List Str) (sc : Scope) (W : WX) (X : Cx) : Prop where
  K : X.K = p.K.K
  dn : p.K.dn = dN X.prog X.w
  mg : X.mg = p.mg
  nm : X.N = N
  sc : X.env.scope = sc
  nd : N.Nodup
  calm : X.calm = true
  room : Room (lv n + 3) X.A
  takes : Takes X W
  fns : FnsOk X.prog X.w X.base p n
  fng : ∀ f, p.gdf f = true → p.kbs f = [] ∧ p.mg (p.fn f) = some (.ref (p.fa f))
  own : OwnF p
  exq : ExvF p
  blt : ∀ x, p.bdom x = true → p.mg x = none
  gls : ∀ i, p.gdom i = true → ∃ u v, p.mg (p.gn i) = some u ∧ RelV v u ∧ pureD (p.gv i) = true ∧ ∀ H, RepV p.K [] (fun _ => False) H (p.gv i) v

/-! ### the shape of what is checked -/
def plainA : Expr → Bool
  | .Name _ _ => true
  | .Constant _ _ _ => true
  | .Tuple _ _ _ => true
  | .List _ _ => true
  | .UnaryOp _ _ _ => true
  | .BinOp _ _ _ _ => true
  | .Compare _ _ _ _ => true
  | .BoolOp _ _ _ => true
  | .IfExp _ _ _ _ => true
  | .Call _ _ _ _ => true
  | .Subscript _ _ _ => true
  | .ListComp _ _ _ _ => true
  | .Dict _ _ _ => true
  | .Attribute _ _ _ => true
  | _ => false
theorem star_plain {e : Expr} (h : plainA e = true) (es : List Expr) (env : Env) : starEach (e :: es) env = (false, eval e env) :: starEach es env := by
  cases e <;> first | rfl | cases h
theorem star_none : ∀ {es : List Expr}, es.all plainA = true → ∀ (env : Env) (pos : Pos), (backTo pos (starEach es env)).any (·.1) = false
  | [], _, _, _ => rfl
  | e :: es, h, env, pos => by
    rw [List.all_cons, Bool.and_eq_true] at h
    rw [star_plain h.1]
    show (false || (backTo pos (starEach es env)).any (·.1)) = false
    rw [star_none h.2 env pos]; rfl
theorem ix_plain {b : Expr} (h : plainA b = true) : PlainIx b := fun o i => by
  cases b <;> first | rfl | cases h
theorem mark_plain {b : Expr} (h : plainA b = true) (op : CmpOp) : behindInMarks op b = false := by
  cases b <;> first | rfl | cases h
theorem fold_plain {e : Expr} (h : plainA e = true) (env : Env) (x : Value) : foldedSetIterable e env x = pure x := by
  cases e <;> first | rfl | cases h
def notSuper : Expr → Bool
  | .Call (.Name id _) [] [] _ => id != ("super" : Str)
  | _ => true
theorem base_plain {o : Expr} (h : plainA o = true) (h2 : notSuper o = true) (attr : Str) (env : Env) : attributeBase o attr env (eval o env) = eval o env := by
  cases o <;> try rfl
  rename_i f args kws pos
  cases f <;> try rfl
  rename_i id pos'
  cases args <;> try rfl
  cases kws <;> try rfl
  have h3 : (id != ("super" : Str)) = true := h2
  unfold attributeBase
  simp only [h3, Bool.true_or, if_true]
/-- an expression whose test is its value's truth -/
def valA : Expr → Bool
  | .Name _ _ => true
  | .Constant _ _ _ => true
  | .Call _ _ _ _ => true
  | .Subscript _ _ _ => true
  | _ => false
theorem truth_plain {e : Expr} (h : valA e = true) (env : Env) : ∀ whole, isTrue e env whole = (do let v ← whole; standAt e.pos; holding [v] (truthy v)) := by
  cases e <;> first | (intro _; rfl) | cases h
def isComp : Expr → Bool
  | .ListComp _ _ _ _ => true
  | .SetComp _ _ _ _ => true
  | .DictComp _ _ _ _ _ => true
  | _ => false
theorem swap_plain {e : Expr} (h : plainA e = true) (h2 : isComp e = false) (t : Option Expr) (l : Nat) (env : Env) : swapsWith e t l env = pure false := by
  cases e <;> first | rfl | cases h2 | cases h

section
variable {X : Cx} {e : Expr}
theorem PEimp {t t' : TE} (h : PE X e t) (i : ∀ σ H Q, t' σ H Q → t σ H Q) : PE X e t' := ⟨fun pins s σ H Q I q => h.run pins s σ H Q I (i σ H Q q)⟩
theorem PTimp {t t' : TT} (h : PT X e t) (i : ∀ σ H Q, t' σ H Q → t σ H Q) : PT X e t' := ⟨fun pins s σ H Q I q => h.run pins s σ H Q I (i σ H Q q)⟩
theorem PWimp {t t' : TT} (h : PW X e t) (i : ∀ σ H Q, t' σ H Q → t σ H Q) : PW X e t' := ⟨fun w pins s σ H Q I q => h.run w pins s σ H Q I (i σ H Q q)⟩
theorem PAimp {es : List Expr} {t t' : TA} (h : PA X es t) (i : ∀ σ H Q, t' σ H Q → t σ H Q) : PA X es t' := ⟨fun pos pins s σ H Q I q => h.run pos pins s σ H Q I (i σ H Q q)⟩
end
/-! ### names, constants, calls -/
def visB (sc : Scope) (x : Str) : Bool := match sc.names.lookup x with
  | some .local => true
  | some .cell => true
  | some .free => true
  | _ => false
theorem vis_of {sc : Scope} {x : Str} (h : visB sc x = true) : Vis sc x := by
  unfold visB at h
  unfold Vis
  cases e : sc.names.lookup x with
  | none => rw [e] at h; cases h
  | some k => rw [e] at h; cases k <;> first | exact .inl rfl | exact .inr (.inl rfl) | exact .inr (.inr rfl) | cases h
def locB (sc : Scope) (x : Str) : Bool := match sc.names.lookup x with
  | some .local => true
  | some .cell => true
  | _ => false
theorem loc_of {sc : Scope} {x : Str} (h : locB sc x = true) : L2.Loc sc x := by
  unfold locB at h
  unfold L2.Loc
  cases e : sc.names.lookup x with
  | none => rw [e] at h; cases h
  | some k => rw [e] at h; cases k <;> first | exact .inl rfl | exact .inr rfl | cases h
def nmB (x : Str) : Bool := !(x == ("__debug__" : Str)) && !(x == ("__classdict__" : Str)) && !(x == ("__name__" : Str))
def glB (sc : Scope) (x : Str) : Bool := decide (sc.names.lookup x = some .globalImplicit) && nmB x
section
variable {p : Pg} {n : Nat} {N : List Str} {sc : Scope} {W : WX} {X : Cx}
theorem nm_deb {x : Str} (h : nmB x = true) : (x == ("__debug__" : Str)) = false := by
  unfold nmB at h
  simp only [Bool.and_eq_true, Bool.not_eq_true'] at h
  exact h.1.1
theorem nm_cd {x : Str} (h : nmB x = true) : (x == ("__classdict__" : Str)) = false := by
  unfold nmB at h
  simp only [Bool.and_eq_true, Bool.not_eq_true'] at h
  exact h.1.2
theorem nm_nm {x : Str} (h : nmB x = true) : x ≠ ("__name__" : Str) := by
  unfold nmB at h
  simp only [Bool.and_eq_true, Bool.not_eq_true'] at h
  exact fun e => by rw [e] at h; simp at h
theorem XOk.gl (o : XOk p n N sc W X) {x : Str} (h : glB sc x = true) : Gl X x := by
  unfold glB at h
  rw [Bool.and_eq_true] at h
  unfold Gl Env.kindOf
  rw [o.sc]; exact of_decide_eq_true h.1
theorem gl_nm {x : Str} (h : glB sc x = true) : nmB x = true := by
  unfold glB at h
  rw [Bool.and_eq_true] at h
  exact h.2
theorem s_var (o : XOk p n N sc W X) {i : Nat} {x : Str} {pos : Pos} (hN : N[i]? = some x) (hv : visB sc x = true) (hn : nmB x = true) : PE X (.Name x pos) (tE p n W (.var i)) := by
  refine PEimp (pe_var (i := i) (by rw [o.nm]; exact hN) (by rw [o.sc]; exact vis_of hv) (nm_deb hn) (nm_cd hn)) fun σ H Q ⟨g, c, sl, mm, r, h⟩ => ?_
  simp only [semE] at h
  cases q : sl[i]? with
  | none => rw [q] at h; exact h.elim
  | some o' =>
    rw [q] at h
    cases o' with
    | none => exact h.elim
    | some d =>
      obtain ⟨v, hv, rv⟩ := r.slot i d q
      exact ⟨v, hv, PostE.ok0 h r rv⟩
theorem s_cst {d : D} {v : V} {e : Expr} (h : PE X e (tC v)) (rv : ∀ ad Z H, RepV p.K ad Z H d v) : PE X e (tE p n W (.cst d)) :=
  PEimp h fun σ H Q ⟨g, c, sl, mm, r, h⟩ => by
    simp only [semE] at h
    exact PostE.ok0 h r (rv _ _ _)
theorem repV_settled {K : Kx} {H : Hp} {c : Cf} {d : D} {v : V} (hp : pureD d = true) (h : RepV K [] (fun _ => False) H d v) : RepV K c.ad c.Z H d v :=
  RepV.pure _ _ _ hp (RepV.le (ad' := []) ⟨⟨[], rfl⟩, fun _ z => z.elim, fun _ _ z => z.elim⟩ d v h)
theorem s_glb (o : XOk p n N sc W X) {i : Nat} {pos : Pos} (hd : p.gdom i = true) (hg : glB sc (p.gn i) = true) : PE X (.Name (p.gn i) pos) (tE p n W (.glb i)) := by
  obtain ⟨u, v, hm, rv, hp, hr⟩ := o.gls i hd
  refine PEimp (pe_glob (o.gl hg) (by rw [o.mg]; exact hm) rv (nm_deb (gl_nm hg))) fun σ H Q ⟨g, c, sl, mm, r, h⟩ => ?_
  simp only [semE] at h
  exact PostE.ok0 h r (repV_settled hp (hr H))
theorem s_nil : PA X [] (tEs p n W .nil) := PAimp pa_nil fun σ H Q ⟨g, c, sl, mm, r, h⟩ => by
  simp only [semEs] at h
  exact h c [] H .refl r RepL.nil
theorem s_cons {a : Expr} {as : List Expr} {e : E} {es : Es} (ha : PE X a (tE p n W e)) (hr : PA X as (tEs p n W es)) (pl : plainA a = true) : PA X (a :: as) (tEs p n W (.cons e es)) :=
  PAimp (pa_cons ha hr (star_plain pl as X.env)) fun σ H Q ⟨g, c, sl, mm, r, h⟩ => by
    simp only [semEs] at h
    refine ⟨g, c, sl, mm, r, ?_⟩
    cases q : semE p.gv (p.cf n) e sl mm with
    | none => rw [q] at h; exact h.elim
    | some x =>
      rw [q] at h
      cases x with
      | ex x mm1 => exact h
      | ok d mm1 =>
        intro c1 v H1 l1 r1 rv1
        refine ⟨g, c1, sl, mm1, r1, ?_⟩
        cases q2 : semEs p.gv (p.cf n) es sl mm1 with
        | none => simp only [q2] at h; exact h.elim
        | some y =>
          simp only [q2] at h
          cases y with
          | ex x mm2 => exact fun c2 dd H2 l2 r2 q => h c2 dd H2 (l1.trans l2) r2 q
          | ok ds mm2 => exact fun c2 vs H2 l2 r2 rl => h c2 (v :: vs) H2 (l1.trans l2) r2 (RepL.cons (RepV.le l2 _ _ rv1) rl)
theorem s_tup {as : List Expr} {es : Es} {x1 : Nat} {pos : Pos} (h : PA X as (tEs p n W es)) : PE X (.Tuple as x1 pos) (tE p n W (.tup es)) :=
  PEimp (pe_tup h) fun σ H Q ⟨g, c, sl, mm, r, h⟩ => by
    simp only [semE] at h
    refine ⟨g, c, sl, mm, r, ?_⟩
    cases q : semEs p.gv (p.cf n) es sl mm with
    | none => rw [q] at h; exact h.elim
    | some x =>
      rw [q] at h
      cases x with
      | ex x mm1 => exact h
      | ok ds mm1 =>
        intro c1 vs H1 l1 r1 rl
        by_cases hz : ds.length ≤ szl
        · simp only [hz, if_true] at h
          exact ⟨by rw [rl.len]; exact hz, fun q hq => PostE.newT (PostE.from h l1) r1 rl hq⟩
        · simp only [hz, if_false] at h
          exact h.elim
theorem s_lst {as : List Expr} {es : Es} {pos : Pos} (h : PA X as (tEs p n W es)) : PE X (.List as pos) (tE p n W (.lst es)) :=
  PEimp (pe_lst h) fun σ H Q ⟨g, c, sl, mm, r, h⟩ => by
    simp only [semE] at h
    refine ⟨g, c, sl, mm, r, ?_⟩
    cases q : semEs p.gv (p.cf n) es sl mm with
    | none => rw [q] at h; exact h.elim
    | some x =>
      rw [q] at h
      cases x with
      | ex x mm1 => exact h
      | ok ds mm1 =>
        intro c1 vs H1 l1 r1 rl
        cases hz : (pureDs ds && decide (ds.length ≤ szl)) with
        | true =>
          simp only [hz, if_true] at h
          rw [Bool.and_eq_true] at hz
          exact ⟨by rw [rl.len]; exact of_decide_eq_true hz.2, fun q hq => PostE.newL (PostE.from h l1) r1 rl hq⟩
        | false =>
          simp only [hz] at h
          exact h.elim
theorem s_nls {as : List Expr} {es : Es} {pos : Pos} (h : PA X as (tEs p n W es)) : PE X (.List as pos) (tE p n W (.nls es)) :=
  PEimp (pe_lst h) fun σ H Q ⟨g, c, sl, mm, r, h⟩ => by
    simp only [semE] at h
    refine ⟨g, c, sl, mm, r, ?_⟩
    cases q : semEs p.gv (p.cf n) es sl mm with
    | none => rw [q] at h; exact h.elim
    | some x =>
      rw [q] at h
      cases x with
      | ex x mm1 => exact h
      | ok ds mm1 =>
        intro c1 vs H1 l1 r1 rl
        cases hz : (pureDs ds && decide (ds.length ≤ szl)) with
        | true =>
          simp only [hz, if_true] at h
          rw [Bool.and_eq_true] at hz
          exact ⟨by rw [rl.len]; exact of_decide_eq_true hz.2, fun q hq => PostE.newM (PostE.from h l1) r1 hz.1 rl hq⟩
        | false =>
          simp only [hz] at h
          exact h.elim
/-! ### operators by values -/
/-- a unary rule -/
theorem s_un {e : Expr} {a : E} {o : U1} {r : V → Hp → VK → Prop} (h : PE X e (tUn r (tE p n W a)))
    (hr : ∀ g c sl mm σ H d v Q, Rep p.K g c sl mm σ H → RepV p.K c.ad c.Z H d v → PostE p g c sl σ H W Q (unS o d mm) → r v H Q) : PE X e (tE p n W (.un o a)) :=
  PEimp h fun σ H Q ⟨g, c, sl, mm, rp, h⟩ => by
    simp only [semE] at h
    exact ⟨g, c, sl, mm, rp, PostE.bind h fun c1 d mm1 v H1 l1 r1 rv h1 => hr g c1 sl mm1 σ H1 d v Q r1 rv h1⟩
theorem s_bin {e : Expr} {a b : E} {o : B2} {r : R2} (h : PE X e (tOp r (tE p n W a) (tE p n W b)))
    (hr : ∀ g c sl mm σ H d f v u Q, Rep p.K g c sl mm σ H → RepV p.K c.ad c.Z H d v → RepV p.K c.ad c.Z H f u → PostE p g c sl σ H W Q (binS o d f mm) → r v u H Q) : PE X e (tE p n W (.bin o a b)) :=
  PEimp h fun σ H Q ⟨g, c, sl, mm, rp, h⟩ => by
    simp only [semE] at h
    refine ⟨g, c, sl, mm, rp, PostE.bind h fun c1 d mm1 v H1 l1 r1 rv h1 => ?_⟩
    exact ⟨g, c1, sl, mm1, r1, PostE.bind h1 fun c2 f mm2 u H2 l2 r2 ru h2 => hr g c2 sl mm2 σ H2 d f v u Q r2 (RepV.le l2 _ _ rv) ru h2⟩
end
end Mp
/-! Mp4: the operators of the small language. -/
namespace Mp
open PySem PySem.Spec
open PyProof.Rows L2

theorem room_u64 {n : Nat} {A : Around} (r : Room n A) : A.units + 64 < cLine := by have := r.un; omega
theorem room_u65 {n : Nat} {A : Around} (r : Room n A) : A.units + 65 < cLine := by have := r.un; omega
/-! ### further rules by values -/
section
variable {X : Cx}
def rInT (K : PySem.W.Frag) (neg : Bool) : R2 := fun x y H Q => ∃ d ds, Dp K H x d ∧ Dp K H y (.tuple ds) ∧ SeqAt.shaped d = true ∧ SeqAt.shaped (.tuple ds) = true ∧ Q (.bl (if neg then !(ds.any fun z => PyData.eqv z d) else ds.any fun z => PyData.eqv z d)) H
theorem op_inT (hu : X.A.units + 65 < cLine) : OpR X (compareOp .In) (rInT X.K false) := fun pins s σ H x y v u Q I rx ry h => by
  obtain ⟨d, ds, hd, he, sd, se, q⟩ := h
  obtain ⟨as, r1⟩ := Dp.reads I d x v hd rx
  obtain ⟨bs, r2⟩ := Dp.reads I (.tuple ds) y u he ry
  have sl : SeqAt.shaped (.list ds) = true := se
  exact SeqAt.in_tuple_reads r2 r1 (SeqAt.canLay_of_shaped se) (SeqAt.canLay_of_shaped sd) (room_in_shaped sd hu) ⟨.bl _, H, I, rfl, q⟩
theorem op_ninT (hu : X.A.units + 65 < cLine) : OpR X (compareOp .NotIn) (rInT X.K true) := fun pins s σ H x y v u Q I rx ry h => by
  obtain ⟨d, ds, hd, he, sd, se, q⟩ := h
  obtain ⟨as, r1⟩ := Dp.reads I d x v hd rx
  obtain ⟨bs, r2⟩ := Dp.reads I (.tuple ds) y u he ry
  exact SeqAt.notIn_tuple_reads r2 r1 (SeqAt.canLay_of_shaped se) (SeqAt.canLay_of_shaped sd) (room_in_shaped sd hu) ⟨.bl _, H, I, rfl, q⟩
theorem rd_lst {pins : List (Addr × Obj)} {σ : L2.St} {H : Hp} {s : Shared} {a : Addr} {vs : List V} (I : Inv X pins σ H s) (h : Rd H a (.lst vs)) :
    vs.length ≤ sizeLine ∧ ∃ (its : List Value) (n : Nat), Vals vs its ∧ s.heap.get? a = some { cls := .type "list", data := .seq its.toArray n } := h.ok I.hok
/-- list + list -/
def rCatL : R2 := fun x y H Q => ∃ a b xs ys, x = .ref a ∧ y = .ref b ∧ Rd H a (.lst xs) ∧ Rd H b (.lst ys) ∧ xs.length + ys.length ≤ sizeLine ∧ ∀ p, H p = none → Q (.ref p) (upd H p (.lst (xs ++ ys)))
theorem op_catL : OpR X (binaryOp .Add) rCatL := fun pins s σ H x y v u Q I rx ry h => by
  obtain ⟨a, b, xs, ys, rfl, rfl, ha, hb, hz, q⟩ := h
  cases rx
  cases ry
  obtain ⟨z1, its1, n1, r1, e1⟩ := rd_lst I ha
  obtain ⟨z2, its2, n2, r2, e2⟩ := rd_lst I hb
  have l1 := r1.length
  have l2 := r2.length
  refine PySem.P.add_list e1 e2 ?_ (by simp only [List.size_toArray]; omega)
  rw [show its1.toArray ++ its2.toArray = (its1 ++ its2).toArray by simp]
  exact ⟨.ref _, _, I.lnew (t' := s.toks) (r1.append r2) (by simp only [List.length_append]; omega), rfl, q _ I.fresh⟩
end
section
variable {p : Pg} {n : Nat} {N : List Str} {sc : Scope} {W : WX} {X : Cx} {A B : Expr} {a b : E} {pos : Pos}
theorem s_neg (ha : PE X A (tE p n W a)) : PE X (.UnaryOp .USub A pos) (tE p n W (.un .neg a)) :=
  s_un (pe_un un_neg ha) fun g c sl mm σ H d v Q r rv h => by
    cases d <;> simp only [unS] at h <;> try exact h.elim
    simp only [RepV] at rv; subst rv
    exact ⟨_, rfl, PostE.ok0 h r (by simp only [RepV])⟩
theorem repV_str {K : Kx} {ad : List Addr} {Z : Addr → Prop} {H : Hp} {s : Tx} {v : V} (h : RepV K ad Z H (.str s) v) : v = .str (toS s) ∧ okT s = true := by simpa only [RepV] using h
theorem repV_int {K : Kx} {ad : List Addr} {Z : Addr → Prop} {H : Hp} {s : Int} {v : V} (h : RepV K ad Z H (.int s) v) : v = .int s := by simpa only [RepV] using h
theorem repV_bl {K : Kx} {ad : List Addr} {Z : Addr → Prop} {H : Hp} {s : Bool} {v : V} (h : RepV K ad Z H (.bl s) v) : v = .bl s := by simpa only [RepV] using h
theorem repV_non {K : Kx} {ad : List Addr} {Z : Addr → Prop} {H : Hp} {v : V} (h : RepV K ad Z H .non v) : v = .non := by simpa only [RepV] using h
theorem okI {K : Kx} {ad : List Addr} {Z : Addr → Prop} {H : Hp} {s : Int} : RepV K ad Z H (.int s) (.int s) := by simp only [RepV]
theorem okB {K : Kx} {ad : List Addr} {Z : Addr → Prop} {H : Hp} {s : Bool} : RepV K ad Z H (.bl s) (.bl s) := by simp only [RepV]
theorem okN {K : Kx} {ad : List Addr} {Z : Addr → Prop} {H : Hp} : RepV K ad Z H .non .non := by simp only [RepV]
/-- an atom reads as itself -/
theorem Rep.rdS {K : Kx} {g : Gh} {c : Cf} {sl : Sl} {mm : Mm} {σ : L2.St} {H : Hp} (r : Rep K g c sl mm σ H) {d : D} {v : V} {s : Tx} (hv : RepV K c.ad c.Z H d v) (e : rd mm d = .str s) : d = .str s := by
  rcases r.rdV hv (fun xs q => by rw [e] at q; cases q) (fun ks xs q => by rw [e] at q; cases q) with q | ⟨k, xs, _, q⟩
  · rw [e] at q; exact q.symm
  · rw [e] at q; cases q
theorem Rep.rdI {K : Kx} {g : Gh} {c : Cf} {sl : Sl} {mm : Mm} {σ : L2.St} {H : Hp} (r : Rep K g c sl mm σ H) {d : D} {v : V} {s : Int} (hv : RepV K c.ad c.Z H d v) (e : rd mm d = .int s) : d = .int s := by
  rcases r.rdV hv (fun xs q => by rw [e] at q; cases q) (fun ks xs q => by rw [e] at q; cases q) with q | ⟨k, xs, _, q⟩
  · rw [e] at q; exact q.symm
  · rw [e] at q; cases q
/-- what == reads of a value -/
theorem Rep.rdDp {K : Kx} {g : Gh} {c : Cf} {sl : Sl} {mm : Mm} {σ : L2.St} {H : Hp} (r : Rep K g c sl mm σ H) {d : D} {v : V} (hv : RepV K c.ad c.Z H d v) (e : okEq (rd mm d) = true) :
    Dp K H v (toPy (rd mm d)) ∧ SeqAt.shaped (toPy (rd mm d)) = true := by
  by_cases hm : ∃ k, d = .m k
  · obtain ⟨k, rfl⟩ := hm
    simp only [RepV] at hv
    obtain ⟨a, ha, rfl⟩ := hv
    cases q : mm[k]? with
    | none =>
      have hl : k < mm.length := by rw [← r.lenA]; exact (List.getElem?_eq_some_iff.mp ha).1
      rw [List.getElem?_eq_getElem hl] at q; cases q
    | some x =>
      have o := r.obj k a x ha q
      have er : rd mm (.m k) = x.val := by simp only [rd, q]
      rw [er] at e ⊢
      cases x with
      | fz d =>
        have h := o.2.2
        exact ⟨h.dpE e, h.shaped e⟩
      | mu d =>
        have h := o.2.2
        cases d <;> simp only [RepM] at h <;> try exact h.elim
        · rename_i xs
          obtain ⟨vs, h1, h2⟩ := h
          have e' : hgts xs + 1 ≤ 64 := of_decide_eq_true e
          refine ⟨.lst (.inl (.inl h1)) (RepL.dp xs vs (by omega) h2), ?_⟩
          unfold SeqAt.shaped
          show (PyData.canLayAll0 (toPys xs) && decide (PyData.depthAll (toPys xs) + 1 ≤ 64)) = true
          rw [RepL.lay xs vs (by omega) h2, depth_toPys xs (by omega)]
          simpa using e'
        · exact absurd (okEq_lt e) (by simp [M.val, hgt])
        · exact absurd (okEq_lt e) (by simp [M.val, hgt])
        · exact absurd (okEq_lt e) (by simp [M.val, hgt])
  · have er : rd mm d = d := by
      cases d <;> first | rfl | exact (hm ⟨_, rfl⟩).elim
    rw [er] at e ⊢
    exact ⟨hv.dpE e, hv.shaped e⟩
/-- a comparison, by its rule -/
theorem pc_of {op : CmpOp} {r : R2} {ta tb : TE} (ho : OpR X (compareOp op) r) (ha : PE X A ta) (hb : PE X B tb) : PC X op A B (tOp r ta tb) :=
  ⟨fun pins s σ H Q I h => binT ha hb I h fun v u s2 x y H2 I2 rx ry q => ho pins s2 σ H2 x y v u Q I2 rx ry q⟩
theorem PCimp {op : CmpOp} {t t' : TE} (h : PC X op A B t) (i : ∀ σ H Q, t' σ H Q → t σ H Q) : PC X op A B t' := ⟨fun pins s σ H Q I q => h.run pins s σ H Q I (i σ H Q q)⟩
theorem c_bin {op : CmpOp} {o : B2} {r : R2} (h : PC X op A B (tOp r (tE p n W a) (tE p n W b)))
    (hr : ∀ g c sl mm σ H d f v u Q, Rep p.K g c sl mm σ H → RepV p.K c.ad c.Z H d v → RepV p.K c.ad c.Z H f u → PostE p g c sl σ H W Q (binS o d f mm) → r v u H Q) : PC X op A B (tE p n W (.bin o a b)) :=
  PCimp h fun σ H Q ⟨g, c, sl, mm, rp, h⟩ => by
    simp only [semE] at h
    refine ⟨g, c, sl, mm, rp, PostE.bind h fun c1 d mm1 v H1 l1 r1 rv h1 => ?_⟩
    exact ⟨g, c1, sl, mm1, r1, PostE.bind h1 fun c2 f mm2 u H2 l2 r2 ru h2 => hr g c2 sl mm2 σ H2 d f v u Q r2 (RepV.le l2 _ _ rv) ru h2⟩
theorem c_un {op : CmpOp} {o : U1} {r : V → Hp → VK → Prop} (h : PC X op A B (tUn r (tE p n W a)))
    (hr : ∀ g c sl mm σ H d v Q, Rep p.K g c sl mm σ H → RepV p.K c.ad c.Z H d v → PostE p g c sl σ H W Q (unS o d mm) → r v H Q) : PC X op A B (tE p n W (.un o a)) :=
  PCimp h fun σ H Q ⟨g, c, sl, mm, rp, h⟩ => by
    simp only [semE] at h
    exact ⟨g, c, sl, mm, rp, PostE.bind h fun c1 d mm1 v H1 l1 r1 rv h1 => hr g c1 sl mm1 σ H1 d v Q r1 rv h1⟩
theorem s_eq (o : XOk p n N sc W X) (ha : PE X A (tE p n W a)) (hb : PE X B (tE p n W b)) : PC X .Eq A B (tE p n W (.bin .eq a b)) :=
  c_bin (pc_of (op_eqD (room_u64 o.room)) ha hb) fun g c sl mm σ H d f v u Q r rv ru h => by
    simp only [binS, eqS] at h
    cases e : (okEq (rd mm d) && okEq (rd mm f)) with
    | false => rw [e] at h; exact h.elim
    | true =>
      rw [e] at h
      simp only [if_true, Bool.false_eq_true, if_false] at h
      rw [Bool.and_eq_true] at e
      obtain ⟨d1, s1⟩ := r.rdDp rv e.1
      obtain ⟨d2, s2⟩ := r.rdDp ru e.2
      rw [o.K]
      refine ⟨_, _, d1, d2, s1, s2, ?_⟩
      rw [eqv_toPy _ _ (okEq_lt e.1) (okEq_lt e.2)]
      exact PostE.ok0 h r okB
theorem s_ne (o : XOk p n N sc W X) (ha : PE X A (tE p n W a)) (hb : PE X B (tE p n W b)) : PC X .NotEq A B (tE p n W (.bin .ne a b)) :=
  c_bin (pc_of (op_neD (room_u64 o.room)) ha hb) fun g c sl mm σ H d f v u Q r rv ru h => by
    simp only [binS, eqS] at h
    cases e : (okEq (rd mm d) && okEq (rd mm f)) with
    | false => rw [e] at h; exact h.elim
    | true =>
      rw [e] at h
      simp only [if_true] at h
      rw [Bool.and_eq_true] at e
      obtain ⟨d1, s1⟩ := r.rdDp rv e.1
      obtain ⟨d2, s2⟩ := r.rdDp ru e.2
      rw [o.K]
      refine ⟨_, _, d1, d2, s1, s2, ?_⟩
      rw [eqv_toPy _ _ (okEq_lt e.1) (okEq_lt e.2)]
      exact PostE.ok0 h r okB
theorem s_cmpI {op : CmpOp} {o2 : B2} {f : Int → Int → Bool} (ho : OpR X (compareOp op) (rI0 fun i j => .bl (f i j))) (hs : ∀ x y mm, binS o2 x y mm = cmpI x y f mm)
    (ha : PE X A (tE p n W a)) (hb : PE X B (tE p n W b)) : PC X op A B (tE p n W (.bin o2 a b)) :=
  c_bin (pc_of ho ha hb) fun g c sl mm σ H d u v w Q r rv ru h => by
    rw [hs] at h
    cases d <;> simp only [cmpI] at h <;> try exact h.elim
    cases u <;> simp only [] at h <;> try exact h.elim
    rw [repV_int rv, repV_int ru]
    exact ⟨_, _, rfl, rfl, PostE.ok0 h r okB⟩
/-- a rule that holds for two ints -/
theorem s_arI {op : Operator} {o2 : B2} {C : Int → Int → Prop} {f : Int → Int → Int} (ho : OpR X (binaryOp op) (rI C fun i j => .int (f i j))) (k : Int → Int → Bool) (hk : ∀ i j, k i j = true → C i j)
    (hs : ∀ x y mm, binS o2 x y mm = (match x, y with | .int i, .int j => if k i j then okE (.int (f i j)) mm else none | _, _ => none)) (ha : PE X A (tE p n W a)) (hb : PE X B (tE p n W b)) : PE X (.BinOp A op B pos) (tE p n W (.bin o2 a b)) :=
  s_bin (pe_op ho ha hb) fun g c sl mm σ H d u v w Q r rv ru h => by
    rw [hs] at h
    cases d <;> try exact h.elim
    cases u <;> try exact h.elim
    rename_i i j
    cases e : k i j with
    | false => simp only [e] at h; exact h.elim
    | true =>
      simp only [e, if_true] at h
      rw [repV_int rv, repV_int ru]
      exact ⟨_, _, rfl, rfl, hk _ _ e, PostE.ok0 h r okI⟩
theorem s_sub (ha : PE X A (tE p n W a)) (hb : PE X B (tE p n W b)) : PE X (.BinOp A .Sub B pos) (tE p n W (.bin .sub a b)) :=
  s_bin (pe_op op_sub ha hb) fun g c sl mm σ H d u v w Q r rv ru h => by
    cases d <;> simp only [binS] at h <;> try exact h.elim
    cases u <;> simp only [] at h <;> try exact h.elim
    rw [repV_int rv, repV_int ru]
    exact ⟨_, _, rfl, rfl, PostE.ok0 h r okI⟩
theorem s_fdiv (ha : PE X A (tE p n W a)) (hb : PE X B (tE p n W b)) : PE X (.BinOp A .FloorDiv B pos) (tE p n W (.bin .fdiv a b)) :=
  s_arI op_fdiv (fun _ j => decide (0 < j) && decide (j < 1073741824)) (fun i j h => by simpa [CDiv] using h) (fun x y mm => by cases x <;> cases y <;> rfl) ha hb
theorem s_mod (ha : PE X A (tE p n W a)) (hb : PE X B (tE p n W b)) : PE X (.BinOp A .Mod B pos) (tE p n W (.bin .mod a b)) :=
  s_arI op_mod (fun _ j => decide (0 < j)) (fun i j h => by simpa using h) (fun x y mm => by cases x <;> cases y <;> rfl) ha hb
theorem s_pow (ha : PE X A (tE p n W a)) (hb : PE X B (tE p n W b)) : PE X (.BinOp A .Pow B pos) (tE p n W (.bin .pow a b)) :=
  s_arI op_pow (fun i j => decide (0 ≤ j) && decide (j ≤ 1000000) && small64 i) (fun i j h => by
    simp only [small64, Bool.and_eq_true, decide_eq_true_eq] at h
    exact ⟨h.1.1, h.1.2, by omega⟩) (fun x y mm => by cases x <;> cases y <;> rfl) ha hb
theorem s_min2 (o : XOk p n N sc W X) {po : Pos} {x : Str} (hx : x = "min") (hg : glB sc x = true) (hm : p.mg x = none) (ha : PE X A (tE p n W a)) (hb : PE X B (tE p n W b)) (pa : plainA A = true) (pb : plainA B = true) :
    PE X (.Call (.Name x po) [A, B] [] pos) (tE p n W (.bin .min2 a b)) := by
  subst hx
  refine PEimp (pe_callB (call_min2 o.calm) (o.gl hg) (by rw [o.mg]; exact hm) (by decide +kernel) (pa_cons ha (pa_cons hb pa_nil (star_plain pb _ _)) (star_plain pa _ _)) (nm_nm (gl_nm hg)) (nm_deb (gl_nm hg)) (star_plain pa _ _) (star_none (by simp [pb]) _ _)) fun σ H Q ⟨g, c, sl, mm, r, h⟩ => ?_
  simp only [semE] at h
  refine ⟨g, c, sl, mm, r, PostE.bind h fun c1 d mm1 v H1 l1 r1 rv h1 => ⟨g, c1, sl, mm1, r1, PostE.bind h1 fun c2 f mm2 u H2 l2 r2 ru h2 => ?_⟩⟩
  have rv2 := RepV.le l2 _ _ rv
  cases d <;> simp only [binS] at h2 <;> try exact h2.elim
  cases f <;> simp only [] at h2 <;> try exact h2.elim
  rw [repV_int rv2, repV_int ru]
  exact ⟨_, _, rfl, PostE.ok0 h2 r2 okI⟩
theorem s_max2 (o : XOk p n N sc W X) {po : Pos} {x : Str} (hx : x = "max") (hg : glB sc x = true) (hm : p.mg x = none) (ha : PE X A (tE p n W a)) (hb : PE X B (tE p n W b)) (pa : plainA A = true) (pb : plainA B = true) :
    PE X (.Call (.Name x po) [A, B] [] pos) (tE p n W (.bin .max2 a b)) := by
  subst hx
  refine PEimp (pe_callB (call_max2 o.calm) (o.gl hg) (by rw [o.mg]; exact hm) (by decide +kernel) (pa_cons ha (pa_cons hb pa_nil (star_plain pb _ _)) (star_plain pa _ _)) (nm_nm (gl_nm hg)) (nm_deb (gl_nm hg)) (star_plain pa _ _) (star_none (by simp [pb]) _ _)) fun σ H Q ⟨g, c, sl, mm, r, h⟩ => ?_
  simp only [semE] at h
  refine ⟨g, c, sl, mm, r, PostE.bind h fun c1 d mm1 v H1 l1 r1 rv h1 => ⟨g, c1, sl, mm1, r1, PostE.bind h1 fun c2 f mm2 u H2 l2 r2 ru h2 => ?_⟩⟩
  have rv2 := RepV.le l2 _ _ rv
  cases d <;> simp only [binS] at h2 <;> try exact h2.elim
  cases f <;> simp only [] at h2 <;> try exact h2.elim
  rw [repV_int rv2, repV_int ru]
  exact ⟨_, _, rfl, PostE.ok0 h2 r2 okI⟩
/-- a built-in of one argument -/
theorem s_callB {o1 : U1} {id : String} {rr : List V → Hp → VK → Prop} (o : XOk p n N sc W X) {po : Pos} {x : Str} (hc : CallR X (.builtin id) rr) (hv : bootBuiltins x = some (.builtin id)) (hg : glB sc x = true) (hm : p.mg x = none) (ha : PE X A (tE p n W a)) (pa : plainA A = true)
    (hr : ∀ g c sl mm σ H d v Q, Rep p.K g c sl mm σ H → RepV p.K c.ad c.Z H d v → PostE p g c sl σ H W Q (unS o1 d mm) → rr [v] H Q) :
    PE X (.Call (.Name x po) [A] [] pos) (tE p n W (.un o1 a)) :=
  s_un (r := fun v H Q => rr [v] H Q) (PEimp (pe_callB hc (o.gl hg) (by rw [o.mg]; exact hm) hv (pa_cons ha pa_nil (star_plain pa _ _)) (nm_nm (gl_nm hg)) (nm_deb (gl_nm hg)) (star_plain pa _ _) (star_none (by simp) _ _)) fun σ H Q h => h) hr
theorem s_callTy {o1 : U1} {T : String} {rr : List V → Hp → VK → Prop} (o : XOk p n N sc W X) {po : Pos} {x : Str} (hc : CallR X (.type T) rr) (hv : bootBuiltins x = some (.type T)) (hg : glB sc x = true) (hm : p.mg x = none) (ha : PE X A (tE p n W a)) (pa : plainA A = true)
    (hr : ∀ g c sl mm σ H d v Q, Rep p.K g c sl mm σ H → RepV p.K c.ad c.Z H d v → PostE p g c sl σ H W Q (unS o1 d mm) → rr [v] H Q) :
    PE X (.Call (.Name x po) [A] [] pos) (tE p n W (.un o1 a)) :=
  s_un (r := fun v H Q => rr [v] H Q) (PEimp (pe_callTy hc (o.gl hg) (by rw [o.mg]; exact hm) hv (pa_cons ha pa_nil (star_plain pa _ _)) (nm_nm (gl_nm hg)) (nm_deb (gl_nm hg)) (star_plain pa _ _) (star_none (by simp) _ _)) fun σ H Q h => h) hr
theorem sz_eq : (sizeLine : Nat) = szl := by decide
theorem s_len (o : XOk p n N sc W X) {po : Pos} {x : Str} (hx : x = "len") (hg : glB sc x = true) (hm : p.mg x = none) (ha : PE X A (tE p n W a)) (pa : plainA A = true) : PE X (.Call (.Name x po) [A] [] pos) (tE p n W (.un .len a)) := by
  subst hx
  refine s_callB o call_len (by decide +kernel) hg hm ha pa fun g c sl mm σ H d v Q r rv h => ?_
  simp only [unS] at h
  split at h
  · rename_i s e
    have e' := r.rdS rv e
    subst e'
    obtain ⟨rfl, _⟩ := repV_str rv
    split at h
    · rename_i hz
      exact ⟨_, s.length, rfl, ⟨by rw [sz_eq]; simpa [toS, Str.length] using hz, by simp [toS, Str.length]⟩, PostE.ok0 h r okI⟩
    · exact h.elim
  · rename_i xs e
    obtain ⟨q, vs, rfl, t, rl⟩ := r.rdT rv e
    rw [o.K]
    exact ⟨_, xs.length, rfl, .inr ⟨vs, t, rl.len.symm⟩, PostE.ok0 h r okI⟩
  · rename_i xs e
    obtain ⟨q, vs, rfl, t, rl⟩ := r.rdL rv e
    rw [o.K]
    exact ⟨_, xs.length, rfl, .inl ⟨vs, .inl t, rl.len.symm⟩, PostE.ok0 h r okI⟩
  · exact h.elim
theorem s_int (o : XOk p n N sc W X) {po : Pos} {x : Str} (hx : x = "int") (hg : glB sc x = true) (hm : p.mg x = none) (ha : PE X A (tE p n W a)) (pa : plainA A = true) : PE X (.Call (.Name x po) [A] [] pos) (tE p n W (.un .int a)) := by
  subst hx
  refine s_callTy o call_int1 (by decide +kernel) hg hm ha pa fun g c sl mm σ H d v Q r rv h => ?_
  cases d <;> simp only [unS] at h <;> try exact h.elim
  · rename_i k
    rw [repV_bl rv]
    exact .inr ⟨k, rfl, PostE.ok0 h r okI⟩
  · rename_i k
    rw [repV_int rv]
    exact .inl ⟨k, rfl, PostE.ok0 h r okI⟩
theorem repL_bls {K : Kx} {ad : List Addr} {Z : Addr → Prop} {H : Hp} : ∀ {xs : List D} {vs : List V} {bs : List Bool}, RepL K ad Z H xs vs → allBl xs = some bs → vs = bs.map V.bl
  | [], _, _, h, e => by simp only [RepL] at h; simp only [allBl, Option.some.injEq] at e; subst h; subst e; rfl
  | x :: xs, _, bs, h, e => by
    simp only [RepL] at h
    obtain ⟨v, r, rfl, h1, h2⟩ := h
    cases x <;> simp only [allBl] at e <;> try (cases e)
    rename_i b
    cases q : allBl xs with
    | none => rw [q] at e; simp at e
    | some cs =>
      rw [q] at e
      simp only [Option.map_some, Option.some.injEq] at e
      subst e
      rw [repL_bls h2 q, repV_bl h1]; rfl
theorem repL_ints {K : Kx} {ad : List Addr} {Z : Addr → Prop} {H : Hp} : ∀ {xs : List D} {vs : List V} {bs : List Int}, RepL K ad Z H xs vs → allInt xs = some bs → vs = bs.map V.int
  | [], _, _, h, e => by simp only [RepL] at h; simp only [allInt, Option.some.injEq] at e; subst h; subst e; rfl
  | x :: xs, _, bs, h, e => by
    simp only [RepL] at h
    obtain ⟨v, r, rfl, h1, h2⟩ := h
    cases x <;> simp only [allInt] at e <;> try (cases e)
    rename_i b
    cases q : allInt xs with
    | none => rw [q] at e; simp at e
    | some cs =>
      rw [q] at e
      simp only [Option.map_some, Option.some.injEq] at e
      subst e
      rw [repL_ints h2 q, repV_int h1]; rfl
theorem repL_strs {K : Kx} {ad : List Addr} {Z : Addr → Prop} {H : Hp} : ∀ {xs : List D} {vs : List V} {bs : List Tx}, RepL K ad Z H xs vs → allStr xs = some bs → vs = (bs.map toS).map V.str
  | [], _, _, h, e => by simp only [RepL] at h; simp only [allStr, Option.some.injEq] at e; subst h; subst e; rfl
  | x :: xs, _, bs, h, e => by
    simp only [RepL] at h
    obtain ⟨v, r, rfl, h1, h2⟩ := h
    cases x <;> simp only [allStr] at e <;> try (cases e)
    rename_i b
    cases q : allStr xs with
    | none => rw [q] at e; simp at e
    | some cs =>
      rw [q] at e
      simp only [Option.map_some, Option.some.injEq] at e
      subst e
      rw [repL_strs h2 q, (repV_str h1).1]; rfl
theorem s_any (o : XOk p n N sc W X) {po : Pos} {x : Str} (hx : x = "any") (hg : glB sc x = true) (hm : p.mg x = none) (ha : PE X A (tE p n W a)) (pa : plainA A = true) : PE X (.Call (.Name x po) [A] [] pos) (tE p n W (.un .any a)) := by
  subst hx
  refine s_callB o (cr_any o.calm) (by decide +kernel) hg hm ha pa fun g c sl mm σ H d v Q r rv h => ?_
  simp only [unS] at h
  split at h
  · rename_i xs e
    obtain ⟨q, vs, rfl, t, rl⟩ := r.rdL rv e
    split at h
    · rename_i bs e2
      have ev := repL_bls rl e2
      subst ev
      exact ⟨_, bs, rfl, .inl t, PostE.ok0 h r okB⟩
    · exact h.elim
  · exact h.elim
theorem s_all (o : XOk p n N sc W X) {po : Pos} {x : Str} (hx : x = "all") (hg : glB sc x = true) (hm : p.mg x = none) (ha : PE X A (tE p n W a)) (pa : plainA A = true) : PE X (.Call (.Name x po) [A] [] pos) (tE p n W (.un .all a)) := by
  subst hx
  refine s_callB o (cr_all o.calm) (by decide +kernel) hg hm ha pa fun g c sl mm σ H d v Q r rv h => ?_
  simp only [unS] at h
  split at h
  · rename_i xs e
    obtain ⟨q, vs, rfl, t, rl⟩ := r.rdL rv e
    split at h
    · rename_i bs e2
      have ev := repL_bls rl e2
      subst ev
      exact ⟨_, bs, rfl, .inl t, PostE.ok0 h r okB⟩
    · exact h.elim
  · exact h.elim
theorem s_list (o : XOk p n N sc W X) {po : Pos} {x : Str} (hx : x = "list") (hg : glB sc x = true) (hm : p.mg x = none) (ha : PE X A (tE p n W a)) (pa : plainA A = true) : PE X (.Call (.Name x po) [A] [] pos) (tE p n W (.un .list a)) := by
  subst hx
  refine s_callTy o call_list_of (by decide +kernel) hg hm ha pa fun g c sl mm σ H d v Q r rv h => ?_
  simp only [unS] at h
  rw [o.K]
  split at h
  · rename_i xs e
    obtain ⟨q, vs, rfl, t, rl⟩ := r.rdL rv e
    exact ⟨_, _, rfl, .inl (.inl t), fun l hl => PostE.newL h r rl hl⟩
  · rename_i xs e
    obtain ⟨q, vs, rfl, t, rl⟩ := r.rdT rv e
    exact ⟨_, _, rfl, .inr t, fun l hl => PostE.newL h r rl hl⟩
  · exact h.elim
theorem pureDs_of {K : Kx} {g : Gh} {c : Cf} {sl : Sl} {mm : Mm} {σ : L2.St} {H : Hp} (r : Rep K g c sl mm σ H) {d : D} {v : V} {xs : List D} (rv : RepV K c.ad c.Z H d v) (e : rd mm d = .lst xs ∨ rd mm d = .tup xs) (hp : pureD d = true ∨ ∃ k, d = .m k) : pureDs xs = true := by
  rcases hp with hp | ⟨k, rfl⟩
  · cases d <;> simp only [rd] at e <;> first | (rcases e with e | e <;> cases e <;> simpa only [pureD] using hp) | (rcases e with e | e <;> cases e) | (simp only [pureD, Bool.false_eq_true] at hp)
  · simp only [RepV] at rv
    obtain ⟨a, ha, rfl⟩ := rv
    have hl : k < mm.length := by rw [← r.lenA]; exact (List.getElem?_eq_some_iff.mp ha).1
    have q : mm[k]? = some mm[k] := List.getElem?_eq_getElem hl
    have o := r.obj k a _ ha q
    have er : rd mm (.m k) = mm[k].val := by simp only [rd, q]
    rw [er] at e
    cases hx : mm[k] with
    | mu d =>
      rw [hx] at o e
      have := o.2.1
      rcases e with e | e <;> (simp only [M.val] at e; subst e; simpa only [pureD] using this)
    | fz d =>
      rw [hx] at o e
      have := o.2.1
      rcases e with e | e <;> (simp only [M.val] at e; subst e; simpa only [pureD] using this)
theorem s_tuple (o : XOk p n N sc W X) {po : Pos} {x : Str} (hx : x = "tuple") (hg : glB sc x = true) (hm : p.mg x = none) (ha : PE X A (tE p n W a)) (pa : plainA A = true) : PE X (.Call (.Name x po) [A] [] pos) (tE p n W (.un .tuple a)) := by
  subst hx
  refine s_callTy o call_tuple_of (by decide +kernel) hg hm ha pa fun g c sl mm σ H d v Q r rv h => ?_
  simp only [unS] at h
  rw [o.K]
  split at h
  · rename_i xs e
    obtain ⟨q, vs, rfl, t, rl⟩ := r.rdL rv e
    exact ⟨_, _, rfl, .inl ⟨.inl t, fun l hl => PostE.newT h r rl hl⟩⟩
  · rename_i xs e
    obtain ⟨q, vs, rfl, t, rl⟩ := r.rdT rv e
    refine ⟨_, _, rfl, .inr ⟨t, ?_⟩⟩
    cases d with
    | tup ys => simp only [rd] at e; cases e; exact PostE.ok0 h r rv
    | m k =>
      simp only [RepV] at rv
      obtain ⟨b, hb, eb⟩ := rv
      cases eb
      have hl : k < mm.length := by rw [← r.lenA]; exact (List.getElem?_eq_some_iff.mp hb).1
      have qk : mm[k]? = some mm[k] := List.getElem?_eq_getElem hl
      have ob := r.obj k q _ hb qk
      have er : rd mm (.m k) = mm[k].val := by simp only [rd, qk]
      rw [er] at e
      cases hx : mm[k] with
      | mu d =>
        rw [hx] at ob e
        simp only [M.val] at e; subst e
        have := ob.2.2
        simp only [RepM] at this
      | fz d =>
        rw [hx] at ob e
        simp only [M.val] at e; subst e
        exact PostE.ok0 h r ob.2.2
    | _ => simp only [rd] at e; cases e
  · exact h.elim
theorem s_minl (o : XOk p n N sc W X) {po : Pos} {x : Str} (hx : x = "min") (hg : glB sc x = true) (hm : p.mg x = none) (ha : PE X A (tE p n W a)) (pa : plainA A = true) : PE X (.Call (.Name x po) [A] [] pos) (tE p n W (.un .minl a)) := by
  subst hx
  refine s_callB o (cr_min o.calm) (by decide +kernel) hg hm ha pa fun g c sl mm σ H d v Q r rv h => ?_
  simp only [unS] at h
  split at h
  · rename_i xs e
    obtain ⟨q, vs, rfl, t, rl⟩ := r.rdL rv e
    split at h
    · rename_i m ms e2
      have ev := repL_ints rl e2
      subst ev
      refine ⟨_, m :: ms, rfl, .inl t, by simp, fun k hk hle => ?_⟩
      have e3 : k = ms.foldl min m := by
        have h1 : ∀ (l : List Int) (z : Int), l.foldl min z ≤ z ∧ ∀ y ∈ l, l.foldl min z ≤ y := by
          intro l
          induction l with
          | nil => intro z; exact ⟨Int.le_refl _, by simp⟩
          | cons y l ih =>
            intro z
            obtain ⟨q1, q2⟩ := ih (min z y)
            simp only [List.foldl_cons, List.mem_cons]
            exact ⟨by omega, fun w hw => hw.elim (fun e => by subst e; omega) fun hw => q2 w hw⟩
        have h2 : ∀ (l : List Int) (z : Int), l.foldl min z = z ∨ l.foldl min z ∈ l := by
          intro l
          induction l with
          | nil => intro z; exact .inl rfl
          | cons y l ih =>
            intro z
            simp only [List.foldl_cons, List.mem_cons]
            rcases ih (min z y) with q | q
            · rw [q]; by_cases hz : z ≤ y
              · left; omega
              · right; left; omega
            · exact .inr (.inr q)
        have a1 := h1 ms m
        have a2 := h2 ms m
        have b1 : k ≤ ms.foldl min m := by
          rcases a2 with q | q
          · rw [q]; exact hle _ (by simp)
          · exact hle _ (by simp [q])
        have b2 : ms.foldl min m ≤ k := by
          rcases List.mem_cons.mp hk with q | q
          · rw [q]; exact a1.1
          · exact a1.2 _ q
        omega
      subst e3
      exact PostE.ok0 h r okI
    · exact h.elim
  · exact h.elim
theorem s_maxl (o : XOk p n N sc W X) {po : Pos} {x : Str} (hx : x = "max") (hg : glB sc x = true) (hm : p.mg x = none) (ha : PE X A (tE p n W a)) (pa : plainA A = true) : PE X (.Call (.Name x po) [A] [] pos) (tE p n W (.un .maxl a)) := by
  subst hx
  refine s_callB o (cr_max o.calm) (by decide +kernel) hg hm ha pa fun g c sl mm σ H d v Q r rv h => ?_
  simp only [unS] at h
  split at h
  · rename_i xs e
    obtain ⟨q, vs, rfl, t, rl⟩ := r.rdL rv e
    split at h
    · rename_i m ms e2
      have ev := repL_ints rl e2
      subst ev
      refine ⟨_, m :: ms, rfl, .inl t, by simp, fun k hk hle => ?_⟩
      have e3 : k = ms.foldl max m := by
        have h1 : ∀ (l : List Int) (z : Int), z ≤ l.foldl max z ∧ ∀ y ∈ l, y ≤ l.foldl max z := by
          intro l
          induction l with
          | nil => intro z; exact ⟨Int.le_refl _, by simp⟩
          | cons y l ih =>
            intro z
            obtain ⟨q1, q2⟩ := ih (max z y)
            simp only [List.foldl_cons, List.mem_cons]
            exact ⟨by omega, fun w hw => hw.elim (fun e => by subst e; omega) fun hw => q2 w hw⟩
        have h2 : ∀ (l : List Int) (z : Int), l.foldl max z = z ∨ l.foldl max z ∈ l := by
          intro l
          induction l with
          | nil => intro z; exact .inl rfl
          | cons y l ih =>
            intro z
            simp only [List.foldl_cons, List.mem_cons]
            rcases ih (max z y) with q | q
            · rw [q]; by_cases hz : y ≤ z
              · left; omega
              · right; left; omega
            · exact .inr (.inr q)
        have a1 := h1 ms m
        have a2 := h2 ms m
        have b1 : ms.foldl max m ≤ k := by
          rcases a2 with q | q
          · rw [q]; exact hle _ (by simp)
          · exact hle _ (by simp [q])
        have b2 : k ≤ ms.foldl max m := by
          rcases List.mem_cons.mp hk with q | q
          · rw [q]; exact a1.1
          · exact a1.2 _ q
        omega
      subst e3
      exact PostE.ok0 h r okI
    · exact h.elim
  · exact h.elim
theorem s_isN {j : Nat} {p2 : Pos} (ha : PE X A (tE p n W a)) : PC X .Is A (.Constant .none j p2) (tE p n W (.un .isN a)) :=
  c_un (r := fun v H Q => Q (.bl (decide (v = .non))) H) (PCimp (pc_isN ha) fun σ H Q h => h) fun g c sl mm σ H d v Q r rv h => by
    simp only [unS] at h
    cases d <;> simp only [] at h
    · rw [repV_non rv]; exact PostE.ok0 h r okB
    · rw [repV_bl rv]; exact PostE.ok0 h r okB
    · rw [repV_int rv]; exact PostE.ok0 h r okB
    · rw [(repV_str rv).1]; exact PostE.ok0 h r okB
    · simp only [RepV] at rv; obtain ⟨q, vs, rfl, _⟩ := rv; exact PostE.ok0 h r okB
    · simp only [RepV] at rv; obtain ⟨q, vs, rfl, _⟩ := rv; exact PostE.ok0 h r okB
    · simp only [RepV] at rv; obtain ⟨q, kvs, rfl, _⟩ := rv; exact PostE.ok0 h r okB
    · simp only [RepV] at rv; obtain ⟨q, kvs, _, rfl, _⟩ := rv; exact PostE.ok0 h r okB
    · simp only [RepV] at rv; rcases rv with ⟨_, rfl⟩ | ⟨q, vs, rfl, _⟩ <;> exact PostE.ok0 h r okB
    · simp only [RepV] at rv; obtain ⟨q, vs, rfl⟩ := rv; exact PostE.ok0 h r okB
theorem s_notN {j : Nat} {p2 : Pos} (ha : PE X A (tE p n W a)) : PC X .IsNot A (.Constant .none j p2) (tE p n W (.un .notN a)) :=
  c_un (r := fun v H Q => Q (.bl (!decide (v = .non))) H) (PCimp (pc_notN ha) fun σ H Q h => h) fun g c sl mm σ H d v Q r rv h => by
    simp only [unS] at h
    cases d <;> simp only [] at h
    · rw [repV_non rv]; exact PostE.ok0 h r okB
    · rw [repV_bl rv]; exact PostE.ok0 h r okB
    · rw [repV_int rv]; exact PostE.ok0 h r okB
    · rw [(repV_str rv).1]; exact PostE.ok0 h r okB
    · simp only [RepV] at rv; obtain ⟨q, vs, rfl, _⟩ := rv; exact PostE.ok0 h r okB
    · simp only [RepV] at rv; obtain ⟨q, vs, rfl, _⟩ := rv; exact PostE.ok0 h r okB
    · simp only [RepV] at rv; obtain ⟨q, kvs, rfl, _⟩ := rv; exact PostE.ok0 h r okB
    · simp only [RepV] at rv; obtain ⟨q, kvs, _, rfl, _⟩ := rv; exact PostE.ok0 h r okB
    · simp only [RepV] at rv; rcases rv with ⟨_, rfl⟩ | ⟨q, vs, rfl, _⟩ <;> exact PostE.ok0 h r okB
    · simp only [RepV] at rv; obtain ⟨q, vs, rfl⟩ := rv; exact PostE.ok0 h r okB
theorem s_frz (ha : PE X A (tE p n W a)) : PE X A (tE p n W (.un .frz a)) :=
  s_un (r := fun v H Q => Q v H) (PEimp ha fun σ H Q h => h) fun g c sl mm σ H d v Q r rv h => by
    simp only [unS, frzS] at h
    split at h
    · rename_i k
      split at h
      · rename_i d' e
        simp only [RepV] at rv
        obtain ⟨q, hq, rfl⟩ := rv
        cases ho : isObj d' with
        | true => simp only [ho, if_true] at h; exact h.elim
        | false =>
          simp only [ho, Bool.false_eq_true, if_false] at h
          obtain ⟨l, r', hv⟩ := r.freeze hq e ho
          exact h _ _ H l r' hv
      · rename_i d' e
        simp only [RepV] at rv
        obtain ⟨q, hq, rfl⟩ := rv
        exact PostE.ok0 h r (r.obj k q _ hq e).2.2
      · exact h.elim
    · exact PostE.ok0 h r rv
end
end Mp
/-! Mp5: the operators, further. -/
namespace Mp
open PySem PySem.Spec
open PyProof.Rows L2
section
variable {p : Pg} {n : Nat} {N : List Str} {sc : Scope} {W : WX} {X : Cx} {A B : Expr} {a b : E} {pos : Pos}
theorem okS {K : Kx} {ad : List Addr} {Z : Addr → Prop} {H : Hp} {s : Tx} (h : okT s = true) : RepV K ad Z H (.str s) (.str (toS s)) := by
  unfold RepV; exact ⟨rfl, h⟩
/-! ### + and * -/
theorem op_plus : OpR X (binaryOp .Add) (fun x y H Q => ((∃ i j, x = .int i ∧ y = .int j ∧ Q (.int (i + j)) H) ∨ (∃ i j, x = .str i ∧ y = .str j ∧ i.length + j.length ≤ sizeLine ∧ Q (.str (i ++ j)) H)) ∨ (rCatA X.K x y H Q ∨ rCatL x y H Q)) :=
  (op_add.or op_add_str).or (op_catA.or op_catL)
theorem toS_app (x y : Tx) : toS x ++ toS y = toS (x ++ y) := by
  show Str.append (toS x) (toS y) = toS (x ++ y)
  unfold Str.append toS
  simp
theorem okT_app {x y : Tx} (h1 : okT x = true) (h2 : okT y = true) : okT (x ++ y) = true := by
  unfold okT at *
  rw [List.all_append, h1, h2]; rfl
theorem s_add (o : XOk p n N sc W X) (ha : PE X A (tE p n W a)) (hb : PE X B (tE p n W b)) : PE X (.BinOp A .Add B pos) (tE p n W (.bin .add a b)) :=
  s_bin (pe_op op_plus ha hb) fun g c sl mm σ H d f v u Q r rv ru h => by
    simp only [binS, addS] at h
    split at h
    · rename_i i e
      have e1 := r.rdI rv e; subst e1
      split at h
      · rename_i j e2
        have e3 := r.rdI ru e2; subst e3
        rw [repV_int rv, repV_int ru]
        exact .inl (.inl ⟨i, j, rfl, rfl, PostE.ok0 h r okI⟩)
      · exact h.elim
    · rename_i x e
      have e1 := r.rdS rv e; subst e1
      split at h
      · rename_i y e2
        have e3 := r.rdS ru e2; subst e3
        split at h
        · rename_i hz
          obtain ⟨rfl, t1⟩ := repV_str rv
          obtain ⟨rfl, t2⟩ := repV_str ru
          refine .inl (.inr ⟨_, _, rfl, rfl, by rw [sz_eq]; simpa [toS, Str.length] using hz, ?_⟩)
          rw [toS_app]
          exact PostE.ok0 h r (okS (okT_app t1 t2))
        · exact h.elim
      · exact h.elim
    · rename_i x e
      obtain ⟨q, vs, rfl, t, rl⟩ := r.rdT rv e
      split at h
      · rename_i y e2
        obtain ⟨q2, ws, rfl, t2, rl2⟩ := r.rdT ru e2
        split at h
        · rename_i hz
          refine .inr (.inl ⟨q, q2, vs, ws, rfl, rfl, by rw [o.K]; exact t, by rw [o.K]; exact t2, by rw [rl.len, rl2.len]; exact hz, fun ev => ?_, fun ev ew => ?_, fun ev ew w hw => PostE.newT h r (rl.app rl2) hw⟩)
          · have ex : x = [] := List.eq_nil_of_length_eq_zero (by rw [← rl.len, ev]; rfl)
            subst ex
            rw [List.nil_append] at h
            obtain ⟨c', l', r', hv⟩ : ∃ c', c.Le H c' H ∧ Rep p.K g c' sl mm σ H ∧ RepV p.K c'.ad c'.Z H (.tup y) (.ref q2) := by
              refine ⟨c, .refl, r, ?_⟩
              cases f with
              | tup ys => simp only [rd] at e2; cases e2; exact ru
              | m k =>
                simp only [RepV] at ru
                obtain ⟨w, hw, ew⟩ := ru
                cases ew
                have hl : k < mm.length := by rw [← r.lenA]; exact (List.getElem?_eq_some_iff.mp hw).1
                have qk : mm[k]? = some mm[k] := List.getElem?_eq_getElem hl
                have ob := r.obj k _ _ hw qk
                have er : rd mm (.m k) = mm[k].val := by simp only [rd, qk]
                rw [er] at e2
                cases hx : mm[k] with
                | mu d =>
                  rw [hx] at ob e2
                  simp only [M.val] at e2; subst e2
                  have := ob.2.2
                  simp only [RepM] at this
                | fz d =>
                  rw [hx] at ob e2
                  simp only [M.val] at e2; subst e2
                  exact ob.2.2
              | _ => simp only [rd] at e2; cases e2
            exact h c' _ H l' r' hv
          · have ey : y = [] := List.eq_nil_of_length_eq_zero (by rw [← rl2.len, ew]; rfl)
            subst ey
            rw [List.append_nil] at h
            obtain ⟨c', l', r', hv⟩ : ∃ c', c.Le H c' H ∧ Rep p.K g c' sl mm σ H ∧ RepV p.K c'.ad c'.Z H (.tup x) (.ref q) := by
              refine ⟨c, .refl, r, ?_⟩
              cases d with
              | tup ys => simp only [rd] at e; cases e; exact rv
              | m k =>
                simp only [RepV] at rv
                obtain ⟨w, hw, ew'⟩ := rv
                cases ew'
                have hl : k < mm.length := by rw [← r.lenA]; exact (List.getElem?_eq_some_iff.mp hw).1
                have qk : mm[k]? = some mm[k] := List.getElem?_eq_getElem hl
                have ob := r.obj k _ _ hw qk
                have er : rd mm (.m k) = mm[k].val := by simp only [rd, qk]
                rw [er] at e
                cases hx : mm[k] with
                | mu d =>
                  rw [hx] at ob e
                  simp only [M.val] at e; subst e
                  have := ob.2.2
                  simp only [RepM] at this
                | fz d =>
                  rw [hx] at ob e
                  simp only [M.val] at e; subst e
                  exact ob.2.2
              | _ => simp only [rd] at e; cases e
            exact h c' _ H l' r' hv
        · exact h.elim
      · exact h.elim
    · rename_i x e
      obtain ⟨q, vs, rfl, t, rl⟩ := r.rdL rv e
      split at h
      · rename_i y e2
        obtain ⟨q2, ws, rfl, t2, rl2⟩ := r.rdL ru e2
        split at h
        · rename_i hz
          exact .inr (.inr ⟨q, q2, vs, ws, rfl, rfl, t, t2, by rw [rl.len, rl2.len]; exact hz, fun w hw => PostE.newL h r (rl.app rl2) hw⟩)
        · exact h.elim
      · exact h.elim
    · exact h.elim
theorem s_mul (o : XOk p n N sc W X) (ha : PE X A (tE p n W a)) (hb : PE X B (tE p n W b)) : PE X (.BinOp A .Mult B pos) (tE p n W (.bin .mul a b)) :=
  s_bin (pe_op (op_mul.or op_repT) ha hb) fun g c sl mm σ H d f v u Q r rv ru h => by
    simp only [binS] at h
    split at h
    · rename_i i e
      have e1 := r.rdI rv e; subst e1
      cases f <;> simp only [] at h <;> try exact h.elim
      rename_i j
      cases q : (small64 i || small64 j) with
      | false => simp only [q] at h; exact h.elim
      | true =>
        simp only [q, if_true] at h
        rw [repV_int rv, repV_int ru]
        refine .inl ⟨i, j, rfl, rfl, ?_, PostE.ok0 h r okI⟩
        rw [Bool.or_eq_true] at q
        simp only [small64, Bool.and_eq_true, decide_eq_true_eq] at q
        unfold CMul
        omega
    · rename_i xs e
      obtain ⟨q, vs, rfl, t, rl⟩ := r.rdT rv e
      cases f <;> simp only [] at h <;> try exact h.elim
      rename_i j
      cases qq : (decide (2 ≤ j) && decide (j ≤ 1000) && decide (0 < xs.length) && decide (xs.length ≤ 1000)) with
      | false => simp only [qq] at h; exact h.elim
      | true =>
        simp only [qq, if_true] at h
        simp only [Bool.and_eq_true, decide_eq_true_eq] at qq
        rw [repV_int ru]
        refine .inr ⟨q, j, vs, rfl, rfl, by rw [o.K]; exact t, fun z => ?_, qq.1.1.1, qq.1.1.2, by rw [rl.len]; exact qq.2, fun w hw => PostE.newT h r (rl.rep _) hw⟩
        have := rl.len
        rw [z] at this
        simp only [List.length_nil] at this
        omega
    · exact h.elim
/-! ### in -/
/-! ### dicts by keys -/
theorem isSome_key {b : D} (hb : isKT b = true) {ks : List D} {kvs : List (L2.Key × V)} (hk : ks.all isKT = true) (h : kvs.map (·.1) = ks.map keyT) : (valV kvs (keyT b)).isSome = memD b ks := by
  rw [valV_key hb hk h, ← idxOfD_mem]
  cases q : idxOfD b ks with
  | none => rfl
  | some j =>
    have h1 := idxOfD_lt q
    have h2 : (kvs.map (·.2)).length = ks.length := by
      have := congrArg List.length h
      simpa using this
    show ((kvs.map (·.2))[j]?).isSome = true
    rw [List.getElem?_eq_getElem (by omega)]; rfl
theorem room_u1 {n : Nat} {A : Around} (h : Room n A) : A.units + 1 < cLine := by
  have := h.un
  omega
theorem room_u9 {n : Nat} {A : Around} (h : Room n A) : A.units + 9 < cLine := by
  have := h.un
  omega
/-- what a dict gives, of either kind -/
theorem dg_k {X : Cx} {H : Hp} {a : Addr} {kvs : List (L2.Key × V)} {ks : List D} {d : D} {u : V} {ad : List Addr} {Z : Addr → Prop} {K : Kx} (t : Rd H a (.dK kvs)) (ru : RepV K ad Z H d u) (z : isKT d = true) : DG X H a u (valV kvs (keyT d)) :=
  .inl (.inl ⟨kvs, keyT d, t, repV_key ru z, rfl⟩)
theorem dg_n (o : XOk p n N sc W X) {H : Hp} {a : Addr} {ob : Obj} {kvs : Nkv} {ks : List D} {d : D} {u : V} {ad : List Addr} {Z : Addr → Prop} (t : Rd H a (p.K.dn a ob kvs)) (e : kvs.map (·.1) = ks.map nkT) (hk : ks.all isKD = true) (r : RepL p.K ad Z H ks (kvs.map fun q => V.ref q.2.1))
    (ru : RepV p.K ad Z H d u) (z : isKD d = true) : DG X H a u (atN kvs (nkT d)) := by
  obtain ⟨b, rfl⟩ := repV_kd z ru
  refine .inr ⟨ob, kvs, nkT d, b, ⟨by rw [← o.dn]; exact t, ?_⟩, rfl, ?_, rfl⟩
  · rw [o.K]; exact keysA hk e r
  · rw [o.K]; exact keyA_of z ru
theorem s_mem (o : XOk p n N sc W X) (ha : PE X A (tE p n W a)) (hb : PE X B (tE p n W b)) : PC X .In A B (tE p n W (.bin .mem a b)) :=
  c_bin (pc_of (((op_inD (room_u65 o.room)).or (op_inT (room_u65 o.room))).or (op_inG (room_u9 o.room))) ha hb) fun g c sl mm σ H d f v u Q r rv ru h => by
    simp only [binS, memS] at h
    rw [o.K]
    split at h
    · rename_i xs e
      cases q : (okEq d && okEq (.lst xs)) with
      | false => simp only [q] at h; exact h.elim
      | true =>
        simp only [q, if_true, Bool.false_eq_true, if_false] at h
        rw [Bool.and_eq_true] at q
        obtain ⟨dp, sh⟩ := r.rdDp ru (by rw [e]; exact q.2)
        rw [e] at dp sh
        have e1 := okEq_lt q.2
        simp only [hgt] at e1
        refine .inl (.inl ⟨toPy d, toPys xs, rv.dpE q.1, dp, rv.shaped q.1, sh, ?_⟩)
        rw [mem_toPys (okEq_lt q.1) xs (by omega)]
        exact PostE.ok0 h r okB
    · rename_i xs e
      cases q : (okEq d && okEq (.tup xs)) with
      | false => simp only [q] at h; exact h.elim
      | true =>
        simp only [q, if_true, Bool.false_eq_true, if_false] at h
        rw [Bool.and_eq_true] at q
        obtain ⟨dp, sh⟩ := r.rdDp ru (by rw [e]; exact q.2)
        rw [e] at dp sh
        have e1 := okEq_lt q.2
        simp only [hgt] at e1
        refine .inl (.inr ⟨toPy d, toPys xs, rv.dpE q.1, dp, rv.shaped q.1, sh, ?_⟩)
        rw [mem_toPys (okEq_lt q.1) xs (by omega)]
        exact PostE.ok0 h r okB
    · rename_i ks vs e
      obtain ⟨q, kvs, rfl, t, hk, rl, _, _⟩ := r.rdD ru e
      cases z : (isKT d && ks.all isKT) with
      | false => simp only [z] at h; exact h.elim
      | true =>
        simp only [z, if_true, Bool.false_eq_true, if_false] at h
        rw [Bool.and_eq_true] at z
        refine .inr ⟨q, valV kvs (keyT d), rfl, dg_k (ks := ks) t rv z.1, ?_⟩
        rw [isSome_key z.1 z.2 hk]
        exact PostE.ok0 h r okB
    · rename_i ks vs e
      obtain ⟨q, ob, kvs, rfl, t, hk, hd, r1, rl⟩ := r.rdU ru e
      cases z : (isKD d && ks.all isKD) with
      | false => simp only [z] at h; exact h.elim
      | true =>
        simp only [z, if_true, Bool.false_eq_true, if_false] at h
        rw [Bool.and_eq_true] at z
        refine .inr ⟨q, atN kvs (nkT d), rfl, dg_n o t hk hd r1 rv z.1, ?_⟩
        rw [isSome_nk z.1 z.2 hk]
        exact PostE.ok0 h r okB
    · exact h.elim
theorem s_nmem (o : XOk p n N sc W X) (ha : PE X A (tE p n W a)) (hb : PE X B (tE p n W b)) : PC X .NotIn A B (tE p n W (.bin .nmem a b)) :=
  c_bin (pc_of (((op_notInD (room_u65 o.room)).or (op_ninT (room_u65 o.room))).or (op_ninG (room_u9 o.room))) ha hb) fun g c sl mm σ H d f v u Q r rv ru h => by
    simp only [binS, memS] at h
    rw [o.K]
    split at h
    · rename_i xs e
      cases q : (okEq d && okEq (.lst xs)) with
      | false => simp only [q] at h; exact h.elim
      | true =>
        simp only [q, if_true] at h
        rw [Bool.and_eq_true] at q
        obtain ⟨dp, sh⟩ := r.rdDp ru (by rw [e]; exact q.2)
        rw [e] at dp sh
        have e1 := okEq_lt q.2
        simp only [hgt] at e1
        refine .inl (.inl ⟨toPy d, toPys xs, rv.dpE q.1, dp, rv.shaped q.1, sh, ?_⟩)
        rw [mem_toPys (okEq_lt q.1) xs (by omega)]
        exact PostE.ok0 h r okB
    · rename_i xs e
      cases q : (okEq d && okEq (.tup xs)) with
      | false => simp only [q] at h; exact h.elim
      | true =>
        simp only [q, if_true] at h
        rw [Bool.and_eq_true] at q
        obtain ⟨dp, sh⟩ := r.rdDp ru (by rw [e]; exact q.2)
        rw [e] at dp sh
        have e1 := okEq_lt q.2
        simp only [hgt] at e1
        refine .inl (.inr ⟨toPy d, toPys xs, rv.dpE q.1, dp, rv.shaped q.1, sh, ?_⟩)
        simp only [if_true]
        rw [mem_toPys (okEq_lt q.1) xs (by omega)]
        exact PostE.ok0 h r okB
    · rename_i ks vs e
      obtain ⟨q, kvs, rfl, t, hk, rl, _, _⟩ := r.rdD ru e
      cases z : (isKT d && ks.all isKT) with
      | false => simp only [z] at h; exact h.elim
      | true =>
        simp only [z, if_true] at h
        rw [Bool.and_eq_true] at z
        refine .inr ⟨q, valV kvs (keyT d), rfl, dg_k (ks := ks) t rv z.1, ?_⟩
        rw [isSome_key z.1 z.2 hk]
        exact PostE.ok0 h r okB
    · rename_i ks vs e
      obtain ⟨q, ob, kvs, rfl, t, hk, hd, r1, rl⟩ := r.rdU ru e
      cases z : (isKD d && ks.all isKD) with
      | false => simp only [z] at h; exact h.elim
      | true =>
        simp only [z, if_true] at h
        rw [Bool.and_eq_true] at z
        refine .inr ⟨q, atN kvs (nkT d), rfl, dg_n o t hk hd r1 rv z.1, ?_⟩
        rw [isSome_nk z.1 z.2 hk]
        exact PostE.ok0 h r okB
    · exact h.elim
/-! ### places -/
theorem s_idx (o : XOk p n N sc W X) (ha : PE X A (tE p n W a)) (hb : PE X B (tE p n W b)) (pb : plainA B = true) : PE X (.Subscript A B pos) (tE p n W (.bin .idx a b)) :=
  s_bin (pe_ix ((ix_list.or ix_tup).or (ix_dictG (room_u9 o.room))) ha hb (ix_plain pb)) fun g c sl mm σ H d f v u Q r rv ru h => by
    simp only [binS, idxS] at h
    rw [o.K]
    split at h
    · rename_i xs e
      obtain ⟨q, vs, rfl, t, rl⟩ := r.rdL rv e
      cases f <;> simp only [] at h <;> try exact h.elim
      rename_i i
      split at h
      · rename_i x e2
        obtain ⟨w, hw, rw'⟩ := rl.at e2
        rw [repV_int ru]
        exact .inl (.inl ⟨q, vs, i, w, rfl, rfl, .inl t, hw, PostE.ok0 h r rw'⟩)
      · exact h.elim
    · rename_i xs e
      obtain ⟨q, vs, rfl, t, rl⟩ := r.rdT rv e
      cases f <;> simp only [] at h <;> try exact h.elim
      rename_i i
      split at h
      · rename_i x e2
        obtain ⟨w, hw, rw'⟩ := rl.at e2
        rw [repV_int ru]
        exact .inl (.inr ⟨q, vs, i, w, rfl, rfl, t, hw, PostE.ok0 h r rw'⟩)
      · exact h.elim
    · rename_i ks vs e
      obtain ⟨q, kvs, rfl, t, hk, rl, _, _⟩ := r.rdD rv e
      cases z : (isKT f && ks.all isKT) with
      | false => simp only [z] at h; exact h.elim
      | true =>
        simp only [z, if_true] at h
        rw [Bool.and_eq_true] at z
        split at h
        · rename_i j ej
          split at h
          · rename_i x ex
            obtain ⟨w, hw, rw'⟩ := rl.get ex
            refine .inr ⟨q, w, rfl, ?_, PostE.ok0 h r rw'⟩
            have g := dg_k (X := X) (ks := ks) t ru z.1
            rw [valV_key z.1 z.2 hk, ej] at g
            have g : DG X H q u ((kvs.map (·.2))[j]?) := g
            rw [hw] at g
            exact g
          · exact h.elim
        · exact h.elim
    · rename_i ks vs e
      obtain ⟨q, ob, kvs, rfl, t, hk, hd, r1, rl⟩ := r.rdU rv e
      cases z : (isKD f && ks.all isKD) with
      | false => simp only [z] at h; exact h.elim
      | true =>
        simp only [z, if_true] at h
        rw [Bool.and_eq_true] at z
        split at h
        · rename_i j ej
          split at h
          · rename_i x ex
            obtain ⟨w, hw, rw'⟩ := rl.get ex
            refine .inr ⟨q, w, rfl, ?_, PostE.ok0 h r rw'⟩
            have g := dg_n o t hk hd r1 ru z.1
            rw [atN_key z.1 z.2 hk, ej] at g
            have g : DG X H q u ((kvs.map (·.2.2))[j]?) := g
            rw [hw] at g
            exact g
          · exact h.elim
        · exact h.elim
    · exact h.elim
/-! ### methods of lists -/
theorem few_one (pa : plainA B = true) (env : Env) (pos : Pos) : ((backTo pos (starEach [B] env)).all (fun x => !x.1) && (backToKw pos (keywordEach [] env)).all (fun x => x.1.isSome)
      && decide (([B] : List Expr).length + ([] : List Keyword).length + (if ([] : List Keyword).isEmpty then 0 else 1) < 30)) = true := by
  rw [star_plain pa]; rfl
/-- a list's or a text's method of one argument -/
theorem s_mth {o2 : B2} {T : String} {name : Str} {id : String} {rr : V → List V → Hp → VK → Prop} (pt : PlainAttrs T) (slot : Slot T name id) (hty : typeOf (.builtin id) = pure (.type "method_descriptor")) (hm : MtR X id rr)
    {apos : Pos} (hl : (apos.endLine == pos.line) = true) (ha : PE X A (tE p n W a)) (hb : PE X B (tE p n W b)) (pa : plainA A = true) (na : notSuper A = true) (pb : plainA B = true)
    (recv : ∀ g c sl mm σ H d v, Rep p.K g c sl mm σ H → RepV p.K c.ad c.Z H d v → recvOk o2 d mm = true → tyV X.K T v H)
    (hr : ∀ g c sl mm σ H d f v u Q, Rep p.K g c sl mm σ H → RepV p.K c.ad c.Z H d v → RepV p.K c.ad c.Z H f u → PostE p g c sl σ H W Q (binS o2 d f mm) → rr v [u] H Q) :
    PE X (.Call (.Attribute A name apos) [B] [] pos) (tE p n W (.mth o2 a b)) := by
  refine PEimp (pe_bm pt slot hty hm ha (pa_cons hb pa_nil (star_plain pb _ _)) (base_plain pa na _ _) (few_one pb _ _) hl (star_plain pb _ _) (star_none (by simp) _ _)) fun σ H Q ⟨g, c, sl, mm, r, h⟩ => ?_
  simp only [semE] at h
  refine ⟨g, c, sl, mm, r, PostE.bind h fun c1 d mm1 v H1 l1 r1 rv h1 => ?_⟩
  cases e : recvOk o2 d mm1 with
  | false => simp only [e] at h1; exact h1.elim
  | true =>
    simp only [e, if_true] at h1
    refine ⟨recv g c1 sl mm1 σ H1 d v r1 rv e, g, c1, sl, mm1, r1, PostE.bind h1 fun c2 f mm2 u H2 l2 r2 ru h2 => ?_⟩
    exact hr g c2 sl mm2 σ H2 d f v u Q r2 (RepV.le l2 _ _ rv) ru h2
theorem recv_lst {K : Kx} {g : Gh} {c : Cf} {sl : Sl} {mm : Mm} {σ : L2.St} {H : Hp} {d : D} {v : V} (r : Rep K g c sl mm σ H) (rv : RepV K c.ad c.Z H d v) (h : (match rd mm d with | .lst _ => true | _ => false) = true) : tyV K "list" v H := by
  cases e : rd mm d <;> rw [e] at h <;> try (cases h)
  obtain ⟨q, vs, rfl, t, _⟩ := r.rdL rv e
  exact .inl ⟨rfl, vs, .inl t⟩
def isS : D → Bool
  | .str _ => true
  | _ => false
theorem recv_str {K : Kx} {ad : List Addr} {Z : Addr → Prop} {H : Hp} {d : D} {v : V} (rv : RepV K ad Z H d v) (h : isS d = true) : tyV K "str" v H := by
  cases d <;> try (cases h)
  rw [(repV_str rv).1]; rfl
/-- an object of the activation that may change -/
theorem Rep.own_at {K : Kx} {g : Gh} {c : Cf} {sl : Sl} {mm : Mm} {σ : L2.St} {H : Hp} {k : Nat} {v : V} {xs : List D} (r : Rep K g c sl mm σ H) (rv : RepV K c.ad c.Z H (.m k) v) (e : mm[k]? = some (.mu (.lst xs))) :
    ∃ q vs, c.ad[k]? = some q ∧ v = .ref q ∧ H q = some (.lst vs) ∧ RepL K c.ad c.Z H xs vs ∧ pureDs xs = true := by
  simp only [RepV] at rv
  obtain ⟨q, hq, rfl⟩ := rv
  have o := r.obj k q _ hq e
  obtain ⟨vs, h1, h2⟩ := o.2.2
  exact ⟨q, vs, hq, rfl, h1, h2, by simpa [pureD] using o.2.1⟩
theorem pureDs_app : ∀ {xs ys : List D}, pureDs xs = true → pureDs ys = true → pureDs (xs ++ ys) = true
  | [], _, _, h => h
  | x :: xs, ys, h, h2 => by
    simp only [List.cons_append, pureDs, Bool.and_eq_true] at h ⊢
    exact ⟨h.1, pureDs_app h.2 h2⟩
theorem pureDs_one {x : D} (h : pureD x = true) : pureDs [x] = true := by simp [pureDs, h]
theorem s_app (o : XOk p n N sc W X) {apos : Pos} (hl : (apos.endLine == pos.line) = true) (ha : PE X A (tE p n W a)) (hb : PE X B (tE p n W b)) (pa : plainA A = true) (na : notSuper A = true) (pb : plainA B = true) :
    PE X (.Call (.Attribute A "append" apos) [B] [] pos) (tE p n W (.mth .app a b)) :=
  s_mth PySem.F.plainAttrs_list PySem.F.slot_list_append PySem.F.type_list_append mt_append hl ha hb pa na pb (fun g c sl mm σ H d v r rv h => by rw [o.K]; exact recv_lst r rv h) fun g c sl mm σ H d f v u Q r rv ru h => by
    simp only [binS] at h
    split at h
    · rename_i k
      split at h
      · rename_i xs e
        obtain ⟨q, vs, hq, rfl, hH, rl, pl⟩ := r.own_at rv e
        cases z : (pureD f && decide (xs.length < szl)) with
        | false => simp only [z] at h; exact h.elim
        | true =>
          simp only [z, if_true] at h
          rw [Bool.and_eq_true] at z
          refine ⟨q, vs, u, rfl, rfl, hH, by rw [rl.len]; exact of_decide_eq_true z.2, ?_⟩
          obtain ⟨l2, r2⟩ := r.write (vs := vs ++ [u]) (ds := xs ++ [f]) hq e (pureDs_app pl (pureDs_one z.1)) (rl.app (RepL.one ru))
          exact h c _ _ l2 r2 okN
      · exact h.elim
    · exact h.elim
theorem pureDs_erase : ∀ {xs : List D} (i : Nat), pureDs xs = true → pureDs (xs.eraseIdx i) = true
  | [], _, h => h
  | x :: xs, 0, h => by simp only [pureDs, Bool.and_eq_true] at h; exact h.2
  | x :: xs, i + 1, h => by
    simp only [pureDs, Bool.and_eq_true, List.eraseIdx_cons_succ] at h ⊢
    exact ⟨h.1, pureDs_erase i h.2⟩
theorem pureDs_take : ∀ {xs : List D} (i : Nat), pureDs xs = true → pureDs (xs.take i) = true
  | _, 0, _ => by simp [pureDs]
  | [], _ + 1, h => h
  | x :: xs, i + 1, h => by
    simp only [pureDs, Bool.and_eq_true, List.take_succ_cons] at h ⊢
    exact ⟨h.1, pureDs_take i h.2⟩
theorem pureDs_get : ∀ {xs : List D} {i : Nat} {x : D}, pureDs xs = true → xs[i]? = some x → pureD x = true
  | [], _, _, _, e => by simp at e
  | y :: ys, 0, x, h, e => by
    simp only [pureDs, Bool.and_eq_true] at h
    simp at e; subst e; exact h.1
  | y :: ys, i + 1, x, h, e => by
    simp only [pureDs, Bool.and_eq_true] at h
    exact pureDs_get h.2 (by simpa using e)
theorem pureDs_set : ∀ {xs : List D} (i : Nat) {x : D}, pureDs xs = true → pureD x = true → pureDs (xs.set i x) = true
  | [], _, _, h, _ => h
  | y :: ys, 0, x, h, e => by
    simp only [pureDs, Bool.and_eq_true, List.set_cons_zero] at h ⊢
    exact ⟨e, h.2⟩
  | y :: ys, i + 1, x, h, e => by
    simp only [pureDs, Bool.and_eq_true, List.set_cons_succ] at h ⊢
    exact ⟨h.1, pureDs_set i h.2 e⟩
theorem repL_sz {pins : List (Addr × Obj)} {σ : L2.St} {H : Hp} : True := trivial
theorem s_popat (o : XOk p n N sc W X) {apos : Pos} (hl : (apos.endLine == pos.line) = true) (ha : PE X A (tE p n W a)) (hb : PE X B (tE p n W b)) (pa : plainA A = true) (na : notSuper A = true) (pb : plainA B = true) :
    PE X (.Call (.Attribute A "pop" apos) [B] [] pos) (tE p n W (.mth .popat a b)) :=
  s_mth PySem.F.plainAttrs_list PySem.F.slot_list_pop PySem.F.type_list_pop mt_popAt hl ha hb pa na pb (fun g c sl mm σ H d v r rv h => by rw [o.K]; exact recv_lst r rv h) fun g c sl mm σ H d f v u Q r rv ru h => by
    simp only [binS] at h
    split at h
    · rename_i k
      split at h
      · rename_i xs e
        obtain ⟨q, vs, hq, rfl, hH, rl, pl⟩ := r.own_at rv e
        cases f <;> simp only [] at h <;> try exact h.elim
        rename_i i
        cases z : (decide (-1000000 ≤ i) && decide (i ≤ 1000000)) with
        | false => simp only [z] at h; exact h.elim
        | true =>
          simp only [z, if_true] at h
          simp only [Bool.and_eq_true, decide_eq_true_eq] at z
          split at h
          · rename_i j e2
            split at h
            · rename_i x e3
              obtain ⟨w, hw, rw'⟩ := rl.get e3
              rw [repV_int ru]
              have hs := ixN_seq e2
              refine ⟨q, vs, i, j, w, rfl, rfl, hH, by omega, by omega, by rw [rl.len]; exact hs.1, hw, ?_⟩
              obtain ⟨l2, r2⟩ := r.write (vs := vs.eraseIdx j) (ds := xs.eraseIdx j) hq e (pureDs_erase j pl) (rl.eraseIdx j)
              exact h c _ _ l2 r2 (RepV.le l2 _ _ rw')
            · exact h.elim
          · exact h.elim
      · exact h.elim
    · exact h.elim
theorem s_pop (o : XOk p n N sc W X) {apos : Pos} (hl : (apos.endLine == pos.line) = true) (ha : PE X A (tE p n W a)) (pa : plainA A = true) (na : notSuper A = true) :
    PE X (.Call (.Attribute A "pop" apos) [] [] pos) (tE p n W (.un .pop a)) :=
  s_un (r := fun v H Q => tyV X.K "list" v H ∧ rPop v [] H Q) (PEimp (pe_bm0 PySem.F.plainAttrs_list PySem.F.slot_list_pop PySem.F.type_list_pop mt_pop ha (base_plain pa na _ _) hl) fun σ H Q h => h) fun g c sl mm σ H d v Q r rv h => by
    simp only [unS] at h
    split at h
    · rename_i k
      split at h
      · rename_i xs e
        obtain ⟨q, vs, hq, rfl, hH, rl, pl⟩ := r.own_at rv e
        refine ⟨.inl ⟨rfl, vs, .inl (.inl hH)⟩, ?_⟩
        split at h
        · rename_i x e2
          rw [List.getLast?_eq_getElem?] at e2
          obtain ⟨w, hw, rw'⟩ := rl.get e2
          refine ⟨q, vs, w, rfl, rfl, hH, by rw [rl.len]; exact hw, ?_⟩
          obtain ⟨l2, r2⟩ := r.write (vs := vs.dropLast) (ds := xs.dropLast) hq e (by rw [List.dropLast_eq_take]; exact pureDs_take _ pl) rl.dropLast
          exact h c _ _ l2 r2 (RepV.le l2 _ _ rw')
        · exact h.elim
      · exact h.elim
    · exact h.elim
theorem idxOfD_spec {x : D} (hx : hgt x < 100) : ∀ {xs : List D} {j : Nat}, hgts xs < 100 → idxOfD x xs = some j → ∃ z, (toPys xs)[j]? = some z ∧ PyData.eqv z (toPy x) = true ∧ ∀ (m : Nat) (z' : PyData), m < j → (toPys xs)[m]? = some z' → PyData.eqv z' (toPy x) = false
  | [], _, _, e => by simp [idxOfD] at e
  | y :: ys, j, h, e => by
    simp only [hgts] at h
    simp only [idxOfD] at e
    cases q : eqD y x with
    | true =>
      simp only [q, if_true, Option.some.injEq] at e
      subst e
      exact ⟨toPy y, rfl, by rw [eqv_toPy y x (by omega) hx]; exact q, fun m z' hm => by omega⟩
    | false =>
      simp only [q, Bool.false_eq_true, if_false] at e
      cases q2 : idxOfD x ys with
      | none => rw [q2] at e; simp at e
      | some i =>
        rw [q2] at e
        simp only [Option.map_some, Option.some.injEq] at e
        subst e
        obtain ⟨z, h1, h2, h3⟩ := idxOfD_spec hx (by omega) q2
        refine ⟨z, h1, h2, fun m z' hm e' => ?_⟩
        cases m with
        | zero =>
          have ez : z' = toPy y := by simpa [toPys] using e'.symm
          rw [ez, eqv_toPy y x (by omega) hx]; exact q
        | succ m => exact h3 m z' (by omega) (by simpa [toPys] using e')
theorem s_index (o : XOk p n N sc W X) {apos : Pos} (hl : (apos.endLine == pos.line) = true) (ha : PE X A (tE p n W a)) (hb : PE X B (tE p n W b)) (pa : plainA A = true) (na : notSuper A = true) (pb : plainA B = true) :
    PE X (.Call (.Attribute A "index" apos) [B] [] pos) (tE p n W (.mth .index a b)) :=
  s_mth PySem.F.plainAttrs_list PySem.F.slot_list_index PySem.F.type_list_index (mt_indexD (room_u65 o.room)) hl ha hb pa na pb (fun g c sl mm σ H d v r rv h => by rw [o.K]; exact recv_lst r rv h) fun g c sl mm σ H d f v u Q r rv ru h => by
    simp only [binS] at h
    rw [o.K]
    split at h
    · rename_i xs e
      cases z : (okEq f && okEq (.lst xs)) with
      | false => simp only [z] at h; exact h.elim
      | true =>
        simp only [z, if_true] at h
        rw [Bool.and_eq_true] at z
        split at h
        · rename_i j e2
          obtain ⟨dp, sh⟩ := r.rdDp rv (by rw [e]; exact z.2)
          rw [e] at dp sh
          have e1 := okEq_lt z.2
          simp only [hgt] at e1
          obtain ⟨zz, h1, h2, h3⟩ := idxOfD_spec (okEq_lt z.1) (by omega) e2
          obtain ⟨q, vs, rfl, t, rl⟩ := r.rdL rv e
          exact ⟨q, u, toPy f, toPys xs, j, zz, rfl, rfl, dp, ru.dpE z.1, sh, ru.shaped z.1, h1, h2, h3, PostE.ok0 h r okI⟩
        · exact h.elim
    · exact h.elim
/-! ### methods of texts -/
theorem toS_list (z : Str) : toS z.cps.toList = z := by cases z; simp [toS]
theorem toS_len (s : Tx) : (toS s).length = s.length := by simp [toS, Str.length]
theorem repL_new {K : Kx} {ad : List Addr} {Z : Addr → Prop} {H : Hp} : ∀ {ts : List Tx}, ts.all okT = true → RepL K ad Z H (ts.map .str) ((ts.map toS).map V.str)
  | [], _ => RepL.nil
  | t :: ts, h => by
    rw [List.all_cons, Bool.and_eq_true] at h
    exact RepL.cons (okS h.1) (repL_new h.2)
theorem s_split (o : XOk p n N sc W X) {apos : Pos} (hl : (apos.endLine == pos.line) = true) (ha : PE X A (tE p n W a)) (hb : PE X B (tE p n W b)) (pa : plainA A = true) (na : notSuper A = true) (pb : plainA B = true) :
    PE X (.Call (.Attribute A "split" apos) [B] [] pos) (tE p n W (.mth .split a b)) :=
  s_mth PySem.F.plainAttrs_str PySem.F.slot_str_split PySem.F.type_str_split mt_split hl ha hb pa na pb (fun g c sl mm σ H d v r rv h => by rw [o.K]; exact recv_str rv (by cases d <;> first | rfl | exact h)) fun g c sl mm σ H d f v u Q r rv ru h => by
    simp only [binS] at h
    split at h
    · rename_i x y
      cases z : (decide (y ≠ []) && decide (x.length + 2 ≤ szl) && (splitT x y).all okT) with
      | false => simp only [z] at h; exact h.elim
      | true =>
        simp only [z, if_true] at h
        simp only [Bool.and_eq_true, decide_eq_true_eq] at z
        obtain ⟨rfl, _⟩ := repV_str rv
        obtain ⟨rfl, _⟩ := repV_str ru
        have hy : y ≠ [] := z.1.1
        refine ⟨_, _, rfl, rfl, ?_, by rw [toS_len, sz_eq]; exact z.1.2, fun w hw => ?_⟩
        · rw [toS_len]; cases y with
          | nil => exact (hy rfl).elim
          | cons _ _ => rfl
        · have e : (Txt.split (toS x) (toS y)) = (splitT x y).map toS := by
            unfold splitT
            rw [List.map_map]
            conv => lhs; rw [← List.map_id (Txt.split (toS x) (toS y))]
            exact List.map_congr_left fun q _ => (toS_list q).symm
          rw [e]
          exact PostE.newL h r (repL_new z.2) hw
    · exact h.elim
theorem s_join (o : XOk p n N sc W X) {apos : Pos} (hl : (apos.endLine == pos.line) = true) (ha : PE X A (tE p n W a)) (hb : PE X B (tE p n W b)) (pa : plainA A = true) (na : notSuper A = true) (pb : plainA B = true) :
    PE X (.Call (.Attribute A "join" apos) [B] [] pos) (tE p n W (.mth .join a b)) :=
  s_mth PySem.F.plainAttrs_str PySem.F.slot_str_join PySem.F.type_str_join mt_join hl ha hb pa na pb (fun g c sl mm σ H d v r rv h => by rw [o.K]; exact recv_str rv (by cases d <;> first | rfl | exact h)) fun g c sl mm σ H d f v u Q r rv ru h => by
    simp only [binS] at h
    split at h
    · rename_i x
      split at h
      · rename_i ys e
        split at h
        · rename_i ts e2
          cases z : (decide ((ts.map (·.length)).sum + ts.length * x.length ≤ 16777216) && okT (joinT x ts)) with
          | false => simp only [z] at h; exact h.elim
          | true =>
            simp only [z, if_true] at h
            simp only [Bool.and_eq_true, decide_eq_true_eq] at z
            obtain ⟨rfl, _⟩ := repV_str rv
            obtain ⟨q, vs, rfl, t, rl⟩ := r.rdL ru e
            have ev := repL_strs rl e2
            subst ev
            refine ⟨_, q, ts.map toS, rfl, rfl, .inl (.inl t), ?_, ?_⟩
            · rw [List.map_map, List.length_map, toS_len]
              have : (fun s => Str.length s) ∘ toS = fun (s : Tx) => s.length := by funext s; exact toS_len s
              rw [show (List.map ((fun s => s.length) ∘ toS) ts) = ts.map (·.length) from List.map_congr_left fun s _ => toS_len s]
              exact z.1
            · have e3 : Txt.join (toS x) (ts.map toS) = toS (joinT x ts) := by unfold joinT; rw [toS_list]
              rw [e3]
              exact PostE.ok0 h r (okS z.2)
        · exact h.elim
      · exact h.elim
    · exact h.elim
theorem log_small {k : Nat} (h : k < 10 ^ 60) : k.log2 < 1920 := by
  by_cases h0 : k = 0
  · subst h0; decide
  · have : k < 2 ^ 1920 := Nat.lt_of_lt_of_le h (by decide)
    exact (Nat.log2_lt h0).mpr this
theorem s_str (o : XOk p n N sc W X) {po : Pos} {x : Str} (hx : x = "str") (hg : glB sc x = true) (hm : p.mg x = none) (ha : PE X A (tE p n W a)) (pa : plainA A = true) : PE X (.Call (.Name x po) [A] [] pos) (tE p n W (.un .str a)) := by
  subst hx
  refine s_callTy o (call_str_int.or SkE.call_str_str) (by decide +kernel) hg hm ha pa fun g c sl mm σ H d v Q r rv h => ?_
  simp only [unS] at h
  split at h
  · rename_i i
    cases z : (decide (i.natAbs < 10 ^ 60) && okT (intT i)) with
    | false => simp only [z] at h; exact h.elim
    | true =>
      simp only [z, if_true] at h
      rw [Bool.and_eq_true] at z
      rw [repV_int rv]
      refine .inl ⟨i, rfl, log_small (of_decide_eq_true z.1), ?_⟩
      have e : Str.ofString (toString i) = toS (intT i) := by rw [Str.ofString_eq_toList]; rfl
      rw [e]
      exact PostE.ok0 h r (okS z.2)
  · rename_i s
    obtain ⟨rfl, t⟩ := repV_str rv
    exact .inr ⟨_, rfl, PostE.ok0 h r (okS t)⟩
  · exact h.elim
/-! ### sorted -/
theorem data_dp {X : Cx} {pins : List (Addr × Obj)} {σ : L2.St} {H : Hp} {s : Shared} (I : Inv X pins σ H s) : ∀ {ws : List V} {es : List PyData} {its : List Value}, DpAll X.K H ws es → Vals ws its →
    PySem.W.EachIs (fun (u : Value) (q : PyData × V) => RelV q.2 u) its (es.zip ws) ∧ PySem.W.EachIs (fun (u : Value) (q : PyData × V) => ∃ as, Reads s.heap u q.1 as) its (es.zip ws) ∧ (es.zip ws).map (·.1) = es
  | _, _, _, .nil, .nil => ⟨.nil, .nil, rfl⟩
  | _, _, _, .cons h hs, .cons r rs => by
    obtain ⟨a, b, e⟩ := data_dp I hs rs
    exact ⟨.cons r a, .cons (Dp.reads I _ _ _ h r) b, by simp only [List.zip_cons_cons, List.map_cons, e]⟩
theorem vals_each : ∀ {out : List Value} {bs : List (PyData × V)}, PySem.W.EachIs (fun (u : Value) (q : PyData × V) => RelV q.2 u) out bs → Vals (bs.map (·.2)) out
  | _, _, .nil => .nil
  | _, _, .cons r t => .cons r (vals_each t)
def rSortD (K : PySem.W.Frag) : List V → Hp → VK → Prop := fun vs H Q => ∃ a ws es, vs = [.ref a] ∧ Rd H a (.lst ws) ∧ DpAll K H ws es ∧ PySem.W.AllAlike es ∧ PySem.W.Sortable es ∧ (∀ e ∈ es, e.depth ≤ 64) ∧
  ∀ q, H q = none → Q (.ref q) (upd H q (.lst (((es.zip ws).mergeSort fun x y => !PySem.W.dataLt y.1 x.1).map (·.2))))
theorem cr_sortD (hu : X.A.units + 128 < cLine) : CallR X (.builtin "sorted") (rSortD X.K) := fun pins s σ H vs us Q I r h => by
  obtain ⟨a, ws, es, rfl, hl, hd, hal, hk, hdp, q⟩ := h
  obtain ⟨hz, its, nn, rv, e⟩ := rd_lst I hl
  rw [Vals.ref1 r]
  obtain ⟨e1, e2, e3⟩ := data_dp I hd rv
  have pl : PlainL s.heap a its.toArray := ⟨_, nn, e, rfl, rfl, rfl⟩
  have hlen := e1.length
  refine PySem.W.sorted_data (bs := es.zip ws) (enc := fun q : PyData × V => q.1) pl.isList e1 e2 (by rw [e3]; exact hal) (by rw [e3]; exact hk) (by rw [← hlen, ← rv.length]; exact hz) (fun b hb => ?_) fun out h1 h2 => ?_
  · have : b.1 ∈ es := by rw [← e3]; exact List.mem_map_of_mem hb
    have := hdp _ this
    show X.A.units + 2 + b.1.depth < cLine
    omega
  · obtain ⟨ep, he'⟩ := PyProof.Rows.sortedAll_at s.heap its out.toArray
    have hv := vals_each h2
    have hlen2 : ((((es.zip ws).mergeSort fun x y => !PySem.W.dataLt y.1 x.1).map (·.2))).length ≤ sizeLine := by
      rw [List.length_map, List.length_mergeSort, ← hlen, ← rv.length]; exact hz
    exact ⟨.ref _, upd H (s.heap.objs.size + 1) (.lst (((es.zip ws).mergeSort fun x y => !PySem.W.dataLt y.1 x.1).map (·.2))), I.laid (t' := s.toks) (fun _ _ => PyProof.Rows.sortedAll_old) (Nat.le_succ _) ⟨hlen2, out, ep, hv, he'⟩, rfl, q _ (I.hok.fresh (Nat.le_succ _))⟩
mutual
theorem ltD_data : ∀ x y : D, hgt x < 100 → hgt y < 100 → alikeD x y = true → PySem.W.alike (toPy x) (toPy y) = true ∧ PySem.W.dataLt (toPy x) (toPy y) = ltD x y
  | .bl a, y, _, _, h => by
    cases y with
    | bl b =>
      refine ⟨rfl, ?_⟩
      show PySem.W.dataLt (.bool a) (.bool b) = (!a && b)
      rw [PySem.W.dataLt_bool]
      cases a <;> cases b <;> rfl
    | _ => simp only [alikeD, Bool.false_eq_true] at h
  | .int a, y, _, _, h => by
    cases y <;> simp only [alikeD, Bool.false_eq_true] at h
    exact ⟨rfl, PySem.W.dataLt_int _ _⟩
  | .str a, y, _, _, h => by
    cases y <;> simp only [alikeD, Bool.false_eq_true] at h
    exact ⟨rfl, PySem.W.dataLt_str _ _⟩
  | .tup xs, y, hx, hy, h => by
    cases y <;> simp only [alikeD, Bool.false_eq_true] at h
    rename_i ys
    simp only [hgt] at hx hy
    obtain ⟨h1, h2⟩ := ltDs_data xs ys (by omega) (by omega) h
    refine ⟨h1, ?_⟩
    show PySem.W.dataLt (.tuple (toPys xs)) (.tuple (toPys ys)) = ltDs xs ys
    rw [PySem.W.dataLt_tuple]; exact h2
  | .lst xs, y, hx, hy, h => by
    cases y <;> simp only [alikeD, Bool.false_eq_true] at h
    rename_i ys
    simp only [hgt] at hx hy
    obtain ⟨h1, h2⟩ := ltDs_data xs ys (by omega) (by omega) h
    refine ⟨h1, ?_⟩
    show PySem.W.dataLt (.list (toPys xs)) (.list (toPys ys)) = ltDs xs ys
    rw [PySem.W.dataLt_list]; exact h2
  | .non, _, _, _, h => by simp only [alikeD, Bool.false_eq_true] at h
  | .dct _ _, _, _, _, h => by simp only [alikeD, Bool.false_eq_true] at h
  | .obj _ _, _, _, _, h => by simp only [alikeD, Bool.false_eq_true] at h
  | .m _, _, _, _, h => by simp only [alikeD, Bool.false_eq_true] at h
theorem ltDs_data : ∀ xs ys : List D, hgts xs < 100 → hgts ys < 100 → alikeDs xs ys = true → PySem.W.alikeAll (toPys xs) (toPys ys) = true ∧ PyProof.Rows.lexLt PyProof.Rows.itemOrd (PySem.W.keyToksAll (toPys xs)) (PySem.W.keyToksAll (toPys ys)) = ltDs xs ys
  | [], [], _, _, _ => ⟨rfl, PySem.W.dataLt_self (.tuple [])⟩
  | [], y :: ys, _, _, _ => ⟨rfl, rfl⟩
  | x :: xs, [], _, _, _ => ⟨rfl, rfl⟩
  | x :: xs, y :: ys, hx, hy, h => by
    simp only [hgts] at hx hy
    simp only [alikeDs, Bool.and_eq_true] at h
    obtain ⟨h1, h2⟩ := ltD_data x y (by omega) (by omega) h.1
    obtain ⟨h3, h4⟩ := ltDs_data xs ys (by omega) (by omega) h.2
    refine ⟨?_, ?_⟩
    · show (PySem.W.alike (toPy x) (toPy y) && PySem.W.alikeAll (toPys xs) (toPys ys)) = true
      rw [h1, h3]; rfl
    · show PyProof.Rows.lexLt PyProof.Rows.itemOrd (PySem.W.keyToksAll (toPy x :: toPys xs)) (PySem.W.keyToksAll (toPy y :: toPys ys)) = if eqD x y then ltDs xs ys else ltD x y
      rw [PySem.W.dataLt_cons h1, eqv_toPy x y (by omega) (by omega), h4, h2]
end
theorem toPys_mem : ∀ {xs : List D} {e : PyData}, e ∈ toPys xs → ∃ x ∈ xs, e = toPy x
  | [], _, h => by simp [toPys] at h
  | x :: xs, e, h => by
    rcases List.mem_cons.mp h with h | h
    · exact ⟨x, by simp, h⟩
    · obtain ⟨y, hy, e'⟩ := toPys_mem h
      exact ⟨y, by simp [hy], e'⟩
theorem zip_toPys : ∀ (xs : List D) (vs : List V), (toPys xs).zip vs = (xs.zip vs).map fun q => (toPy q.1, q.2)
  | [], _ => rfl
  | _ :: _, [] => rfl
  | x :: xs, v :: vs => by
    show (toPy x, v) :: (toPys xs).zip vs = _
    rw [zip_toPys xs vs]; rfl
theorem repL_pairs {K : Kx} {ad : List Addr} {Z : Addr → Prop} {H : Hp} : ∀ {ps : List (D × V)}, (∀ q ∈ ps, RepV K ad Z H q.1 q.2) → RepL K ad Z H (ps.map (·.1)) (ps.map (·.2))
  | [], _ => RepL.nil
  | q :: ps, h => RepL.cons (h q (by simp)) (repL_pairs fun r hr => h r (by simp [hr]))
theorem repL_zip {K : Kx} {ad : List Addr} {Z : Addr → Prop} {H : Hp} : ∀ {xs : List D} {vs : List V}, RepL K ad Z H xs vs → (∀ q ∈ xs.zip vs, RepV K ad Z H q.1 q.2) ∧ (xs.zip vs).map (·.1) = xs
  | [], _, h => by simp
  | x :: xs, _, h => by
    simp only [RepL] at h
    obtain ⟨v, t, rfl, h1, h2⟩ := h
    obtain ⟨a, b⟩ := repL_zip h2
    refine ⟨fun q hq => ?_, by simp [b]⟩
    rcases List.mem_cons.mp hq with rfl | hq
    · exact h1
    · exact a q hq
theorem s_sorted (o : XOk p n N sc W X) {po : Pos} {x : Str} (hx : x = "sorted") (hg : glB sc x = true) (hm : p.mg x = none) (ha : PE X A (tE p n W a)) (pa : plainA A = true) : PE X (.Call (.Name x po) [A] [] pos) (tE p n W (.un .sorted a)) := by
  subst hx
  refine s_callB o (cr_sortD (by have := o.room.un; omega)) (by decide +kernel) hg hm ha pa fun g c sl mm σ H d v Q r rv h => ?_
  simp only [unS] at h
  rw [o.K]
  split at h
  · rename_i xs e
    obtain ⟨q, vs, rfl, t, rl⟩ := r.rdL rv e
    cases z : okSort xs with
    | false => simp only [z] at h; exact h.elim
    | true =>
      simp only [z, if_true] at h
      unfold okSort at z
      simp only [Bool.and_eq_true] at z
      obtain ⟨⟨z1, z2⟩, z3⟩ := z
      have hh : ∀ y ∈ xs, hgt y ≤ 64 := fun y hy => of_decide_eq_true (List.all_eq_true.mp z2 y hy)
      have hal : ∀ y ∈ xs, ∀ w ∈ xs, alikeD y w = true := fun y hy w hw => List.all_eq_true.mp (List.all_eq_true.mp z1 y hy) w hw
      have hhs : ∀ l : List D, (∀ y ∈ l, hgt y ≤ 64) → hgts l < 100 := by
        intro l
        induction l with
        | nil => intro _; simp [hgts]
        | cons y l ih =>
          intro hl
          have h1 := hl y (by simp)
          have h2 := ih fun w hw => hl w (by simp [hw])
          simp only [hgts]; omega
      have hs := hhs xs hh
      refine ⟨q, vs, toPys xs, rfl, t, RepL.dp xs vs hs rl, fun d1 h1 d2 h2 => ?_, ?_, fun d1 h1 => ?_, fun w hw => ?_⟩
      · obtain ⟨y1, m1, rfl⟩ := toPys_mem h1
        obtain ⟨y2, m2, rfl⟩ := toPys_mem h2
        have := hh y1 m1
        have := hh y2 m2
        exact (ltD_data y1 y2 (by omega) (by omega) (hal y1 m1 y2 m2)).1
      · rw [Bool.or_eq_true] at z3
        rcases z3 with z3 | z3
        · left
          intro d1 h1
          obtain ⟨y1, m1, rfl⟩ := toPys_mem h1
          have := List.all_eq_true.mp z3 y1 m1
          cases y1 <;> simp only [isTup1, Bool.false_eq_true] at this
          rename_i zs
          cases zs with
          | nil => simp only [isTup1, Bool.false_eq_true] at this
          | cons z0 zs => exact ⟨toPy z0, toPys zs, rfl⟩
        · right
          intro d1 h1
          obtain ⟨y1, m1, rfl⟩ := toPys_mem h1
          have h3 := List.all_eq_true.mp z3 y1 m1
          have h4 := hal y1 m1 y1 m1
          cases y1 <;> simp only [notTup, alikeD, Bool.false_eq_true] at h3 h4 <;> exact ⟨fun z => (by cases z), fun zs z => (by cases z)⟩
      · obtain ⟨y1, m1, rfl⟩ := toPys_mem h1
        have := hh y1 m1
        rw [depth_toPy y1 (by omega)]; exact this
      · obtain ⟨hz1, hz2⟩ := repL_zip rl
        have e1 : ((toPys xs).zip vs).mergeSort (fun x y => !PySem.W.dataLt y.1 x.1) = ((xs.zip vs).mergeSort (fun x y => leD x.1 y.1)).map fun q => (toPy q.1, q.2) := by
          rw [zip_toPys]
          refine (List.map_mergeSort fun u hu w hw => ?_).symm
          have m1 : u.1 ∈ xs := by rw [← hz2]; exact List.mem_map_of_mem hu
          have m2 : w.1 ∈ xs := by rw [← hz2]; exact List.mem_map_of_mem hw
          have := hh _ m1
          have := hh _ m2
          show leD u.1 w.1 = !PySem.W.dataLt (toPy w.1) (toPy u.1)
          rw [(ltD_data w.1 u.1 (by omega) (by omega) (hal _ m2 _ m1)).2]; rfl
        have e2 : xs.mergeSort leD = ((xs.zip vs).mergeSort (fun x y => leD x.1 y.1)).map (·.1) := by
          conv => lhs; rw [← hz2]
          exact (List.map_mergeSort (f := fun q : D × V => q.1) fun _ _ _ _ => rfl).symm
        rw [e1, List.map_map]
        rw [e2] at h
        refine PostE.newL h r (repL_pairs fun u hu => hz1 u ?_) hw
        exact (List.mergeSort_perm _ _).mem_iff.mp hu
  · exact h.elim
end
end Mp
/-! Mp6: tests, slices, calls. -/
namespace Mp
open PySem PySem.Spec
open PyProof.Rows L2
section
variable {p : Pg} {n : Nat} {N : List Str} {sc : Scope} {W : WX} {X : Cx} {A B C : Expr} {a b c : E} {pos : Pos}
/-! ### isinstance -/
def tyN : Ty → Option String
  | .bool => some "bool"
  | .int => some "int"
  | .str => some "str"
  | .tuple => some "tuple"
  | .list => some "list"
  | .dict => some "dict"
  | .cls _ => none
theorem tyx_rd {K : Kx} {H : Hp} {q : Addr} {vs : List V} (h : Rd H q (.lst vs)) : TyX K H (.ref q) (.type "list") := by
  rcases h with h | ⟨o, h⟩
  · exact .base (.lst h)
  · exact .base (.frz h)
theorem tyx_tup {K : Kx} {H : Hp} {q : Addr} {vs : List V} (h : SqT K H q vs) : TyX K H (.ref q) (.type "tuple") := by
  rcases h with (h | ⟨o, h⟩) | ⟨o, its, n, h1, h2, _⟩
  · exact .base (.tup h)
  · exact .fTuple h
  · exact .kTuple h1 h2
theorem Rep.rd_ne_m {K : Kx} {g : Gh} {cc : Cf} {sl : Sl} {mm : Mm} {σ : L2.St} {H : Hp} {d : D} {v : V} {k : Nat} (r : Rep K g cc sl mm σ H) (rv : RepV K cc.ad cc.Z H d v) : rd mm d ≠ .m k := fun q => by
  cases d with
  | m j =>
    simp only [RepV] at rv
    obtain ⟨a, ha, rfl⟩ := rv
    have hl : j < mm.length := by rw [← r.lenA]; exact (List.getElem?_eq_some_iff.mp ha).1
    have qk : mm[j]? = some mm[j] := List.getElem?_eq_getElem hl
    have ob := r.obj j a _ ha qk
    have er : rd mm (.m j) = mm[j].val := by simp only [rd, qk]
    rw [er] at q
    cases hx : mm[j] with
    | mu d =>
      rw [hx] at ob q
      simp only [M.val] at q; subst q
      have := ob.2.1
      simp [pureD] at this
    | fz d =>
      rw [hx] at ob q
      simp only [M.val] at q; subst q
      have := ob.2.1
      simp [pureD] at this
  | _ => simp only [rd] at q; cases q
theorem isTy_ok {K : Kx} {g : Gh} {cc : Cf} {sl : Sl} {mm : Mm} {σ : L2.St} {H : Hp} {d : D} {v : V} {t : Ty} {b : Bool} {T : String} (r : Rep K g cc sl mm σ H) (rv : RepV K cc.ad cc.Z H d v) (hd : noIs (rd mm d) = false) (e : isTy t (rd mm d) = some b) (hT : tyN t = some T) :
    ∃ w, TyX K H v w ∧ PySem.W.kitOne K w (.type T) = some b := by
  cases q : rd mm d with
  | lst xs =>
    obtain ⟨a, vs, rfl, h, _⟩ := r.rdL rv q
    rw [q] at e
    refine ⟨_, tyx_rd h, ?_⟩
    cases t <;> simp only [tyN, Option.some.injEq, reduceCtorEq] at hT <;> subst hT <;> simp only [isTy, Option.some.injEq] at e <;> subst e <;> exact kit_ty (by decide +kernel)
  | tup xs =>
    obtain ⟨a, vs, rfl, h, _⟩ := r.rdT rv q
    rw [q] at e
    refine ⟨_, tyx_tup h, ?_⟩
    cases t <;> simp only [tyN, Option.some.injEq, reduceCtorEq] at hT <;> subst hT <;> simp only [isTy, Option.some.injEq] at e <;> subst e <;> exact kit_ty (by decide +kernel)
  | dct ks xs => rw [q] at hd; cases hd
  | dtu ks xs => rw [q] at hd; cases hd
  | obj c fs => rw [q] at hd; cases hd
  | _ =>
    rcases r.rdV rv (fun xs z => by rw [q] at z; cases z) (fun ks xs z => by rw [q] at z; cases z) with z | ⟨k, xs, _, z⟩
    · rw [q] at z; subst z
      rw [q] at e
      have rv0 := rv
      unfold RepV at rv
      first
        | (subst rv; refine ⟨_, .base (.non), ?_⟩; cases t <;> simp only [tyN, Option.some.injEq, reduceCtorEq] at hT <;> subst hT <;> simp only [isTy, Option.some.injEq] at e <;> subst e <;> exact kit_ty (by decide +kernel))
        | (subst rv; refine ⟨_, .base (.bl _), ?_⟩; cases t <;> simp only [tyN, Option.some.injEq, reduceCtorEq] at hT <;> subst hT <;> simp only [isTy, Option.some.injEq] at e <;> subst e <;> exact kit_ty (by decide +kernel))
        | (subst rv; refine ⟨_, .base (.int _), ?_⟩; cases t <;> simp only [tyN, Option.some.injEq, reduceCtorEq] at hT <;> subst hT <;> simp only [isTy, Option.some.injEq] at e <;> subst e <;> exact kit_ty (by decide +kernel))
        | (obtain ⟨rfl, _⟩ := rv; refine ⟨_, .base (.str _), ?_⟩; cases t <;> simp only [tyN, Option.some.injEq, reduceCtorEq] at hT <;> subst hT <;> simp only [isTy, Option.some.injEq] at e <;> subst e <;> exact kit_ty (by decide +kernel))
        | exact rv.elim
        | exact (r.rd_ne_m rv0 q).elim
    · rw [q] at z; cases z
theorem s_isi (o : XOk p n N sc W X) {po p2 : Pos} {x y : Str} {t : Ty} {T : String} (hT : tyN t = some T) (hx : x = "isinstance") (hg : glB sc x = true) (hm : p.mg x = none) (hg2 : glB sc y = true) (hm2 : p.mg y = none) (hb : bootBuiltins y = some (.type T))
    (ha : PE X A (tE p n W a)) (pa : plainA A = true) : PE X (.Call (.Name x po) [A, .Name y p2] [] pos) (tE p n W (.un (.isi t) a)) := by
  subst hx
  have hy : PE X (.Name y p2) (tC (.ty T)) := pe_bltn (o.gl hg2) (by rw [o.mg]; exact hm2) hb rfl (nm_nm (gl_nm hg2)) (nm_deb (gl_nm hg2))
  refine PEimp (pe_callB call_isi (o.gl hg) (by rw [o.mg]; exact hm) (by decide +kernel) (pa_cons ha (pa_cons hy pa_nil (star_plain rfl _ _)) (star_plain pa _ _)) (nm_nm (gl_nm hg)) (nm_deb (gl_nm hg)) (star_plain pa _ _) (star_none (by simp [plainA]) _ _)) fun σ H Q ⟨g, c, sl, mm, r, h⟩ => ?_
  simp only [semE] at h
  refine ⟨g, c, sl, mm, r, PostE.bind h fun c1 d mm1 v H1 l1 r1 rv h1 => ?_⟩
  simp only [unS] at h1
  cases hd : noIs (rd mm1 d) with
  | true => simp only [hd] at h1; exact h1.elim
  | false =>
    simp only [hd] at h1
    split at h1
    · rename_i b e
      obtain ⟨w, tx, kt⟩ := isTy_ok r1 rv hd e hT
      rw [o.K]
      exact ⟨v, .ty T, w, .type T, b, rfl, .ty T, tx, kt, PostE.ok0 h1 r1 okB⟩
    · exact h1.elim
/-! ### a constant tuple's index, list(range(a, b)) -/
theorem idxOfT_spec {x : Tx} : ∀ {xs : List Tx} {j : Nat}, idxOfT x xs = some j → (xs.map toS)[j]? = some (toS x) ∧ ∀ m, m < j → (xs.map toS)[m]? ≠ some (toS x)
  | [], _, e => by simp [idxOfT] at e
  | y :: ys, j, e => by
    simp only [idxOfT] at e
    by_cases q : x = y
    · rw [if_pos q] at e
      simp only [Option.some.injEq] at e
      subst e; subst q
      exact ⟨rfl, fun m hm => by omega⟩
    · rw [if_neg q] at e
      cases q2 : idxOfT x ys with
      | none => rw [q2] at e; simp at e
      | some i =>
        rw [q2] at e
        simp only [Option.map_some, Option.some.injEq] at e
        subst e
        obtain ⟨h1, h2⟩ := idxOfT_spec q2
        refine ⟨by simpa using h1, fun m hm z => ?_⟩
        cases m with
        | zero =>
          have : toS y = toS x := by simpa using z
          exact q (toS_inj this).symm
        | succ m => exact h2 m (by omega) (by simpa using z)
theorem allStr_map : ∀ {xs : List D} {ts : List Tx}, allStr xs = some ts → xs = ts.map .str
  | [], _, e => by simp only [allStr, Option.some.injEq] at e; subst e; rfl
  | x :: xs, ts, e => by
    cases x <;> simp only [allStr] at e <;> try (cases e)
    rename_i b
    cases q : allStr xs with
    | none => rw [q] at e; simp at e
    | some cs =>
      rw [q] at e
      simp only [Option.map_some, Option.some.injEq] at e
      subst e
      rw [allStr_map q]; rfl
def strsG (d : D) : Option (List Tx) := match d with
  | .tup xs => allStr xs
  | _ => none
theorem s_tix (o : XOk p n N sc W X) {i : Nat} {xs : List Tx} {apos p2 : Pos} (hl : (apos.endLine == pos.line) = true) (hd : p.gdom i = true) (hs : strsG (p.gv i) = some xs) (hg : glB sc (p.gn i) = true) (hb : PE X B (tE p n W b)) (pb : plainA B = true) :
    PE X (.Call (.Attribute (.Name (p.gn i) p2) "index" apos) [B] [] pos) (tE p n W (.un (.tix i xs) b)) := by
  obtain ⟨u, v, hm, rv, hp, hr⟩ := o.gls i hd
  have ho : PE X (.Name (p.gn i) p2) (tC v) := pe_glob (o.gl hg) (by rw [o.mg]; exact hm) rv (nm_deb (gl_nm hg))
  refine PEimp (pe_bm PySem.F.plainAttrs_tuple PySem.F.slot_tuple_index PySem.F.type_tuple_index mt_tup_index ho (pa_cons hb pa_nil (star_plain pb _ _)) (base_plain rfl rfl _ _) (few_one pb _ _) hl (star_plain pb _ _) (star_none (by simp) _ _)) fun σ H Q ⟨g, c, sl, mm, r, h⟩ => ?_
  simp only [semE] at h
  have hr' := hr H
  cases eg : p.gv i <;> rw [eg] at hs <;> simp only [strsG] at hs <;> try (cases hs)
  rename_i ds
  rw [eg] at hr'
  simp only [RepV] at hr'
  obtain ⟨q, vs, rfl, t, rl⟩ := hr'
  rcases t with ⟨z, _⟩ | ⟨ob, its, nn, k1, k2, k3, k4, k5, k6⟩
  · exact z.elim
  have ev := repL_strs rl hs
  subst ev
  refine ⟨?_, g, c, sl, mm, r, PostE.bind h fun c1 d mm1 w H1 l1 r1 rw' h1 => ?_⟩
  · rw [o.K]; exact .inr (.inl ⟨rfl, ob, k1, k2, k3⟩)
  simp only [unS] at h1
  split at h1
  · rename_i x
    split at h1
    · rename_i j e
      obtain ⟨e1, e2⟩ := idxOfT_spec e
      rw [(repV_str rw').1, o.K]
      exact ⟨q, xs.map toS, toS x, j, rfl, rfl, .inr ⟨ob, its, nn, k1, k2, k4, k5, k6⟩, e1, e2, PostE.ok0 h1 r1 okI⟩
    · exact h1.elim
  · exact h1.elim
theorem rgV_rep {K : Kx} {ad : List Addr} {Z : Addr → Prop} {H : Hp} (i : Int) (k : Nat) : RepL K ad Z H (rngL i k) ((List.range k).map fun m => V.int (i + (m : Nat))) := by
  unfold rngL
  generalize List.range k = l
  induction l with
  | nil => exact RepL.nil
  | cons m l ih => exact RepL.cons okI ih
theorem s_lrng (o : XOk p n N sc W X) {po p2 q2 : Pos} {x y : Str} (hx : x = "list") (hy : y = "range") (hg : glB sc x = true) (hm : p.mg x = none) (hg2 : glB sc y = true) (hm2 : p.mg y = none)
    (ha : PE X A (tE p n W a)) (hb : PE X B (tE p n W b)) (pa : plainA A = true) (pb : plainA B = true) : PE X (.Call (.Name x po) [.Call (.Name y p2) [A, B] [] q2] [] pos) (tE p n W (.bin .lrng a b)) := by
  subst hx; subst hy
  refine PEimp (pe_listRg o.calm (o.gl hg) (by rw [o.mg]; exact hm) (prg_2 (o.gl hg2) (by rw [o.mg]; exact hm2) ha hb (star_plain pa _ _) (star_plain pb _ _) (star_none (by simp [pb]) _ _)) (star_plain rfl _ _)) fun σ H Q ⟨g, c, sl, mm, r, h⟩ => ?_
  simp only [semE] at h
  refine ⟨g, c, sl, mm, r, PostE.bind h fun c1 d mm1 v H1 l1 r1 rv h1 => ⟨g, c1, sl, mm1, r1, PostE.bind h1 fun c2 f mm2 u H2 l2 r2 ru h2 => ?_⟩⟩
  have rv2 := RepV.le l2 _ _ rv
  simp only [binS] at h2
  split at h2
  · rename_i i j
    cases z : (decide (0 ≤ i) && decide (i ≤ 16777216) && decide (0 ≤ j) && decide (j ≤ 16777216)) with
    | false => simp only [z] at h2; exact h2.elim
    | true =>
      simp only [z, if_true] at h2
      simp only [Bool.and_eq_true, decide_eq_true_eq] at z
      rw [repV_int rv2, repV_int ru]
      exact ⟨i, j, rfl, rfl, RgOk.of_le z.1.1.1 z.2 z.1.1.2 z.1.2, fun w hw => PostE.newL h2 r2 (rgV_rep i _) hw⟩
  · exact h2.elim
/-! ### slices -/
def PostO (p : Pg) (g : Gh) (no : Bool) (c : Cf) (sl : Sl) (σ : L2.St) (H : Hp) (W : WX) (Q : Option Int → Hp → Prop) : Option RE → Prop
  | none => False
  | some (.ok d mm) => ∃ l, partS no d = some l ∧ ∀ c' H', c.Le H c' H' → Rep p.K g c' sl mm σ H' → Q l H'
  | some (.ex x mm) => ∀ c' dd H', c.Le H c' H' → Rep p.K g c' sl mm σ H' → RepX p.K c'.Z H' x dd → W (.ref (p.ea x.cls)) dd σ H'
def tO (p : Pg) (n : Nat) (W : WX) (e : E) : TO := fun σ H Q => ∃ g c sl mm, Rep p.K g c sl mm σ H ∧ PostO p g (isNo e) c sl σ H W Q (semE p.gv (p.cf n) e sl mm)
theorem o_no : PO X none (tO p n W .no) := ⟨fun pins s σ H Q I ⟨g, c, sl, mm, r, h⟩ => po_none.run pins s σ H Q I (by
  simp only [semE, okE, isNo, PostO] at h
  obtain ⟨l, e, h⟩ := h
  simp only [partS, if_true, Option.some.injEq] at e
  subst e
  exact h c H .refl r)⟩
theorem o_some (ha : PE X A (tE p n W a)) (hn : isNo a = false) : PO X (some A) (tO p n W a) := ⟨fun pins s σ H Q I ⟨g, c, sl, mm, r, h⟩ => (po_some ha).run pins s σ H Q I (by
  refine ⟨g, c, sl, mm, r, ?_⟩
  rw [hn] at h
  cases q : semE p.gv (p.cf n) a sl mm with
  | none => rw [q] at h; exact h
  | some x =>
    rw [q] at h
    cases x with
    | ex x mm1 => exact h
    | ok d mm1 =>
      obtain ⟨l, e, h⟩ := h
      cases d <;> simp only [partS, Bool.false_eq_true, if_false, reduceCtorEq, Option.some.injEq] at e
      subst e
      exact fun c' v H' l r' rv => ⟨_, repV_int rv, h c' H' l r'⟩)⟩
theorem PostE.part {g : Gh} {cc : Cf} {sl : Sl} {σ : L2.St} {H : Hp} {Q : VK} {Q' : Option Int → Hp → Prop} {no : Bool} {r : Option RE} {f : Option Int → Mm → Option RE}
    (h : PostE p g cc sl σ H W Q (bindE r fun d mm => match partS no d with | none => none | some l => f l mm))
    (i : ∀ c1 l mm1 H1, cc.Le H c1 H1 → Rep p.K g c1 sl mm1 σ H1 → PostE p g c1 sl σ H1 W Q (f l mm1) → Q' l H1) : PostO p g no cc sl σ H W Q' r := by
  cases r with
  | none => exact h
  | some r =>
    cases r with
    | ex x mm => exact h
    | ok d mm =>
      simp only [bindE] at h
      cases e : partS no d with
      | none => simp only [e] at h; exact h.elim
      | some l =>
        simp only [e] at h
        exact ⟨l, e, fun c' H' le r' => i c' l mm H' le r' (PostE.from h le)⟩
/-- what a slice asks -/
def rSlc (K : PySem.W.Frag) : V → Option Int → Option Int → Hp → VK → Prop := fun x lo hi H Q => rSlL K x lo hi H Q ∨ (rSlA K x lo hi H Q ∨ rSlS x lo hi H Q)
theorem sl_both : SlR X (rSlc X.K) := sl_list.or (sl_tupA.or sl_str)
theorem cutD_all {xs : List D} {lo hi : Option Int} (h : HT.sIx xs.length 0 lo = 0 ∧ HT.sIx xs.length xs.length hi = xs.length) : cutD xs lo hi = xs := by
  unfold cutD
  rw [h.1, h.2]; simp
theorem slc_ok {g : Gh} {cc : Cf} {sl : Sl} {mm : Mm} {σ : L2.St} {H : Hp} {d : D} {v : V} {Q : VK} {lo hi : Option Int} (o : XOk p n N sc W X) (r : Rep p.K g cc sl mm σ H) (rv : RepV p.K cc.ad cc.Z H d v) (h : PostE p g cc sl σ H W Q (slcS d lo hi mm)) : rSlc X.K v lo hi H Q := by
  unfold slcS at h
  split at h
  · rename_i xs e
    obtain ⟨q, vs, rfl, t, rl⟩ := r.rdL rv e
    rw [o.K]
    exact .inl ⟨q, vs, rfl, .inl t, fun w hw => PostE.newL h r (rl.cut lo hi) hw⟩
  · rename_i xs e
    obtain ⟨q, vs, rfl, t, rl⟩ := r.rdT rv e
    rw [o.K]
    refine .inr (.inl ⟨q, vs, rfl, t, fun hw => ?_, fun _ w hw => PostE.newT h r (rl.cut lo hi) hw⟩)
    rw [rl.len] at hw
    rw [cutD_all hw] at h
    cases d with
    | tup ys => simp only [rd] at e; cases e; exact PostE.ok0 h r rv
    | m k =>
      simp only [RepV] at rv
      obtain ⟨w, hw, ew'⟩ := rv
      cases ew'
      have hl : k < mm.length := by rw [← r.lenA]; exact (List.getElem?_eq_some_iff.mp hw).1
      have qk : mm[k]? = some mm[k] := List.getElem?_eq_getElem hl
      have ob := r.obj k _ _ hw qk
      have er : rd mm (.m k) = mm[k].val := by simp only [rd, qk]
      rw [er] at e
      cases hx : mm[k] with
      | mu d =>
        rw [hx] at ob e
        simp only [M.val] at e; subst e
        have := ob.2.2
        simp only [RepM] at this
      | fz d =>
        rw [hx] at ob e
        simp only [M.val] at e; subst e
        exact PostE.ok0 h r ob.2.2
    | _ => simp only [rd] at e; cases e
  · rename_i s e
    have e' := r.rdS rv e
    subst e'
    obtain ⟨rfl, t⟩ := repV_str rv
    split at h
    · rename_i hz
      refine .inr (.inr ⟨_, rfl, by rw [toS_len, sz_eq]; exact hz, ?_⟩)
      have e3 : cutS (toS s) lo hi = toS (cutD s lo hi) := by
        unfold cutS cutD
        rw [toS_len]
        simp [toS]
      rw [e3]
      refine PostE.ok0 h r (okS ?_)
      unfold okT cutD at *
      rw [List.all_eq_true] at t ⊢
      exact fun x hx => t x (List.mem_of_mem_drop (List.mem_of_mem_take hx))
    · exact h.elim
  · exact h.elim
theorem s_slc (o : XOk p n N sc W X) {LO HI : Option Expr} {p2 : Pos} (ha : PE X A (tE p n W a)) (hb : PO X LO (tO p n W b)) (hc : PO X HI (tO p n W c)) : PE X (.Subscript A (.Slice LO HI none p2) pos) (tE p n W (.slc a b c)) :=
  PEimp (pe_slice sl_both ha hb hc) fun σ H Q ⟨g, cc, sl, mm, r, h⟩ => by
    simp only [semE] at h
    refine ⟨g, cc, sl, mm, r, PostE.bind h fun c1 d mm1 v H1 l1 r1 rv h1 => ⟨g, c1, sl, mm1, r1, PostE.part h1 fun c2 lo mm2 H2 l2 r2 h2 => ⟨g, c2, sl, mm2, r2, PostE.part h2 fun c3 hi mm3 H3 l3 r3 h3 => ?_⟩⟩⟩
    exact slc_ok o r3 (RepV.le (l2.trans l3) _ _ rv) h3
/-! ### tests -/
def PostT (p : Pg) (g : Gh) (c : Cf) (sl : Sl) (σ : L2.St) (H : Hp) (W : WX) (Q : Bool → Hp → Prop) (r : Option RE) : Prop := PostB p g c sl σ H W Q r
theorem PostB.imp {g : Gh} {cc : Cf} {sl : Sl} {σ : L2.St} {H : Hp} {Q Q' : Bool → Hp → Prop} {r : Option RE} (h : PostB p g cc sl σ H W Q r) (i : ∀ b H', Q b H' → Q' b H') : PostB p g cc sl σ H W Q' r := by
  cases r with
  | none => exact h
  | some r =>
    cases r with
    | ex x mm => exact h
    | ok d mm => cases d <;> first | exact fun c' H' l r => i _ _ (h c' H' l r) | exact h
theorem PostB.from {g : Gh} {cc c' : Cf} {sl : Sl} {σ : L2.St} {H H' : Hp} {Q : Bool → Hp → Prop} {r : Option RE} (h : PostB p g cc sl σ H W Q r) (l : cc.Le H c' H') : PostB p g c' sl σ H' W Q r := by
  cases r with
  | none => exact h
  | some r =>
    cases r with
    | ex x mm => exact fun c2 dd H2 l2 r q => h c2 dd H2 (l.trans l2) r q
    | ok d mm => cases d <;> first | exact fun c2 H2 l2 r => h c2 H2 (l.trans l2) r | exact h
/-- a value that is a truth value, as a test -/
theorem PostB.val {g : Gh} {cc : Cf} {sl : Sl} {σ : L2.St} {H : Hp} {Q : Bool → Hp → Prop} {r : Option RE} (h : PostB p g cc sl σ H W Q r) : PostE p g cc sl σ H W (fun x H' => ∃ k, x = .bl k ∧ Q k H') r := by
  cases r with
  | none => exact h
  | some r =>
    cases r with
    | ex x mm => exact h
    | ok d mm => cases d <;> first | exact fun c' v H' l r rv => ⟨_, repV_bl rv, h c' H' l r⟩ | exact h.elim
theorem t_val (ha : PE X A (tE p n W a)) (hv : valA A = true) : PT X A (tB p n W a) :=
  PTimp (pt_val ha (truth_plain hv X.env)) fun σ H Q ⟨g, c, sl, mm, r, h⟩ => ⟨g, c, sl, mm, r, h.val⟩
/-- first a test, then whatever hangs on it -/
theorem PostE.test {g : Gh} {cc : Cf} {sl : Sl} {σ : L2.St} {H : Hp} {Q : VK} {Q' : Bool → Hp → Prop} {r : Option RE} {f : D → Mm → Option RE} (hf : ∀ d mm, (∀ b, d ≠ .bl b) → f d mm = none)
    (h : PostE p g cc sl σ H W Q (bindE r f)) (i : ∀ c1 b mm1 H1, cc.Le H c1 H1 → Rep p.K g c1 sl mm1 σ H1 → PostE p g c1 sl σ H1 W Q (f (.bl b) mm1) → Q' b H1) : PostB p g cc sl σ H W Q' r := by
  cases r with
  | none => exact h
  | some r =>
    cases r with
    | ex x mm => exact h
    | ok d mm =>
      simp only [bindE] at h
      by_cases hb : ∃ b, d = .bl b
      · obtain ⟨b, rfl⟩ := hb
        exact fun c' H' le r' => i c' b mm H' le r' (PostE.from h le)
      · rw [hf d mm fun b e => hb ⟨b, e⟩] at h
        exact h.elim
theorem PostB.test {g : Gh} {cc : Cf} {sl : Sl} {σ : L2.St} {H : Hp} {Q : Bool → Hp → Prop} {Q' : Bool → Hp → Prop} {r : Option RE} {f : D → Mm → Option RE} (hf : ∀ d mm, (∀ b, d ≠ .bl b) → f d mm = none)
    (h : PostB p g cc sl σ H W Q (bindE r f)) (i : ∀ c1 b mm1 H1, cc.Le H c1 H1 → Rep p.K g c1 sl mm1 σ H1 → PostB p g c1 sl σ H1 W Q (f (.bl b) mm1) → Q' b H1) : PostB p g cc sl σ H W Q' r := by
  cases r with
  | none => exact h
  | some r =>
    cases r with
    | ex x mm => exact h
    | ok d mm =>
      simp only [bindE] at h
      by_cases hb : ∃ b, d = .bl b
      · obtain ⟨b, rfl⟩ := hb
        exact fun c' H' le r' => i c' b mm H' le r' (PostB.from h le)
      · rw [hf d mm fun b e => hb ⟨b, e⟩] at h
        exact h.elim
theorem s_not (ha : PE X A (tE p n W a)) : PE X (.UnaryOp .Not A pos) (tE p n W (.not a)) :=
  PEimp (pe_not ha) fun σ H Q ⟨g, cc, sl, mm, r, h⟩ => by
    simp only [semE] at h
    refine ⟨g, cc, sl, mm, r, PostE.bind h fun c1 d mm1 v H1 l1 r1 rv h1 => ?_⟩
    cases d <;> try exact h1.elim
    exact ⟨_, repV_bl rv, PostE.ok0 h1 r1 okB⟩
theorem t_not (ha : PT X A (tB p n W a)) : PT X (.UnaryOp .Not A pos) (tB p n W (.not a)) :=
  PTimp (pt_not ha) fun σ H Q ⟨g, cc, sl, mm, r, h⟩ => by
    simp only [semE] at h
    refine ⟨g, cc, sl, mm, r, PostB.test (fun d mm hd => by cases d <;> first | rfl | exact (hd _ rfl).elim) h fun c1 b mm1 H1 l1 r1 h1 => ?_⟩
    exact h1 c1 H1 .refl r1
theorem s_one {op : BoolOp} (ha : PE X A (tE p n W a)) : PE X (.BoolOp op [A] pos) (tE p n W a) := pe_one ha
theorem s_and {R : List Expr} (ha : PE X A (tE p n W a)) (hb : PE X (.BoolOp .And (B :: R) pos) (tE p n W b)) : PE X (.BoolOp .And (A :: B :: R) pos) (tE p n W (.and a b)) :=
  PEimp (pe_and ha hb) fun σ H Q ⟨g, cc, sl, mm, r, h⟩ => by
    simp only [semE] at h
    refine ⟨g, cc, sl, mm, r, PostE.bind h fun c1 d mm1 v H1 l1 r1 rv h1 => ?_⟩
    cases d <;> try exact h1.elim
    rename_i k
    refine ⟨k, repV_bl rv, ?_⟩
    cases k
    · exact PostE.ok0 h1 r1 okB
    · exact ⟨g, c1, sl, mm1, r1, h1⟩
theorem s_or {R : List Expr} (ha : PE X A (tE p n W a)) (hb : PE X (.BoolOp .Or (B :: R) pos) (tE p n W b)) : PE X (.BoolOp .Or (A :: B :: R) pos) (tE p n W (.or a b)) :=
  PEimp (pe_or ha hb) fun σ H Q ⟨g, cc, sl, mm, r, h⟩ => by
    simp only [semE] at h
    refine ⟨g, cc, sl, mm, r, PostE.bind h fun c1 d mm1 v H1 l1 r1 rv h1 => ?_⟩
    cases d <;> try exact h1.elim
    rename_i k
    refine ⟨k, repV_bl rv, ?_⟩
    cases k
    · exact ⟨g, c1, sl, mm1, r1, h1⟩
    · exact PostE.ok0 h1 r1 okB
theorem w_and {R : List Expr} (ha : PT X A (tB p n W a)) (hb : PW X (.BoolOp .And (B :: R) pos) (tB p n W b)) : PW X (.BoolOp .And (A :: B :: R) pos) (tB p n W (.and a b)) :=
  PWimp (pw_and ha hb) fun σ H Q ⟨g, cc, sl, mm, r, h⟩ => by
    simp only [semE] at h
    refine ⟨g, cc, sl, mm, r, PostB.test (fun d mm hd => by cases d <;> first | rfl | exact (hd _ rfl).elim) h fun c1 b mm1 H1 l1 r1 h1 => ?_⟩
    cases b
    · exact h1 c1 H1 .refl r1
    · exact ⟨g, c1, sl, mm1, r1, h1⟩
theorem w_or {R : List Expr} (ha : PT X A (tB p n W a)) (hb : PW X (.BoolOp .Or (B :: R) pos) (tB p n W b)) : PW X (.BoolOp .Or (A :: B :: R) pos) (tB p n W (.or a b)) :=
  PWimp (pw_or ha hb) fun σ H Q ⟨g, cc, sl, mm, r, h⟩ => by
    simp only [semE] at h
    refine ⟨g, cc, sl, mm, r, PostB.test (fun d mm hd => by cases d <;> first | rfl | exact (hd _ rfl).elim) h fun c1 b mm1 H1 l1 r1 h1 => ?_⟩
    cases b
    · exact ⟨g, c1, sl, mm1, r1, h1⟩
    · exact h1 c1 H1 .refl r1
theorem s_ite (ht : PT X C (tB p n W c)) (ha : PE X A (tE p n W a)) (hb : PE X B (tE p n W b)) : PE X (.IfExp C A B pos) (tE p n W (.ite c a b)) :=
  PEimp (pe_ifExp ht ha hb) fun σ H Q ⟨g, cc, sl, mm, r, h⟩ => by
    simp only [semE] at h
    refine ⟨g, cc, sl, mm, r, PostE.test (fun d mm hd => by cases d <;> first | rfl | exact (hd _ rfl).elim) h fun c1 b mm1 H1 l1 r1 h1 => ?_⟩
    cases b
    · exact ⟨g, c1, sl, mm1, r1, h1⟩
    · exact ⟨g, c1, sl, mm1, r1, h1⟩
/-- a comparison as a value, as a test -/
theorem s_cmp {op : CmpOp} (h : PC X op A B (tE p n W a)) (pb : plainA B = true) : PE X (.Compare A [op] [B] pos) (tE p n W a) := pe_cmp h (mark_plain pb _)
theorem t_cmp {op : CmpOp} (h : PC X op A B (tE p n W a)) (pb : plainA B = true) : PT X (.Compare A [op] [B] pos) (tB p n W a) :=
  PTimp (pt_cmp h (mark_plain pb _)) fun σ H Q ⟨g, c, sl, mm, r, h⟩ => ⟨g, c, sl, mm, r, h.val⟩
/-- a < b < c of ints -/
def cmpO : B2 → Option CmpOp
  | .lt => some .Lt
  | .le => some .LtE
  | .gt => some .Gt
  | .ge => some .GtE
  | _ => none
def cmpF : B2 → Int → Int → Bool
  | .lt => fun i j => decide (i < j)
  | .le => fun i j => decide (i ≤ j)
  | .gt => fun i j => decide (j < i)
  | .ge => fun i j => decide (j ≤ i)
  | _ => fun _ _ => false
theorem cmpO_op {o2 : B2} {op : CmpOp} (h : cmpO o2 = some op) : OpR X (compareOp op) (rI0 fun i j => .bl (cmpF o2 i j)) ∧ ∀ x y mm, binS o2 x y mm = cmpI x y (cmpF o2) mm := by
  cases o2 <;> simp only [cmpO, Option.some.injEq, reduceCtorEq] at h <;> subst h
  · exact ⟨op_lt, fun _ _ _ => rfl⟩
  · exact ⟨op_le, fun _ _ _ => rfl⟩
  · exact ⟨op_gt, fun _ _ _ => rfl⟩
  · exact ⟨op_ge, fun _ _ _ => rfl⟩
theorem cmpO_eq {o2 : B2} {op : CmpOp} (h : cmpO o2 = some op) : ∀ x y mm, binS o2 x y mm = cmpI x y (cmpF o2) mm := by
  cases o2 <;> simp only [cmpO, reduceCtorEq] at h <;> exact fun _ _ _ => rfl
theorem chain_ok {o1 o2 : B2} {g : Gh} {cc : Cf} {sl : Sl} {mm : Mm} {σ : L2.St} {H : Hp} {Q : VK} {op1 op2 : CmpOp} (h1 : cmpO o1 = some op1) (h2 : cmpO o2 = some op2) (r : Rep p.K g cc sl mm σ H)
    (h : PostE p g cc sl σ H W Q (semE p.gv (p.cf n) (.chn o1 o2 a b c) sl mm)) : tChain (rI0 fun i j => .bl (cmpF o1 i j)) (rI0 fun i j => .bl (cmpF o2 i j)) (tE p n W a) (tE p n W b) (tE p n W c) σ H Q := by
  have e1 := cmpO_eq h1
  have e2 := cmpO_eq h2
  simp only [semE] at h
  refine ⟨g, cc, sl, mm, r, PostE.bind h fun c1 x mm1 v H1 l1 r1 rv k1 => ⟨g, c1, sl, mm1, r1, PostE.bind k1 fun c2 y mm2 u H2 l2 r2 ru k2 => ?_⟩⟩
  have rv2 := RepV.le l2 _ _ rv
  rw [e1] at k2
  cases x <;> try exact k2.elim
  cases y <;> try exact k2.elim
  rename_i i j
  rw [repV_int rv2, repV_int ru]
  simp only [cmpI, okE, bindE] at k2
  refine ⟨i, j, rfl, rfl, cmpF o1 i j, rfl, ?_⟩
  cases z : cmpF o1 i j with
  | false =>
    simp only [z] at k2
    exact PostE.ok0 (mm := mm2) k2 r2 okB
  | true =>
    simp only [z] at k2
    refine ⟨g, c2, sl, mm2, r2, PostE.bind k2 fun c3 w mm3 q H3 l3 r3 rq k3 => ?_⟩
    have ru3 := RepV.le l3 _ _ ru
    rw [e2] at k3
    cases w <;> try exact k3.elim
    rename_i k
    rw [repV_int rq]
    exact ⟨j, k, rfl, rfl, PostE.ok0 k3 r3 okB⟩
theorem s_chn {o1 o2 : B2} {op1 op2 : CmpOp} (h1 : cmpO o1 = some op1) (h2 : cmpO o2 = some op2) (ha : PE X A (tE p n W a)) (hb : PE X B (tE p n W b)) (hc : PE X C (tE p n W c)) (pc : plainA C = true) : PE X (.Compare A [op1, op2] [B, C] pos) (tE p n W (.chn o1 o2 a b c)) :=
  PEimp (pe_chain (cmpO_op h1).1 (cmpO_op h2).1 ha hb hc (mark_plain pc _)) fun σ H Q ⟨g, cc, sl, mm, r, h⟩ => chain_ok h1 h2 r h
theorem t_chn {o1 o2 : B2} {op1 op2 : CmpOp} (h1 : cmpO o1 = some op1) (h2 : cmpO o2 = some op2) (ha : PE X A (tE p n W a)) (hb : PE X B (tE p n W b)) (hc : PE X C (tE p n W c)) (pc : plainA C = true) : PT X (.Compare A [op1, op2] [B, C] pos) (tB p n W (.chn o1 o2 a b c)) :=
  PTimp (pt_chain (cmpO_op h1).1 (cmpO_op h2).1 ha hb hc (mark_plain pc _)) fun σ H Q ⟨g, cc, sl, mm, r, h⟩ => chain_ok h1 h2 r h.val
end
end Mp
/-! Mp7: calls. -/
namespace Mp
open PySem PySem.Spec
open PyProof.Rows L2
/-- the addresses of what is lent -/
def lentA (ad : List Addr) (ks : List Nat) : List Addr := ks.map fun k => (ad[k]?).getD 0
theorem takeMu_len : ∀ {ks : List Nat} {mm bs : Mm}, takeMu mm ks = some bs → bs.length = ks.length
  | [], _, _, h => by simp only [takeMu, Option.some.injEq] at h; subst h; rfl
  | k :: ks, mm, bs, h => by
    simp only [takeMu] at h
    split at h
    · cases q : takeMu mm ks with
      | none => rw [q] at h; simp at h
      | some cs =>
        rw [q] at h
        simp only [Option.map_some, Option.some.injEq] at h
        subst h
        simp [takeMu_len q]
    · cases h
theorem takeMu_at : ∀ {ks : List Nat} {mm bs : Mm} {j k : Nat}, takeMu mm ks = some bs → ks[j]? = some k → ∃ c, mm[k]? = some (.mu c) ∧ bs[j]? = some (.mu c)
  | [], _, _, _, _, _, e => by simp at e
  | k0 :: ks, mm, bs, j, k, h, e => by
    simp only [takeMu] at h
    split at h
    · rename_i c0 e0
      cases q : takeMu mm ks with
      | none => rw [q] at h; simp at h
      | some cs =>
        rw [q] at h
        simp only [Option.map_some, Option.some.injEq] at h
        subst h
        cases j with
        | zero =>
          simp at e; subst e
          exact ⟨c0, e0, rfl⟩
        | succ j =>
          obtain ⟨c, h1, h2⟩ := takeMu_at q (by simpa using e)
          exact ⟨c, h1, by simpa using h2⟩
    · cases h
theorem takeMu_mu {mm : Mm} : ∀ {ks : List Nat} {bs : Mm}, takeMu mm ks = some bs → bs.all M.isMu = true
  | [], _, h => by simp only [takeMu, Option.some.injEq] at h; subst h; rfl
  | k :: ks, bs, h => by
    simp only [takeMu] at h
    split at h
    · cases q : takeMu mm ks with
      | none => rw [q] at h; simp at h
      | some cs =>
        rw [q] at h
        simp only [Option.map_some, Option.some.injEq] at h
        subst h
        rw [List.all_cons, takeMu_mu q]; rfl
    · cases h
theorem putMu_len : ∀ {ks : List Nat} {mm bs : Mm}, (putMu mm ks bs).length = mm.length
  | [], _, _ => by simp only [putMu]
  | k :: ks, mm, bs => by
    cases bs with
    | nil => simp only [putMu]
    | cons b bs => simp only [putMu]; rw [putMu_len]; simp
theorem putMu_out : ∀ {ks : List Nat} {mm bs : Mm} {i : Nat}, i ∉ ks → (putMu mm ks bs)[i]? = mm[i]?
  | [], _, _, _, _ => by simp only [putMu]
  | k :: ks, mm, bs, i, h => by
    cases bs with
    | nil => simp only [putMu]
    | cons b bs =>
      simp only [putMu]
      rw [putMu_out (fun z => h (List.mem_cons_of_mem _ z)), List.getElem?_set_ne (fun z => h (by simp [z]))]
theorem putMu_in : ∀ {ks : List Nat} {mm bs : Mm} {j k : Nat}, ks.Nodup → (∀ k ∈ ks, k < mm.length) → bs.length = ks.length → ks[j]? = some k → (putMu mm ks bs)[k]? = bs[j]?
  | [], _, _, _, _, _, _, _, e => by simp at e
  | k0 :: ks, mm, bs, j, k, hn, hl, hb, e => by
    cases bs with
    | nil => simp at hb
    | cons b bs =>
      simp only [putMu]
      rw [List.nodup_cons] at hn
      cases j with
      | zero =>
        simp at e; subst e
        rw [putMu_out hn.1, List.getElem?_set_self (hl _ (by simp))]; rfl
      | succ j =>
        have := putMu_in (mm := mm.set k0 b) (bs := bs) hn.2 (fun k hk => by simpa using hl k (by simp [hk])) (by simpa using hb) (show ks[j]? = some k by simpa using e)
        rw [this]; simp
section
variable {K : Kx} {ad : List Addr} {Z : Addr → Prop} {H : Hp}
theorem argsOf_rep : ∀ {ds : List D} {vs : List V} (pre : List Addr) (L : List Addr), RepL K ad Z H ds vs → ds.all okArg = true → L = pre ++ lentA ad (lentOf ds) → RepL K L Z H (argsOf pre.length ds) vs
  | [], _, pre, L, h, _, _ => by simp only [RepL] at h; subst h; exact RepL.nil
  | d :: ds, _, pre, L, h, ok, e => by
    simp only [RepL] at h
    obtain ⟨v, r, rfl, h1, h2⟩ := h
    rw [List.all_cons, Bool.and_eq_true] at ok
    by_cases hm : ∃ k, d = .m k
    · obtain ⟨k, rfl⟩ := hm
      have ea : argsOf pre.length (.m k :: ds) = .m pre.length :: argsOf (pre.length + 1) ds := rfl
      have el : lentOf (.m k :: ds) = k :: lentOf ds := rfl
      rw [ea]
      rw [el] at e
      simp only [RepV] at h1
      obtain ⟨a, ha, rfl⟩ := h1
      have e2 : L = (pre ++ [a]) ++ lentA ad (lentOf ds) := by rw [e]; simp [lentA, ha]
      refine RepL.cons ?_ ?_
      · simp only [RepV]
        exact ⟨a, by rw [e2]; simp, rfl⟩
      · have := argsOf_rep (pre ++ [a]) L h2 ok.2 e2
        simpa using this
    · have hp : pureD d = true := by
        cases d <;> first | exact ok.1 | exact (hm ⟨_, rfl⟩).elim
      have ea : argsOf pre.length (d :: ds) = d :: argsOf pre.length ds := by
        cases d <;> first | rfl | exact (hm ⟨_, rfl⟩).elim
      have el : lentOf (d :: ds) = lentOf ds := by
        cases d <;> first | rfl | exact (hm ⟨_, rfl⟩).elim
      rw [ea]
      rw [el] at e
      exact RepL.cons (RepV.pure L d v hp h1) (argsOf_rep pre L h2 ok.2 e)
theorem lent_at : ∀ {ds : List D} {vs : List V} {k : Nat}, RepL K ad Z H ds vs → k ∈ lentOf ds → ∃ a, ad[k]? = some a
  | [], _, _, _, e => by simp [lentOf] at e
  | d :: ds, _, k, h, e => by
    simp only [RepL] at h
    obtain ⟨v, r, rfl, h1, h2⟩ := h
    by_cases hm : ∃ k, d = .m k
    · obtain ⟨j, rfl⟩ := hm
      rcases List.mem_cons.mp (show k ∈ j :: lentOf ds from e) with q | q
      · subst q
        simp only [RepV] at h1
        obtain ⟨a, ha, _⟩ := h1
        exact ⟨a, ha⟩
      · exact lent_at h2 q
    · have el : lentOf (d :: ds) = lentOf ds := by
        cases d <;> first | rfl | exact (hm ⟨_, rfl⟩).elim
      rw [el] at e
      exact lent_at h2 e
theorem lentA_at {ks : List Nat} {j k : Nat} {a : Addr} (h : ks[j]? = some k) (ha : ad[k]? = some a) : (lentA ad ks)[j]? = some a := by
  unfold lentA
  rw [List.getElem?_map, h]
  simp [ha]
theorem lentA_of {ks : List Nat} {j : Nat} {a : Addr} (hk : ∀ k ∈ ks, ∃ a, ad[k]? = some a) (h : (lentA ad ks)[j]? = some a) : ∃ k, ks[j]? = some k ∧ ad[k]? = some a := by
  unfold lentA at h
  rw [List.getElem?_map] at h
  cases q : ks[j]? with
  | none => rw [q] at h; simp at h
  | some k =>
    rw [q] at h
    obtain ⟨b, hb⟩ := hk k (List.mem_of_getElem? q)
    simp only [Option.map_some, Option.some.injEq, hb, Option.getD_some] at h
    subst h
    exact ⟨k, rfl, hb⟩
theorem lentA_nodup : ∀ {ks : List Nat}, ad.Nodup → ks.Nodup → (∀ k ∈ ks, ∃ a, ad[k]? = some a) → (lentA ad ks).Nodup
  | [], _, _, _ => List.nodup_nil
  | k :: ks, ha, hn, hk => by
    rw [List.nodup_cons] at hn
    show ((ad[k]?).getD 0 :: lentA ad ks).Nodup
    obtain ⟨a, e⟩ := hk k (by simp)
    rw [e, Option.getD_some, List.nodup_cons]
    refine ⟨fun z => ?_, lentA_nodup ha hn.2 fun j hj => hk j (by simp [hj])⟩
    obtain ⟨j, hj⟩ := List.mem_iff_getElem?.mp z
    obtain ⟨k2, h1, h2⟩ := lentA_of (fun j hj => hk j (by simp [hj])) hj
    have := nd_ix ha e h2
    subst this
    exact hn.1 (List.mem_of_getElem? h1)
theorem RepM.pure {ad' : List Addr} {d : D} {a : Addr} (hp : pureD d = true) (h : RepM K ad Z H d a) : RepM K ad' Z H d a := by
  cases d <;> simp only [RepM] at h ⊢ <;> try exact h
  · obtain ⟨vs, e, r⟩ := h
    exact ⟨vs, e, RepL.pure _ _ _ (by simpa [pureD] using hp) r⟩
  · obtain ⟨kvs, e, h1, h2, r1, r, nd⟩ := h
    simp only [pureD, Bool.and_eq_true] at hp
    exact ⟨kvs, e, h1, h2, RepL.pure _ _ _ hp.1 r1, RepL.pure _ _ _ hp.2 r, nd⟩
  · obtain ⟨o, kvs, e, h1, h2, r1, r, nd⟩ := h
    simp only [pureD, Bool.and_eq_true] at hp
    exact ⟨o, kvs, e, h1, h2, RepL.pure _ _ _ hp.1 r1, RepL.pure _ _ _ hp.2 r, nd⟩
  · obtain ⟨dx, vs, e, r, hl⟩ := h
    exact ⟨dx, vs, e, RepL.pure _ _ _ (by simpa [pureD] using hp) r, hl⟩
theorem ObjR.pure {ad' : List Addr} {a : Addr} {x : M} (h : ObjR K ⟨ad, Z⟩ H a x) : ObjR K ⟨ad', Z⟩ H a x := by
  cases x with
  | mu d => exact ⟨h.1, h.2.1, RepM.pure h.2.1 h.2.2⟩
  | fz d => exact ⟨h.1, h.2.1, RepV.pure _ _ _ h.2.1 h.2.2⟩
end
section
variable {K : Kx} {g : Gh} {c : Cf} {sl : Sl} {mm bs : Mm} {σ : L2.St} {H : Hp} {ds : List D} {vs : List V}
/-- what a callee sees -/
theorem Rep.lend (r : Rep K g c sl mm σ H) (rl : RepL K c.ad c.Z H ds vs) (hn : (lentOf ds).Nodup) (ht : takeMu mm (lentOf ds) = some bs) :
    Rep K ⟨H, c.Z, lentA c.ad (lentOf ds)⟩ ⟨lentA c.ad (lentOf ds), c.Z⟩ [] bs [] H := by
  have hk : ∀ k ∈ lentOf ds, ∃ a, c.ad[k]? = some a := fun k hk => lent_at rl hk
  refine ⟨rfl, by rw [takeMu_len ht]; simp [lentA], fun i d e => by simp at e, fun j a x e1 e2 => ?_, lentA_nodup r.nd hn hk, fun b o e _ => e, fun a z => .inl z, r.trk, ⟨[], by simp⟩, fun a ha => .inl ha⟩
  obtain ⟨k, h1, h2⟩ := lentA_of hk e1
  obtain ⟨d, h3, h4⟩ := takeMu_at ht h1
  rw [e2] at h4; cases h4
  exact ObjR.pure (r.obj k a _ h2 h3)
/-- behind a call: what the callee did, at the caller -/
theorem Rep.back {c' : Cf} {H' : Hp} {bs' new : Mm} (r : Rep K g c sl mm σ H) (hk : ∀ k ∈ lentOf ds, ∃ a, c.ad[k]? = some a) (hn : (lentOf ds).Nodup) (hb : bs'.length = (lentOf ds).length)
    (l : Le (lentA c.ad (lentOf ds)) c.Z H c'.ad c'.Z H') (r' : Rep K ⟨H, c.Z, lentA c.ad (lentOf ds)⟩ c' [] (bs' ++ new) [] H') :
    ∃ c2 : Cf, c.Le H c2 H' ∧ Rep K g c2 sl (putMu mm (lentOf ds) bs' ++ new) σ H' ∧ c2.Z = c'.Z ∧ ∀ (d : D) (v : V), RepV K c'.ad c'.Z H' d v → ∀ d', backD (lentOf ds) mm.length d = some d' → RepV K c2.ad c2.Z H' d' v := by
  obtain ⟨ext, he⟩ := l.ad
  have hL : (lentA c.ad (lentOf ds)).length = (lentOf ds).length := by simp [lentA]
  have le2 : c.Le H ⟨c.ad ++ ext, c'.Z⟩ H' := ⟨⟨ext, rfl⟩, l.z, l.rd⟩
  have klt : ∀ k ∈ lentOf ds, k < mm.length := fun k h => by
    obtain ⟨a, ha⟩ := hk k h
    rw [← r.lenA]; exact (List.getElem?_eq_some_iff.mp ha).1
  have extA : ∀ a ∈ ext, H a = none ∨ a ∈ lentA c.ad (lentOf ds) := fun a ha => (r'.adn a (by rw [he]; exact List.mem_append_right _ ha)).elim .inr .inl
  have nd' := r'.nd
  rw [he] at nd'
  have extN : ∀ a ∈ ext, H a = none := fun a ha => (extA a ha).elim id fun z => ((List.nodup_append.mp nd').2.2 a z a ha rfl).elim
  have lc : ∀ a ∈ lentA c.ad (lentOf ds), a ∈ c.ad := fun a ha => by
    obtain ⟨j, hj⟩ := List.mem_iff_getElem?.mp ha
    obtain ⟨k, _, h2⟩ := lentA_of hk hj
    exact List.mem_of_getElem? h2
  have lenE : ext.length = new.length := by
    have h1 := r'.lenA
    rw [he, List.length_append, List.length_append, hL] at h1
    omega
  have inExt : ∀ a ∈ c'.ad, a ∈ lentA c.ad (lentOf ds) ∨ a ∈ ext := fun a ha => by rw [he] at ha; exact List.mem_append.mp ha
  have back : ∀ (j : Nat) (v : V), RepV K c'.ad c'.Z H' (.m j) v → RepV K (c.ad ++ ext) c'.Z H' (backM (lentOf ds) mm.length j) v := fun j v rv => by
    simp only [RepV] at rv
    obtain ⟨a, ha, rfl⟩ := rv
    rw [he] at ha
    unfold backM
    by_cases hj : j < (lentOf ds).length
    · have q : (lentOf ds)[j]? = some (lentOf ds)[j] := List.getElem?_eq_getElem hj
      rw [List.getElem?_append_left (by rw [hL]; exact hj)] at ha
      obtain ⟨k, h1, h2⟩ := lentA_of hk ha
      rw [h1]
      simp only [RepV]
      exact ⟨a, by rw [List.getElem?_append_left (List.getElem?_eq_some_iff.mp h2).1]; exact h2, rfl⟩
    · have q : (lentOf ds)[j]? = none := List.getElem?_eq_none_iff.mpr (by omega)
      rw [q]
      rw [List.getElem?_append_right (by rw [hL]; omega), hL] at ha
      simp only [RepV]
      refine ⟨a, ?_, rfl⟩
      rw [List.getElem?_append_right (by rw [r.lenA]; omega), r.lenA]
      rw [← ha]; congr 1; omega
  refine ⟨⟨c.ad ++ ext, c'.Z⟩, le2, ⟨r.lenS, ?_, fun i d e => ?_, fun i a x e1 e2 => ?_, ?_, fun b o e1 e2 => ?_, fun a z => ?_, r'.trk, ?_, fun a ha => ?_⟩, rfl, fun d v rv d' e => ?_⟩
  · simp [putMu_len, r.lenA, lenE]
  · obtain ⟨v, q, rv⟩ := r.slot i d e
    exact ⟨v, q, RepV.le le2 d v rv⟩
  · by_cases hi : i < c.ad.length
    · have e1' : c.ad[i]? = some a := by rw [← e1]; exact (List.getElem?_append_left hi).symm
      have e2' : (putMu mm (lentOf ds) bs')[i]? = some x := by rw [← e2]; exact (List.getElem?_append_left (by rw [putMu_len, ← r.lenA]; exact hi)).symm
      by_cases hm : i ∈ lentOf ds
      · obtain ⟨j, hj⟩ := List.mem_iff_getElem?.mp hm
        rw [putMu_in hn klt hb hj] at e2'
        have ha := lentA_at hj e1'
        have h1 : c'.ad[j]? = some a := by rw [he, List.getElem?_append_left (List.getElem?_eq_some_iff.mp ha).1]; exact ha
        have h2 : (bs' ++ new)[j]? = some x := by rw [List.getElem?_append_left (List.getElem?_eq_some_iff.mp e2').1]; exact e2'
        exact ObjR.pure (r'.obj j a x h1 h2)
      · rw [putMu_out hm] at e2'
        have na : a ∉ lentA c.ad (lentOf ds) := fun z => by
          obtain ⟨j, hj⟩ := List.mem_iff_getElem?.mp z
          obtain ⟨k, h1, h2⟩ := lentA_of hk hj
          have := nd_ix r.nd e1' h2
          subst this
          exact hm (List.mem_of_getElem? h1)
        have hth : H a ≠ none := r.adTrk (List.mem_of_getElem? e1')
        have nc : a ∉ c'.ad := fun z => (inExt a z).elim na fun q => hth (extN a q)
        have ob := r.obj i a x e1' e2'
        cases x with
        | mu d =>
          refine ⟨fun z => ?_, ob.2.1, ?_⟩
          · rcases r'.zin a z with q | q | q
            · exact ob.1 q
            · exact hth q
            · exact na q
          · refine RepM.le le2 ?_ ob.2.2
            cases q : H a with
            | none => exact (hth q).elim
            | some o => exact r'.frm a o q nc
        | fz d => exact ⟨l.z _ ob.1, ob.2.1, RepV.le le2 _ _ ob.2.2⟩
    · have e1' : ext[i - c.ad.length]? = some a := by rw [← e1]; exact (List.getElem?_append_right (by omega)).symm
      have e2' : new[i - mm.length]? = some x := by
        rw [← e2, List.getElem?_append_right (by rw [putMu_len, ← r.lenA]; omega), putMu_len]
      have h1 : c'.ad[(lentOf ds).length + (i - c.ad.length)]? = some a := by
        rw [he, List.getElem?_append_right (by rw [hL]; omega), hL, ← e1']; congr 1; omega
      have h2 : (bs' ++ new)[(lentOf ds).length + (i - c.ad.length)]? = some x := by
        rw [List.getElem?_append_right (by omega), ← e2', r.lenA]; congr 1; omega
      exact ObjR.pure (r'.obj _ a x h1 h2)
  · exact List.nodup_append.mpr ⟨r.nd, (List.nodup_append.mp nd').2.1, fun a ha b hb e => by subst e; exact r.adTrk ha (extN a hb)⟩
  · have hb0 : b ∉ c.ad := fun z => e2 (List.mem_append_left _ z)
    have hb := r.frm b o e1 hb0
    exact r'.frm b o hb fun z => (inExt b z).elim (fun q => hb0 (lc b q)) fun q => by rw [extN b q] at hb; cases hb
  · rcases r'.zin a z with q | q | q
    · exact r.zin a q
    · exact .inr (.inl (r.fresh0 q))
    · exact (r.adn a (lc a q)).elim (fun w => .inr (.inr w)) fun w => .inr (.inl w)
  · obtain ⟨l0, e⟩ := r.pre
    exact ⟨l0 ++ ext, by rw [e, List.append_assoc]⟩
  · rcases List.mem_append.mp ha with ha | ha
    · exact r.adn a ha
    · exact .inr (r.fresh0 (extN a ha))
  · unfold backD at e
    cases hp : pureD d with
    | true =>
      simp only [hp, Option.some.injEq] at e
      subst e
      exact RepV.pure _ _ _ hp rv
    | false =>
      simp only [hp] at e
      split at e
      · rename_i j
        simp only [Option.some.injEq] at e
        subst e
        exact back j v rv
      · rename_i x j
        split at e
        · rename_i hx
          simp only [Option.some.injEq] at e
          subst e
          simp only [RepV] at rv
          obtain ⟨a, vs, rfl, t, rl⟩ := rv
          simp only [RepL] at rl
          obtain ⟨v1, r1, rfl, h1, v2, r2, rfl, h2, rfl⟩ := rl
          simp only [RepV]
          refine ⟨a, [v1, v2], rfl, t, RepL.cons (RepV.pure _ _ _ hx h1) (RepL.one ?_)⟩
          exact back j v2 (by simp only [RepV]; exact h2)
        · cases e
      · cases e
end
section
variable {p : Pg} {n : Nat} {N : List Str} {sc : Scope} {W : WX} {X : Cx} {pos : Pos}
theorem call_ok {g : Gh} {c : Cf} {sl : Sl} {mm : Mm} {σ : L2.St} {H : Hp} {Q : VK} {f : Nat} {ds : List D} {vs : List V} {E : XK} (r : Rep p.K g c sl mm σ H) (rl : RepL p.K c.ad c.Z H ds vs) (hl : vs.length = (p.T f).np)
    (h : PostE p g c sl σ H W Q (callS (p.cf n f) ds mm)) (hE : ∀ (x : Ex) (dd : Option Addr) (H' : Hp), (∃ mm', callS (p.cf n f) ds mm = some (.ex x mm')) → W (.ref (p.ea x.cls)) dd σ H' → E (.ref (p.ea x.cls)) dd H') :
    ∃ c ds bs, Rep p.K ⟨H, c.Z, c.ad⟩ c [] bs [] H ∧ bs.all M.isMu = true ∧ RepL p.K c.ad c.Z H ds vs ∧ vs.length = (p.T f).np ∧
      (match p.cf n f ds bs with
      | none => False
      | some (.rt d bs' new) => ∀ c' v H', c.Le H c' H' → Rep p.K ⟨H, c.Z, c.ad⟩ c' [] (bs' ++ new) [] H' → RepV p.K c'.ad c'.Z H' d v → Q v H'
      | some (.ex x bs') => ∀ c' dd H', c.Le H c' H' → Rep p.K ⟨H, c.Z, c.ad⟩ c' [] bs' [] H' → RepX p.K c'.Z H' x dd → E (.ref (p.ea x.cls)) dd H') := by
  unfold callS at h hE
  cases q0 : (ds.all okArg && decide (lentOf ds).Nodup) with
  | false => simp only [q0] at h; exact h.elim
  | true =>
    simp only [q0, if_true] at h hE
    rw [Bool.and_eq_true] at q0
    have hn := of_decide_eq_true q0.2
    cases q1 : takeMu mm (lentOf ds) with
    | none => simp only [q1] at h; exact h.elim
    | some bs =>
      simp only [q1] at h hE
      have hk : ∀ k ∈ lentOf ds, ∃ a, c.ad[k]? = some a := fun k hk => lent_at rl hk
      refine ⟨⟨lentA c.ad (lentOf ds), c.Z⟩, argsOf 0 ds, bs, r.lend rl hn q1, takeMu_mu q1, argsOf_rep [] _ rl q0.1 rfl, hl, ?_⟩
      cases q2 : p.cf n f (argsOf 0 ds) bs with
      | none => simp only [q2] at h; exact h.elim
      | some fr =>
        simp only [q2] at h hE
        cases fr with
        | rt d bs' new =>
          intro c' v H' l' r' rv
          by_cases hb : bs'.length = (lentOf ds).length
          · simp only [hb, if_true] at h
            obtain ⟨c2, l2, r2, _, hv⟩ := r.back hk hn hb l' r'
            cases q3 : backD (lentOf ds) mm.length d with
            | none => simp only [q3] at h; exact h.elim
            | some d' =>
              simp only [q3] at h
              exact h c2 v H' l2 r2 (hv d v rv d' q3)
          · simp only [hb, if_false] at h; exact h.elim
        | ex x bs' =>
          intro c' dd H' l' r' rx
          by_cases hb : bs'.length = (lentOf ds).length
          · simp only [hb, if_true] at h hE
            obtain ⟨c2, l2, r2, ez, _⟩ := r.back (new := []) hk hn hb l' (by simpa using r')
            exact hE x dd H' ⟨_, rfl⟩ (h c2 dd H' l2 (by simpa using r2) (by rw [ez]; exact rx))
          · simp only [hb, if_false] at h; exact h.elim
def Es.len : Es → Nat
  | .nil => 0
  | .cons _ es => es.len + 1
theorem semEs_len : ∀ {es : Es} {sl : Sl} {mm mm' : Mm} {ds : List D}, semEs p.gv (p.cf n) es sl mm = some (.ok ds mm') → ds.length = es.len
  | .nil, sl, mm, mm', ds, h => by
    simp only [semEs, Option.some.injEq, RL.ok.injEq] at h
    rw [← h.1]; rfl
  | .cons e es, sl, mm, mm', ds, h => by
    simp only [semEs] at h
    split at h
    · rename_i d mm1 q
      split at h
      · rename_i ds' mm2 q2
        simp only [Option.some.injEq, RL.ok.injEq] at h
        rw [← h.1, List.length_cons, semEs_len q2]; rfl
      · rename_i q2
        exact (q2 _ _ h).elim
    · cases h
    · cases h
/-- f(e, ..) -/
theorem s_call (o : XOk p n N sc W X) {a : Expr} {as : List Expr} {f : Nat} {es : Es} {p0 : Pos} (hd : (p.dom f && p.gdf f) = true) (hg : glB sc (p.fn f) = true) (hl : es.len = (p.T f).np) (ha : PA X (a :: as) (tEs p n W es)) (pl : (a :: as).all plainA = true) : PE X (.Call (.Name (p.fn f) p0) (a :: as) [] pos) (tE p n W (.call f es)) := by
  rw [Bool.and_eq_true] at hd
  obtain ⟨hk, fd, ps, hps, hb, _, F⟩ := o.fns f hd.1
  obtain ⟨hpos, hm⟩ := o.fng f hd.2
  have hb := hb hpos
  rw [List.all_cons, Bool.and_eq_true] at pl
  have hK := o.K
  have hM := o.mg
  refine PEimp (pe_callS (E := WE W) (by rw [hK, hM]; exact F) (o.room.mono (by omega)) (o.gl hg) (by rw [hM]; exact hm) (by rw [hK]; exact hk) (by rw [hK]; exact hb) (fun σ => passAt o.takes σ) ha (nm_deb (gl_nm hg)) (star_plain pl.1 _ _) (star_none pl.2 _ _)) fun σ H Q ⟨g, c, sl, mm, r, h⟩ => ?_
  simp only [semE] at h
  refine ⟨g, c, sl, mm, r, ?_⟩
  cases q : semEs p.gv (p.cf n) es sl mm with
  | none => rw [q] at h; exact h.elim
  | some x =>
    rw [q] at h
    cases x with
    | ex x mm1 => exact h
    | ok ds mm1 => exact fun c1 vs H1 l1 r1 rl => call_ok r1 rl (by rw [rl.len, semEs_len q]; exact hl) (PostE.from h l1) fun x dd H' _ hw => hw
theorem pass_no {X : Cx} : Passes (L2.CX X.prog X.w) X (fun _ _ _ => False) := fun pins σ H s e s' I hc => by
  obtain ⟨_, _, _, _, _, _, _, _, _, _, _, _, z⟩ := hc
  exact z.elim
/-- f() -/
theorem s_call0 (o : XOk p n N sc W X) {f : Nat} {p0 : Pos} (hd : (p.dom f && p.gdf f) = true) (hg : glB sc (p.fn f) = true) (hl : (p.T f).np = 0) : PE X (.Call (.Name (p.fn f) p0) [] [] pos) (tE p n W (.call0 f)) := by
  rw [Bool.and_eq_true] at hd
  obtain ⟨hk, fd, ps, hps, hb, _, F⟩ := o.fns f hd.1
  obtain ⟨hpos, hm⟩ := o.fng f hd.2
  have hb := hb hpos
  have hK := o.K
  have hM := o.mg
  refine PEimp (pe_call0 (E := fun _ _ _ => False) (dvs := []) (by rw [hK, hM]; exact F) (o.room.mono (by omega)) (o.gl hg) (by rw [hM]; exact hm) (by rw [hK]; exact hk) (by rw [hK]; exact hb) .nil pass_no (nm_deb (gl_nm hg))) fun σ H Q ⟨g, c, sl, mm, r, h⟩ => ?_
  simp only [semE] at h
  have h' : PostE p g c sl σ H (fun _ _ _ _ => False) Q (callS (p.cf n f) [] mm) := by
    split at h
    · rename_i q; rw [q]; exact h
    · exact h.elim
  exact call_ok (E := fun _ _ _ => False) r RepL.nil (by rw [hl]; rfl) h' fun x dd H' ⟨mm', q⟩ _ => by simp only [q] at h; exact h.elim
end
end Mp
/-! Mp7b: instances: attributes, classes, calls of own methods by any words; exceptions as values. -/
namespace Mp
open PySem PySem.Spec
open PyProof.Rows L2
theorem zip_look {N : List Str} (nd : N.Nodup) : ∀ {vs : List V} {j : Nat} {x : Str} {v : V}, N[j]? = some x → vs[j]? = some v → (N.zip vs).lookup x = some v := by
  induction N with
  | nil => intro vs j x v e; simp at e
  | cons y ys ih =>
    intro vs j x v e1 e2
    rw [List.nodup_cons] at nd
    cases vs with
    | nil => simp at e2
    | cons w ws =>
      cases j with
      | zero =>
        simp only [List.getElem?_cons_zero, Option.some.injEq] at e1 e2
        subst e1; subst e2
        simp [List.lookup]
      | succ j =>
        simp only [List.getElem?_cons_succ] at e1 e2
        have hne : (x == y) = false := by
          rw [beq_eq_false_iff_ne]
          intro h; subst h
          exact nd.1 (List.mem_of_getElem? e1)
        rw [List.zip_cons_cons, List.lookup_cons, hne]
        exact ih nd.2 e1 e2
theorem zip_none {N : List Str} : ∀ {vs : List V} {x : Str}, x ∉ N → (N.zip vs).lookup x = none := by
  induction N with
  | nil => intro vs x _; rfl
  | cons y ys ih =>
    intro vs x h
    cases vs with
    | nil => rfl
    | cons w ws =>
      have hne : (x == y) = false := by
        rw [beq_eq_false_iff_ne]
        intro e; subst e
        exact h (by simp)
      rw [List.zip_cons_cons, List.lookup_cons, hne]
      exact ih fun z => h (by simp [z])
/-- a field is stored: there already, or the next one -/
theorem zip_put {N : List Str} (nd : N.Nodup) : ∀ {vs : List V} {j : Nat} {x : Str} (v : V), N[j]? = some x → (j < vs.length → putF x v (N.zip vs) = N.zip (vs.set j v)) ∧ (j = vs.length → putF x v (N.zip vs) = N.zip (vs ++ [v])) := by
  induction N with
  | nil => intro vs j x v e; simp at e
  | cons y ys ih =>
    intro vs j x v e1
    rw [List.nodup_cons] at nd
    cases vs with
    | nil =>
      refine ⟨fun h => by simp at h, fun h => ?_⟩
      have : j = 0 := by simpa using h
      subst this
      simp only [List.getElem?_cons_zero, Option.some.injEq] at e1
      subst e1
      simp [putF]
    | cons w ws =>
      cases j with
      | zero =>
        simp only [List.getElem?_cons_zero, Option.some.injEq] at e1
        subst e1
        refine ⟨fun _ => ?_, fun h => by simp at h⟩
        simp [putF]
      | succ j =>
        simp only [List.getElem?_cons_succ] at e1
        have hne : ¬ y = x := fun h => by
          subst h
          exact nd.1 (List.mem_of_getElem? e1)
        obtain ⟨h1, h2⟩ := ih nd.2 (vs := ws) v e1
        refine ⟨fun h => ?_, fun h => ?_⟩
        · rw [List.zip_cons_cons]
          simp only [putF, if_neg hne, List.set_cons_succ, List.zip_cons_cons]
          rw [h1 (by simpa using h)]
        · rw [List.zip_cons_cons]
          simp only [putF, if_neg hne, List.cons_append, List.zip_cons_cons]
          rw [h2 (by simpa using h)]
section
variable {p : Pg} {n : Nat} {N : List Str} {sc : Scope} {W : WX} {X : Cx} {A B : Expr} {a b : E} {pos : Pos}
/-- an instance -/
theorem Rep.ins_at {K : Kx} {g : Gh} {c : Cf} {sl : Sl} {mm : Mm} {σ : L2.St} {H : Hp} {k i : Nat} {v : V} {fs : List D} (r : Rep K g c sl mm σ H) (rv : RepV K c.ad c.Z H (.m k) v) (e : mm[k]? = some (.mu (.obj i fs))) :
    ∃ q dx vs, c.ad[k]? = some q ∧ v = .ref q ∧ H q = some (.ins (K.xa i) dx ((K.cf i).zip vs)) ∧ RepL K c.ad c.Z H fs vs ∧ pureDs fs = true ∧ fs.length ≤ (K.cf i).length := by
  simp only [RepV] at rv
  obtain ⟨q, hq, rfl⟩ := rv
  have o := r.obj k q _ hq e
  obtain ⟨dx, vs, h1, h2, h3⟩ := o.2.2
  exact ⟨q, dx, vs, hq, rfl, h1, h2, by simpa [pureD] using o.2.1, h3⟩
theorem inst_of {c : Nat} {mm : Mm} {d : D} (h : isInst c mm d = true) : ∃ k fs, d = .m k ∧ mm[k]? = some (.mu (.obj c fs)) := by
  unfold isInst at h
  split at h
  · split at h
    · rename_i k c' fs e
      have : c' = c := by simpa using h
      subst this
      exact ⟨_, _, rfl, e⟩
    · cases h
  · cases h
theorem Rep.inst {K : Kx} {g : Gh} {c : Cf} {sl : Sl} {mm : Mm} {σ : L2.St} {H : Hp} {i : Nat} {d : D} {v : V} (r : Rep K g c sl mm σ H) (rv : RepV K c.ad c.Z H d v) (h : isInst i mm d = true) : ∃ q dx vs, v = .ref q ∧ H q = some (.ins (K.xa i) dx ((K.cf i).zip vs)) := by
  obtain ⟨k, fs, rfl, e⟩ := inst_of h
  obtain ⟨q, dx, vs, _, rfl, h1, _⟩ := r.ins_at rv e
  exact ⟨q, dx, vs, rfl, h1⟩
/-- a.f -/
theorem s_ifl (o : XOk p n N sc W X) {c j : Nat} {x : Str} (hc : p.cdom c = true) (hx : (p.K.cf c)[j]? = some x) (ha : PE X A (tE p n W a)) (pa : plainA A = true) (na : notSuper A = true) : PE X (.Attribute A x pos) (tE p n W (.un (.ifl c j) a)) := by
  have F := o.own.cls c hc
  refine PEimp (pe_fld ha (base_plain pa na _ _)) fun σ H Q ⟨g, cc, sl, mm, r, h⟩ => ?_
  simp only [semE] at h
  refine ⟨g, cc, sl, mm, r, PostE.bind h fun c1 d mm1 v H1 l1 r1 rv h1 => ?_⟩
  simp only [unS] at h1
  split at h1
  · split at h1
    · rename_i k c' fs e
      split at h1
      · rename_i hcc
        have : c' = c := by simpa using hcc
        subst this
        split at h1
        · rename_i y ey
          obtain ⟨q, dx, vs, hq, rfl, h2, rl, hp, hl⟩ := r1.ins_at rv e
          obtain ⟨w, hw, rw'⟩ := rl.get ey
          rw [o.K]
          exact ⟨q, p.K.xa c', dx, _, w, rfl, h2, F.cls, F.noa x (List.mem_of_getElem? hx), zip_look F.nd hx hw, PostE.ok0 h1 r1 rw'⟩
        · exact h1.elim
      · exact h1.elim
    · exact h1.elim
  · exact h1.elim
/-- C.x -/
theorem s_ccn (o : XOk p n N sc W X) {g0 c : Nat} {x : Str} {p1 : Pos} (hc : p.con g0 = some (c, x)) (hg : glB sc (p.cn c) = true) : PE X (.Attribute (.Name (p.cn c) p1) x pos) (tE p n W (.ccn g0)) := by
  obtain ⟨hd, hp, mc, u, v, r, k, rv⟩ := o.own.con g0 c x hc
  have F := o.own.cls c hd
  refine PEimp (ClX.pe_cval (pe_glob (o.gl hg) (by rw [o.mg]; exact F.mg) (show RelV (.ref (p.K.xa c)) _ from rfl) (nm_deb (gl_nm hg))) rfl) fun σ H Q ⟨g, cc, sl, mm, rp, h⟩ => ?_
  simp only [semE] at h
  rw [o.K]
  exact ⟨p.K.xa c, mc, v, u, rfl, r, k, PostE.ok0 h rp (repV_settled hp (rv H))⟩
/-- isinstance(a, C) -/
theorem s_isc (o : XOk p n N sc W X) {c : Nat} {x : Str} {p1 p2 : Pos} (hx : x = "isinstance") (hg : glB sc x = true) (hm : p.mg x = none) (hc : p.cdom c = true) (hg2 : glB sc (p.cn c) = true) (ha : PE X A (tE p n W a)) (pa : plainA A = true) :
    PE X (.Call (.Name x p1) [A, .Name (p.cn c) p2] [] pos) (tE p n W (.un (.isc c) a)) := by
  subst hx
  have F := o.own.cls c hc
  have hy : PE X (.Name (p.cn c) p2) (tC (.ref (p.K.xa c))) := pe_glob (o.gl hg2) (by rw [o.mg]; exact F.mg) (show RelV (.ref (p.K.xa c)) _ from rfl) (nm_deb (gl_nm hg2))
  refine PEimp (pe_callB call_isi (o.gl hg) (by rw [o.mg]; exact hm) (by decide +kernel) (pa_cons ha (pa_cons hy pa_nil (star_plain rfl _ _)) (star_plain pa _ _)) (nm_nm (gl_nm hg)) (nm_deb (gl_nm hg)) (star_plain pa _ _) (star_none (by simp [plainA]) _ _)) fun σ H Q ⟨g, cc, sl, mm, r, h⟩ => ?_
  simp only [semE] at h
  refine ⟨g, cc, sl, mm, r, PostE.bind h fun c1 d mm1 v H1 l1 r1 rv h1 => ?_⟩
  simp only [unS] at h1
  rw [o.K]
  split at h1
  · split at h1
    · rename_i k c' fs e
      split at h1
      · rename_i hcc
        have : c' = c := by simpa using hcc
        subst this
        obtain ⟨q, dx, vs, hq, rfl, h2, rl, hp, hl⟩ := r1.ins_at rv e
        exact ⟨.ref q, .ref (p.K.xa c'), _, _, true, rfl, .own _, .base (.ins h2 F.cls F.ha F.hn F.htk F.hm), F.kitS, PostE.ok0 h1 r1 okB⟩
      · exact h1.elim
    · exact h1.elim
  · have rv0 := rv
    simp only [RepV] at rv
    obtain ⟨q, vs, rfl, t, rl⟩ := rv
    exact ⟨.ref q, .ref (p.K.xa c), _, _, false, rfl, .own _, tyx_tup t.sq, F.kit, PostE.ok0 h1 r1 okB⟩
  · exact h1.elim
/-! ### own methods -/
theorem few_n {es : List Expr} (h : es.all plainA = true) (hl : es.length < 30) (env : Env) (pos : Pos) : methodCallForm (es.length + ([] : List Keyword).length) (backTo pos (starEach es env)) (backToKw pos (keywordEach [] env)) = true := by
  have e := star_none h env pos
  unfold methodCallForm
  rw [Bool.and_eq_true, Bool.and_eq_true]
  refine ⟨⟨?_, rfl⟩, ?_⟩
  · rw [List.all_eq_true]
    rw [List.any_eq_false] at e
    intro x hx
    simpa using e x hx
  · show decide (es.length + 0 + 0 < 30) = true
    simpa using hl
theorem call_sp {g : Gh} {c : Cf} {sl : Sl} {mm : Mm} {σ : L2.St} {H : Hp} {Q : VK} {f : Nat} {ds : List D} {vs : List V} {E : XK} (r : Rep p.K g c sl mm σ H) (rl : RepL p.K c.ad c.Z H ds vs) (hl : vs.length = (p.T f).np)
    (h : PostE p g c sl σ H W Q (callS (p.cf n f) ds mm)) (hE : ∀ (x : Ex) (dd : Option Addr) (H' : Hp), (∃ mm', callS (p.cf n f) ds mm = some (.ex x mm')) → W (.ref (p.ea x.cls)) dd σ H' → E (.ref (p.ea x.cls)) dd H') : spF p n f vs H Q E := call_ok r rl hl h hE
/-- .. where nothing is let out, and what comes back is looked at -/
theorem call_sp0 {g : Gh} {c : Cf} {sl : Sl} {mm : Mm} {σ : L2.St} {H : Hp} {Q Q' : VK} {f : Nat} {ds : List D} {vs : List V} {post : D → Mm → Option RE} (r : Rep p.K g c sl mm σ H) (rl : RepL p.K c.ad c.Z H ds vs) (hl : vs.length = (p.T f).np)
    (h : PostE p g c sl σ H W Q (match callS (p.cf n f) ds mm with | some (.ok d mm1) => post d mm1 | _ => none))
    (hp : ∀ c1 d mm1 v H1, c.Le H c1 H1 → Rep p.K g c1 sl mm1 σ H1 → RepV p.K c1.ad c1.Z H1 d v → PostE p g c1 sl σ H1 W Q (post d mm1) → Q' v H1) : spF p n f vs H Q' XNo := by
  refine call_sp (W := W) r rl hl (Q := Q') ?_ fun x dd H' ⟨mm', e⟩ _ => ?_
  · cases e : callS (p.cf n f) ds mm with
    | none => rw [e] at h; exact h.elim
    | some y =>
      rw [e] at h
      cases y with
      | ok d mm1 => exact fun c1 v H1 l1 r1 rv => hp c1 d mm1 v H1 l1 r1 rv (PostE.from h l1)
      | ex x mm1 => exact h.elim
  · rw [e] at h
    exact h.elim
structure FnF (p : Pg) (n : Nat) (X : Cx) (f : Nat) : Prop where
  ex : ∃ (fd : FuncData) (ps : List Str), ps.length = (p.T f).np ∧ Binds X.K fd ps [] ∧ FnOk X.prog X.w X.K X.mg X.base (L2.CX X.prog X.w) (lv n) (p.fa f) fd ps (spF p n f)
theorem XOk.fnF (o : XOk p n N sc W X) {f : Nat} (hd : p.dom f = true) (hk : p.kbs f = []) : FnF p n X f := by
  obtain ⟨_, fd, ps, hps, hb, _, F⟩ := o.fns f hd
  exact ⟨fd, ps, hps, by rw [o.K]; exact hb hk, by rw [o.K, o.mg]; exact F⟩
theorem XOk.passes (o : XOk p n N sc W X) (σ : L2.St) : PassesAt (L2.CX X.prog X.w) X σ (WE W σ) := passAt o.takes σ
/-- the reading of an own method's operands -/
theorem opc_es {g : Gh} {c1 : Cf} {sl : Sl} {mm1 : Mm} {σ : L2.St} {H1 : Hp} {Q : VK} {es : Es} {F : D → List D → Mm → Option RE} {d : D} {R : List V → Hp → Prop}
    (h1 : PostE p g c1 sl σ H1 W Q (match semEs p.gv (p.cf n) es sl mm1 with | some (.ok ds mm2) => F d ds mm2 | some (.ex x mm2) => some (.ex x mm2) | none => none))
    (hR : ∀ c2 ds mm2 vs H2, c1.Le H1 c2 H2 → Rep p.K g c2 sl mm2 σ H2 → RepL p.K c2.ad c2.Z H2 ds vs → ds.length = es.len → PostE p g c2 sl σ H2 W Q (F d ds mm2) → R vs H2) : PostL p g c1 sl σ H1 W R (semEs p.gv (p.cf n) es sl mm1) := by
  cases q : semEs p.gv (p.cf n) es sl mm1 with
  | none => rw [q] at h1; exact h1.elim
  | some y =>
    rw [q] at h1
    cases y with
    | ex x mm2 => exact h1
    | ok ds mm2 => exact fun c2 vs H2 l2 r2 rl => hR c2 ds mm2 vs H2 l2 r2 rl (semEs_len q) (PostE.from h1 l2)
theorem s_meth (o : XOk p n N sc W X) {c f : Nat} {es : Es} {e0 : Expr} {as : List Expr} {apos : Pos} (hmt : p.mt f = some (c, .fn)) (hA : PE X A (tE p n W a)) (pA : plainA A = true) (nA : notSuper A = true) (ha : PA X (e0 :: as) (tEs p n W es)) (pl : (e0 :: as).all plainA = true) (hl : es.len + 1 = (p.T f).np) (h30 : (e0 :: as).length < 30) (hline : (apos.endLine == pos.line) = true) :
    PE X (.Call (.Attribute A (p.fn f) apos) (e0 :: as) [] pos) (tE p n W (.opc .meth c f a es)) := by
  obtain ⟨hc, hd, hk, om, kp, hno⟩ := o.own.fn f c hmt
  have F := o.own.cls c hc
  obtain ⟨fd, ps, hps, hb, FO⟩ := (o.fnF hd hk).ex
  have hK := o.K
  have pl0 := pl
  rw [List.all_cons, Bool.and_eq_true] at pl0
  refine PEimp (pe_methOwn (E := WE W) hA (by rw [hK]; exact F.cls) (by rw [hK]; exact om) (by rw [hK]; exact kp) FO (o.room.mono (by omega)) hb o.passes ha (star_plain pl0.1 _ _) (star_none pl0.2 _ _) (meth_eval (base_plain pA nA _ _) (few_n pl h30 _ _) hline)) fun σ H Q ⟨g, cc, sl, mm, r, h⟩ => ?_
  simp only [semE] at h
  refine ⟨g, cc, sl, mm, r, PostE.bind h fun c1 d mm1 v H1 l1 r1 rv h1 => ?_⟩
  cases hi : isInst c mm1 d with
  | false => rw [if_pos (by simp [Op.recv, hi])] at h1; exact h1.elim
  | true =>
    rw [if_neg (by simp [hi])] at h1
    obtain ⟨q, dx, vs, rfl, e⟩ := r1.inst rv hi
    refine ⟨q, dx, _, rfl, e, zip_none hno, g, c1, sl, mm1, r1, opc_es h1 fun c2 ds mm2 ws H2 l2 r2 rl hds h2 => ?_⟩
    exact call_sp r2 (RepL.cons (RepV.le l2 _ _ rv) rl) (by rw [List.length_cons, rl.len, hds]; exact hl) h2 fun x dd H' _ hw => hw
theorem s_meth0 (o : XOk p n N sc W X) {c f : Nat} {apos : Pos} (hmt : p.mt f = some (c, .fn)) (hA : PE X A (tE p n W a)) (pA : plainA A = true) (nA : notSuper A = true) (hl : 1 = (p.T f).np) (hline : (apos.endLine == pos.line) = true) :
    PE X (.Call (.Attribute A (p.fn f) apos) [] [] pos) (tE p n W (.opc .meth c f a .nil)) := by
  obtain ⟨hc, hd, hk, om, kp, hno⟩ := o.own.fn f c hmt
  have F := o.own.cls c hc
  obtain ⟨fd, ps, hps, hb, FO⟩ := (o.fnF hd hk).ex
  have hK := o.K
  refine PEimp (pe_methOwn0 (E := WE W) hA (by rw [hK]; exact F.cls) (by rw [hK]; exact om) (by rw [hK]; exact kp) FO (o.room.mono (by omega)) hb o.passes (meth_eval (base_plain pA nA _ _) (few_n rfl (by simp) _ _) hline)) fun σ H Q ⟨g, cc, sl, mm, r, h⟩ => ?_
  simp only [semE] at h
  refine ⟨g, cc, sl, mm, r, PostE.bind h fun c1 d mm1 v H1 l1 r1 rv h1 => ?_⟩
  cases hi : isInst c mm1 d with
  | false => rw [if_pos (by simp [Op.recv, hi])] at h1; exact h1.elim
  | true =>
    rw [if_neg (by simp [hi])] at h1
    simp only [semEs] at h1
    obtain ⟨q, dx, vs, rfl, e⟩ := r1.inst rv hi
    refine ⟨q, dx, _, rfl, e, zip_none hno, ?_⟩
    exact call_sp r1 (RepL.one rv) hl h1 fun x dd H' _ hw => hw
theorem s_prop (o : XOk p n N sc W X) {c f : Nat} (hmt : p.mt f = some (c, .prop)) (hA : PE X A (tE p n W a)) (pA : plainA A = true) (nA : notSuper A = true) (hl : 1 = (p.T f).np) :
    PE X (.Attribute A (p.fn f) pos) (tE p n W (.opc .prop c f a .nil)) := by
  obtain ⟨hc, hd, hk, q0, hp⟩ := o.own.prop f c hmt
  have F := o.own.cls c hc
  obtain ⟨fd, ps, hps, hb, FO⟩ := (o.fnF hd hk).ex
  have hK := o.K
  refine PEimp (pe_propOwn (g := 0) hA (by rw [hK]; exact F.cls) (by rw [hK]; exact hp) FO (o.room.mono (by omega)) hb (base_plain pA nA _ _)) fun σ H Q ⟨g, cc, sl, mm, r, h⟩ => ?_
  simp only [semE] at h
  refine ⟨g, cc, sl, mm, r, PostE.bind h fun c1 d mm1 v H1 l1 r1 rv h1 => ?_⟩
  cases hi : isInst c mm1 d with
  | false => rw [if_pos (by simp [Op.recv, hi])] at h1; exact h1.elim
  | true =>
    rw [if_neg (by simp [hi])] at h1
    simp only [semEs, opS, hi, if_true] at h1
    obtain ⟨q, dx, vs, rfl, e⟩ := r1.inst rv hi
    refine ⟨q, dx, _, rfl, e, call_sp0 (post := fun d mm1 => some (.ok d mm1)) r1 (RepL.one rv) hl h1 fun c2 d2 mm2 v2 H2 l2 r2 rv2 h2 => h2 c2 v2 H2 .refl r2 rv2⟩
end
end Mp
/-! Mp7c: own methods by other words; classes called. -/
namespace Mp
open PySem PySem.Spec
open PyProof.Rows L2
section
variable {p : Pg} {n : Nat} {N : List Str} {sc : Scope} {W : WX} {X : Cx} {A B : Expr} {a b : E} {pos : Pos}
/-- a name of a local def's own, where an instance is called -/
theorem s_callO (o : XOk p n N sc W X) {c f : Nat} {es : Es} {e0 : Expr} {as : List Expr} {x : Str} {p1 : Pos} (hmt : p.mt f = some (c, .fn)) (hnm : p.fn f = "__call__") (hA : PE X (.Name x p1) (tE p n W a)) (ha : PA X (e0 :: as) (tEs p n W es)) (pl : (e0 :: as).all plainA = true) (hl : es.len + 1 = (p.T f).np) :
    PE X (.Call (.Name x p1) (e0 :: as) [] pos) (tE p n W (.opc .call c f a es)) := by
  obtain ⟨hc, hd, hk, om, kp, hno⟩ := o.own.fn f c hmt
  rw [hnm] at om
  have F := o.own.cls c hc
  obtain ⟨fd, ps, hps, hb, FO⟩ := (o.fnF hd hk).ex
  have hK := o.K
  rw [List.all_cons, Bool.and_eq_true] at pl
  refine PEimp (pe_callOwn (E := WE W) hA (by rw [hK]; exact om) FO (o.room.mono (by omega)) hb o.passes ha rfl (star_plain pl.1 _ _) (star_none pl.2 _ _)) fun σ H Q ⟨g, cc, sl, mm, r, h⟩ => ?_
  simp only [semE] at h
  refine ⟨g, cc, sl, mm, r, PostE.bind h fun c1 d mm1 v H1 l1 r1 rv h1 => ?_⟩
  cases hi : isInst c mm1 d with
  | false => rw [if_pos (by simp [Op.recv, hi])] at h1; exact h1.elim
  | true =>
    rw [if_neg (by simp [hi])] at h1
    obtain ⟨q, dx, vs, rfl, e⟩ := r1.inst rv hi
    refine ⟨q, rfl, g, c1, sl, mm1, r1, opc_es h1 fun c2 ds mm2 ws H2 l2 r2 rl hds h2 => ?_⟩
    simp only [opS] at h2
    cases hi2 : isInst c mm2 d with
    | false => simp only [hi2] at h2; exact h2.elim
    | true =>
      simp only [hi2, if_true] at h2
      obtain ⟨q', dx', vs', eq', e'⟩ := r2.inst (RepV.le l2 _ _ rv) hi2
      cases eq'
      try rw [hK]
      exact ⟨⟨dx', _, e'⟩, call_sp r2 (RepL.cons (RepV.le l2 _ _ rv) rl) (by rw [List.length_cons, rl.len, hds]; exact hl) h2 fun x dd H' _ hw => hw⟩
/-- o >> x -/
theorem s_shr (o : XOk p n N sc W X) {c f : Nat} (hmt : p.mt f = some (c, .fn)) (hnm : p.fn f = "__rshift__") (hA : PE X A (tE p n W a)) (hB : PE X B (tE p n W b)) (hl : 2 = (p.T f).np) : PE X (.BinOp A .RShift B pos) (tE p n W (.op2 .shr c f a b)) := by
  obtain ⟨hc, hd, hk, om, kp, hno⟩ := o.own.fn f c hmt
  rw [hnm] at om
  have F := o.own.cls c hc
  obtain ⟨fd, ps, hps, hb, FO⟩ := (o.fnF hd hk).ex
  have hK := o.K
  refine PEimp (pe_shrOwn (E := WE W) FO (o.room.mono (by omega)) (by rw [hK]; exact om) hb o.passes hA hB (by rw [hK]; exact F.sf) (by rw [hK]; exact F.rsh)) fun σ H Q ⟨g, cc, sl, mm, r, h⟩ => ?_
  simp only [semE] at h
  refine ⟨g, cc, sl, mm, r, PostE.bind h fun c1 d mm1 v H1 l1 r1 rv h1 => ?_⟩
  cases hi : isInst c mm1 d with
  | false => rw [if_pos (by simp [Op.recv, hi])] at h1; exact h1.elim
  | true =>
    rw [if_neg (by simp [hi])] at h1
    refine ⟨g, c1, sl, mm1, r1, PostE.bind h1 fun c2 d2 mm2 u H2 l2 r2 ru h2 => ?_⟩
    simp only [opS] at h2
    cases hi2 : isInst c mm2 d with
    | false => simp only [hi2] at h2; exact h2.elim
    | true =>
      simp only [hi2, if_true] at h2
      obtain ⟨q', dx', vs', eq', e'⟩ := r2.inst (RepV.le l2 _ _ rv) hi2
      subst eq'
      have rl := RepL.cons (RepV.le l2 _ _ rv) (RepL.one ru)
      try rw [hK]
      split at h2
      · rename_i xs hd2
        simp only [List.cons.injEq, and_true] at hd2
        subst hd2
        have hy : ∃ (b : Addr) (ys : List V), u = .ref b ∧ SqT p.K H2 b ys := by
          simp only [RepV] at ru
          obtain ⟨q3, ws, rfl, t, _⟩ := ru
          exact ⟨q3, ws, rfl, t.sq⟩
        obtain ⟨b', ys, rfl, t⟩ := hy
        exact ⟨q', dx', _, rfl, e', .inr ⟨b', ys, rfl, .inl t⟩, call_sp r2 rl hl h2 fun x dd H' _ hw => hw⟩
      · rename_i hd2
        simp only [List.cons.injEq, and_true] at hd2
        subst hd2
        have := repV_non ru
        subst this
        exact ⟨q', dx', _, rfl, e', .inl rfl, call_sp r2 rl hl h2 fun x dd H' _ hw => hw⟩
      · rename_i xs hd2
        simp only [List.cons.injEq, and_true] at hd2
        subst hd2
        have hy : ∃ (b : Addr) (ys : List V), u = .ref b ∧ SqL p.K H2 b ys := by
          simp only [RepV] at ru
          obtain ⟨q3, ws, rfl, t, _⟩ := ru
          exact ⟨q3, ws, rfl, t.sq⟩
        obtain ⟨b', ys, rfl, t⟩ := hy
        exact ⟨q', dx', _, rfl, e', .inr ⟨b', ys, rfl, .inr t⟩, call_sp r2 rl hl h2 fun x dd H' _ hw => hw⟩
      · exact h2.elim
theorem sub_plain {b : Expr} (h : plainA b = true) (x : Addr) (i : Value) : subscripted b true (.ref x) i = runValue (.builtin "lifetime.subscript" ⟨[.ref x, i], []⟩) := by
  cases b <;> first | rfl | cases h
/-- o[x] -/
theorem s_item (o : XOk p n N sc W X) {c f : Nat} (hmt : p.mt f = some (c, .fn)) (hnm : p.fn f = "__getitem__") (hA : PE X A (tE p n W a)) (hB : PE X B (tE p n W b)) (pB : plainA B = true) (hl : 2 = (p.T f).np) : PE X (.Subscript A B pos) (tE p n W (.op2 .item c f a b)) := by
  obtain ⟨hc, hd, hk, om, kp, hno⟩ := o.own.fn f c hmt
  rw [hnm] at om
  have F := o.own.cls c hc
  obtain ⟨fd, ps, hps, hb, FO⟩ := (o.fnF hd hk).ex
  have hK := o.K
  refine PEimp (pe_itemOwn (E := WE W) FO (o.room.mono (by omega)) (by rw [hK]; exact om) hb o.passes hA hB (sub_plain pB)) fun σ H Q ⟨g, cc, sl, mm, r, h⟩ => ?_
  simp only [semE] at h
  refine ⟨g, cc, sl, mm, r, PostE.bind h fun c1 d mm1 v H1 l1 r1 rv h1 => ?_⟩
  cases hi : isInst c mm1 d with
  | false => rw [if_pos (by simp [Op.recv, hi])] at h1; exact h1.elim
  | true =>
    rw [if_neg (by simp [hi])] at h1
    refine ⟨g, c1, sl, mm1, r1, PostE.bind h1 fun c2 d2 mm2 u H2 l2 r2 ru h2 => ?_⟩
    simp only [opS] at h2
    cases hi2 : isInst c mm2 d with
    | false => simp only [hi2] at h2; exact h2.elim
    | true =>
      simp only [hi2, if_true] at h2
      obtain ⟨q', dx', vs', eq', e'⟩ := r2.inst (RepV.le l2 _ _ rv) hi2
      subst eq'
      try rw [hK]
      exact ⟨q', dx', _, rfl, e', call_sp r2 (RepL.cons (RepV.le l2 _ _ rv) (RepL.one ru)) hl h2 fun x dd H' _ hw => hw⟩
/-- o == x -/
theorem s_eqO (o : XOk p n N sc W X) {c f : Nat} (hmt : p.mt f = some (c, .fn)) (hnm : p.fn f = "__eq__") (hA : PE X A (tE p n W a)) (hB : PE X B (tE p n W b)) (hl : 2 = (p.T f).np) : PC X .Eq A B (tE p n W (.op2 .eq c f a b)) := by
  obtain ⟨hc, hd, hk, om, kp, hno⟩ := o.own.fn f c hmt
  rw [hnm] at om
  have F := o.own.cls c hc
  obtain ⟨fd, ps, hps, hb, FO⟩ := (o.fnF hd hk).ex
  have hK := o.K
  refine PCimp (pc_of (op_eqOwn (C := p.K.xa c) FO (o.room.mono (by omega)) (by rw [hK]; exact om) hb (by rw [hK]; exact F.tup)) hA hB) fun σ H Q ⟨g, cc, sl, mm, r, h⟩ => ?_
  simp only [semE] at h
  refine ⟨g, cc, sl, mm, r, PostE.bind h fun c1 d mm1 v H1 l1 r1 rv h1 => ?_⟩
  cases hi : isInst c mm1 d with
  | false => rw [if_pos (by simp [Op.recv, hi])] at h1; exact h1.elim
  | true =>
    rw [if_neg (by simp [hi])] at h1
    refine ⟨g, c1, sl, mm1, r1, PostE.bind h1 fun c2 d2 mm2 u H2 l2 r2 ru h2 => ?_⟩
    simp only [opS] at h2
    cases hi2 : (isInst c mm2 d && eqArg c mm2 d2) with
    | false => rw [if_neg (by rw [hi2]; simp)] at h2; exact h2.elim
    | true =>
      rw [if_pos hi2] at h2
      rw [Bool.and_eq_true] at hi2
      obtain ⟨q', dx', vs', eq', e'⟩ := r2.inst (RepV.le l2 _ _ rv) hi2.1
      subst eq'
      try rw [hK]
      refine ⟨q', dx', _, rfl, e', ?_, call_sp0 (W := W) (Q := Q) (post := fun d mm1 => (match d with | .bl b => okE (.bl b) mm1 | _ => none)) r2 (RepL.cons (RepV.le l2 _ _ rv) (RepL.one ru)) hl ?_ fun c3 d3 mm3 v3 H3 l3 r3 rv3 h3 => ?_⟩
      · have h5 := hi2.2
        unfold eqArg at h5
        split at h5
        · simp only [RepV] at ru
          obtain ⟨q3, ws, rfl, t, _⟩ := ru
          exact .inr ⟨q3, ws, rfl, t.sq⟩
        · obtain ⟨q3, dx3, ws, rfl, e3⟩ := r2.inst ru h5
          exact .inl ⟨q3, dx3, _, rfl, e3⟩
      · cases q5 : callS (p.cf n f) [d, d2] mm2 with
        | none => rw [q5] at h2; exact h2.elim
        | some y =>
          rw [q5] at h2
          cases y with
          | ok d5 mm5 => cases d5 <;> first | exact h2 | exact h2.elim
          | ex x mm5 => exact h2.elim
      · cases d3 <;> simp only [] at h3 <;> try exact h3.elim
        have := repV_bl rv3
        subst this
        exact ⟨_, rfl, PostE.ok0 h3 r3 okB⟩
/-- x in o -/
theorem s_inO (o : XOk p n N sc W X) {c f : Nat} (hmt : p.mt f = some (c, .fn)) (hnm : p.fn f = "__contains__") (hA : PE X A (tE p n W a)) (hB : PE X B (tE p n W b)) (hl : 2 = (p.T f).np) : PC X .In A B (tE p n W (.op2 .inn c f a b)) := by
  obtain ⟨hc, hd, hk, om, kp, hno⟩ := o.own.fn f c hmt
  rw [hnm] at om
  obtain ⟨fd, ps, hps, hb, FO⟩ := (o.fnF hd hk).ex
  have hK := o.K
  refine PCimp (pc_of (op_inOwn (C := p.K.xa c) FO (o.room.mono (by omega)) (by rw [hK]; exact om) hb) hA hB) fun σ H Q ⟨g, cc, sl, mm, r, h⟩ => ?_
  simp only [semE] at h
  refine ⟨g, cc, sl, mm, r, PostE.bind h fun c1 d mm1 v H1 l1 r1 rv h1 => ?_⟩
  rw [if_neg (by simp [Op.recv])] at h1
  refine ⟨g, c1, sl, mm1, r1, PostE.bind h1 fun c2 d2 mm2 u H2 l2 r2 ru h2 => ?_⟩
  simp only [opS] at h2
  cases hi2 : isInst c mm2 d2 with
  | false => simp only [hi2] at h2; exact h2.elim
  | true =>
    simp only [hi2, if_true] at h2
    obtain ⟨q', dx', vs', eq', e'⟩ := r2.inst ru hi2
    subst eq'
    refine ⟨q', dx', _, rfl, e', call_sp0 (W := W) (Q := Q) (post := fun d mm1 => (match d with | .bl b => okE (.bl b) mm1 | _ => none)) r2 (RepL.cons ru (RepL.one (RepV.le l2 _ _ rv))) hl ?_ fun c3 d3 mm3 v3 H3 l3 r3 rv3 h3 => ?_⟩
    · cases q5 : callS (p.cf n f) [d2, d] mm2 with
      | none => rw [q5] at h2; exact h2.elim
      | some y =>
        rw [q5] at h2
        cases y with
        | ok d5 mm5 => cases d5 <;> first | exact h2 | exact h2.elim
        | ex x mm5 => exact h2.elim
    · cases d3 <;> simp only [] at h3 <;> try exact h3.elim
      have := repV_bl rv3
      subst this
      exact ⟨_, rfl, PostE.ok0 h3 r3 okB⟩
/-- len(o) -/
theorem s_lenO (o : XOk p n N sc W X) {c f : Nat} {x : Str} {p1 : Pos} (hx : x = "len") (hg : glB sc x = true) (hm : p.mg x = none) (hmt : p.mt f = some (c, .fn)) (hnm : p.fn f = "__len__") (hA : PE X A (tE p n W a)) (pA : plainA A = true) (hl : 1 = (p.T f).np) :
    PE X (.Call (.Name x p1) [A] [] pos) (tE p n W (.opc .len c f a .nil)) := by
  subst hx
  obtain ⟨hc, hd, hk, om, kp, hno⟩ := o.own.fn f c hmt
  rw [hnm] at om
  obtain ⟨fd, ps, hps, hb, FO⟩ := (o.fnF hd hk).ex
  have hK := o.K
  refine PEimp (pe_callB (call_lenOwn (C := p.K.xa c) FO (o.room.mono (by omega)) (by rw [hK]; exact om) hb) (o.gl hg) (by rw [o.mg]; exact hm) (by decide +kernel) (pa_cons hA pa_nil (star_plain pA _ _)) (nm_nm (gl_nm hg)) (nm_deb (gl_nm hg)) (star_plain pA _ _) (star_none rfl _ _)) fun σ H Q ⟨g, cc, sl, mm, r, h⟩ => ?_
  simp only [semE] at h
  refine ⟨g, cc, sl, mm, r, PostE.bind h fun c1 d mm1 v H1 l1 r1 rv h1 => ?_⟩
  cases hi : isInst c mm1 d with
  | false => rw [if_pos (by simp [Op.recv, hi])] at h1; exact h1.elim
  | true =>
    rw [if_neg (by simp [hi])] at h1
    simp only [semEs, opS, hi, if_true] at h1
    obtain ⟨q, dx, vs, rfl, e⟩ := r1.inst rv hi
    refine ⟨q, dx, _, rfl, e, call_sp0 (W := W) (Q := Q) (post := fun d mm1 => (match d with | .int n => if decide (0 ≤ n) && decide (n ≤ 1000000) then okE (.int n) mm1 else none | _ => none)) r1 (RepL.one rv) hl ?_ fun c3 d3 mm3 v3 H3 l3 r3 rv3 h3 => ?_⟩
    · cases q5 : callS (p.cf n f) [d] mm1 with
      | none => rw [q5] at h1; exact h1.elim
      | some y =>
        rw [q5] at h1
        cases y with
        | ok d5 mm5 => cases d5 <;> first | exact h1 | exact h1.elim
        | ex x mm5 => exact h1.elim
    · cases d3 <;> simp only [] at h3 <;> try exact h3.elim
      have := repV_int rv3
      subst this
      split at h3
      · rename_i i hz
        simp only [Bool.and_eq_true, decide_eq_true_eq] at hz
        exact ⟨_, rfl, ⟨hz.1, by omega⟩, PostE.ok0 h3 r3 okI⟩
      · exact h3.elim
/-- str(o) -/
theorem s_strO (o : XOk p n N sc W X) {c f : Nat} {x : Str} {p1 : Pos} (hx : x = "str") (hg : glB sc x = true) (hm : p.mg x = none) (hmt : p.mt f = some (c, .fn)) (hnm : p.fn f = "__str__") (hA : PE X A (tE p n W a)) (pA : plainA A = true) (hl : 1 = (p.T f).np) :
    PE X (.Call (.Name x p1) [A] [] pos) (tE p n W (.opc .strO c f a .nil)) := by
  subst hx
  obtain ⟨hc, hd, hk, om, kp, hno⟩ := o.own.fn f c hmt
  rw [hnm] at om
  obtain ⟨fd, ps, hps, hb, FO⟩ := (o.fnF hd hk).ex
  have hK := o.K
  refine PEimp (pe_callTy (call_strOwn (C := p.K.xa c) FO (o.room.mono (by omega)) (by rw [hK]; exact om) hb) (o.gl hg) (by rw [o.mg]; exact hm) (by decide +kernel) (pa_cons hA pa_nil (star_plain pA _ _)) (nm_nm (gl_nm hg)) (nm_deb (gl_nm hg)) (star_plain pA _ _) (star_none rfl _ _)) fun σ H Q ⟨g, cc, sl, mm, r, h⟩ => ?_
  simp only [semE] at h
  refine ⟨g, cc, sl, mm, r, PostE.bind h fun c1 d mm1 v H1 l1 r1 rv h1 => ?_⟩
  cases hi : isInst c mm1 d with
  | false => rw [if_pos (by simp [Op.recv, hi])] at h1; exact h1.elim
  | true =>
    rw [if_neg (by simp [hi])] at h1
    simp only [semEs, opS, hi, if_true] at h1
    obtain ⟨q, dx, vs, rfl, e⟩ := r1.inst rv hi
    refine ⟨q, dx, _, rfl, e, call_sp0 (W := W) (Q := Q) (post := fun d mm1 => (match d with | .str n => okE (.str n) mm1 | _ => none)) r1 (RepL.one rv) hl ?_ fun c3 d3 mm3 v3 H3 l3 r3 rv3 h3 => ?_⟩
    · cases q5 : callS (p.cf n f) [d] mm1 with
      | none => rw [q5] at h1; exact h1.elim
      | some y =>
        rw [q5] at h1
        cases y with
        | ok d5 mm5 => cases d5 <;> first | exact h1 | exact h1.elim
        | ex x mm5 => exact h1.elim
    · cases d3 <;> simp only [] at h3 <;> try exact h3.elim
      obtain ⟨rfl, ht⟩ := repV_str rv3
      exact ⟨_, rfl, PostE.ok0 h3 r3 rv3⟩
/-- C.m(e, ..) -/
theorem s_cm (o : XOk p n N sc W X) {c f : Nat} {es : Es} {e0 : Expr} {as : List Expr} {p1 apos : Pos} (hmt : p.mt f = some (c, .cm)) (hg : glB sc (p.cn c) = true) (ha : PA X (e0 :: as) (tEs p n W es)) (pl : (e0 :: as).all plainA = true) (hl : es.len + 1 = (p.T f).np) (h30 : (e0 :: as).length < 30) (hline : (apos.endLine == pos.line) = true) :
    PE X (.Call (.Attribute (.Name (p.cn c) p1) (p.fn f) apos) (e0 :: as) [] pos) (tE p n W (.opc .clsm c f (.cst .non) es)) := by
  obtain ⟨hc, hd, hk, mc, q0, cr, cm⟩ := o.own.cm f c hmt
  have F := o.own.cls c hc
  obtain ⟨fd, ps, hps, hb, FO⟩ := (o.fnF hd hk).ex
  have hK := o.K
  have pl0 := pl
  rw [List.all_cons, Bool.and_eq_true] at pl0
  have hy : PE X (.Name (p.cn c) p1) (tC (.ref (p.K.xa c))) := pe_glob (o.gl hg) (by rw [o.mg]; exact F.mg) (show RelV (.ref (p.K.xa c)) _ from rfl) (nm_deb (gl_nm hg))
  refine PEimp (pe_cmOwn hy (by rw [hK]; exact cr) (by rw [hK]; exact cm) FO (o.room.mono (by omega)) hb pass_no ha (star_plain pl0.1 _ _) (star_none pl0.2 _ _) (meth_eval rfl (few_n pl h30 _ _) hline)) fun σ H Q ⟨g, cc, sl, mm, r, h⟩ => ?_
  simp only [semE, okE, bindE] at h
  rw [if_neg (by simp [Op.recv])] at h
  refine ⟨rfl, g, cc, sl, mm, r, opc_es (F := fun d ds mm2 => opS (p.cf n f) .clsm c d ds mm2) (d := .non) h fun c2 ds mm2 ws H2 l2 r2 rl hds h2 => ?_⟩
  simp only [opS] at h2
  have rc : RepV p.K c2.ad c2.Z H2 (.obj c []) (.ref (p.K.xa c)) := by simp [RepV]
  refine call_sp0 (W := W) (Q := Q) (post := fun d mm1 => some (.ok d mm1)) r2 (RepL.cons rc rl) (by rw [List.length_cons, rl.len, hds]; exact hl) ?_ fun c3 d3 mm3 v3 H3 l3 r3 rv3 h3 => h3 c3 v3 H3 .refl r3 rv3
  exact h2
end
end Mp
/-! Mz: zip of a tuple with a list. -/
namespace Mp
open PySem PySem.Spec
open PyProof.Rows L2
/-- the tuple at a, the list at b, as they stand at each turn -/
def ItzM (K : PySem.W.Frag) (a b : Addr) : L2.It :=
  ⟨fun i H => ∃ (xs ys : List V) (x y : V), SqT K H a xs ∧ SqL K H b ys ∧ xs[i]? = some x ∧ ys[i]? = some y,
    fun i H v H' => ∃ T x y, v = .ref T ∧ H T = none ∧ H' = upd H T (.tup [x, y]) ∧ (∀ xs, SqT K H a xs → xs[i]? = some x) ∧ ∀ ys, SqL K H b ys → ys[i]? = some y,
    fun i H => ∃ xs ys : List V, SqT K H a xs ∧ SqL K H b ys ∧ i = min xs.length ys.length⟩
theorem sepM {z TI TO i1 i2 a b : Addr} (D : ZipApart z TI TO i1 i2 a b) : ZipSep2 z TI TO i1 i2 [i1, a] [i2, b] where
  TIz := D.TIz
  TOz := D.TOz
  TITO := D.TITO
  TIi1 := D.TIi1
  mem1 := by simp
  zf1 := by simp [D.i1z.symm, D.l1z.symm]
  Tf1 := by simp [D.TOi1, D.l1TO.symm]
  TIi2 := D.TIi2
  mem2 := by simp
  zf2 := by simp [D.i2z.symm, D.l2z.symm]
  Tf2 := by simp [D.TOi2, D.l2TO.symm]
  sep1_2 := by simp [D.i12, D.l2i1.symm]
  sep2_1 := by simp [D.i12.symm, D.l1i2.symm]
theorem turn_zipM {P : Program} {w : World} {K : PySem.W.Frag} {elts : List Expr} {kk : Nat} {tpos : Pos} {a b z TI TO i1 i2 : Addr} (D : ZipApart z TI TO i1 i2 a b) :
    Turn P w K (.Tuple elts kk tpos) (ItzM K a b) [z, TI, TO, i1, i2] z (fun i h => IsZip h z TI TO .none ∧ IsPair h TI (.ref i1) (.ref i2) ∧ (∃ x y, IsPair h TO x y) ∧ h.IsTupleIter i1 a i ∧ h.IsListIter i2 b i) where
  mem := by simp
  obj := fun i h st c hc => by
    obtain ⟨hz, hTI, ⟨x, y, hTO⟩, ⟨o1, e1, _, d1⟩, ⟨o2, e2, _, d2⟩⟩ := st
    simp only [List.mem_cons, List.not_mem_nil, or_false] at hc
    rcases hc with rfl | rfl | rfl | rfl | rfl
    · exact ⟨_, hz, fun v q => nomatch q⟩
    · exact ⟨_, hTI, fun v q => nomatch q⟩
    · exact ⟨_, hTO, fun v q => nomatch q⟩
    · exact ⟨o1, e1, fun v q => by rw [d1] at q; cases q⟩
    · exact ⟨o2, e2, fun v q => by rw [d2] at q; cases q⟩
  keep := fun i h h' ⟨hz, hTI, ⟨x, y, hTO⟩, h1, h2⟩ k =>
    ⟨k z (by simp) _ hz, k TI (by simp) _ hTI, ⟨x, y, k TO (by simp) _ hTO⟩, h1.at fun o q => k i1 (by simp) o q, h2.at fun o q => k i2 (by simp) o q⟩
  item := by
    intro X hP hw hK hc i pins s σ H E I hf st hg
    subst hP hw hK
    obtain ⟨hz, hTI, ⟨x0, y0, hTO⟩, h1, h2⟩ := st
    obtain ⟨xs, ys, x, y, hqx, hqy, hx, hy⟩ := hg
    obtain ⟨its, rv, p, _⟩ := I.tuple hqx
    obtain ⟨its2, rv2, p2, _⟩ := I.list hqy
    obtain ⟨u, hu, ru⟩ := rv.get hx
    obtain ⟨u2, hu2, ru2⟩ := rv2.get hy
    have hh : X.A.in1.handled = none := I.ok.hd hc
    have n1 : i < its.toArray.size := by have := (List.getElem?_eq_some_iff.mp hu).1; simpa using this
    have n2 : i < its2.toArray.size := by have := (List.getElem?_eq_some_iff.mp hu2).1; simpa using this
    have hzl : z < s.heap.objs.size := Heap.lt_size hz
    refine wpAny_pyNext_zipD2_item (sepM D) (Draws.tuple hh i1 a D.l1i1 its.toArray) (Draws.list hh i2 b D.l2i2 its2.toArray) hz hTI hTO ⟨h1, p⟩ ⟨h2, p2.isList⟩ n1 n2 fun x1 x2 h' tk y1 y2 z' TO' s1 s2 hT hsz hk => ?_
    have e1 : x1 = u := by have q : its.toArray[i]? = some u := by simpa using hu
                           have y1 : its.toArray[i]? = some x1 := y1
                           rw [q] at y1; exact (Option.some.inj y1).symm
    have e2 : x2 = u2 := by have q : its2.toArray[i]? = some u2 := by simpa using hu2
                            have y2 : its2.toArray[i]? = some x2 := y2
                            rw [q] at y2; exact (Option.some.inj y2).symm
    subst e1; subst e2
    refine ⟨_, rfl, wpAny_letOwnedTupleGo_zip (s := { s with heap := h', toks := tk }) z' fun h'' z'' sb => ?_⟩
    have hT2 : h''.get? s.heap.objs.size = some { cls := .type "tuple", data := .seq #[x1, x2] } := (sb.2 _ (Nat.ne_of_gt hzl)).trans hT
    have new : ObjOk X.prog X.w (upd H s.heap.objs.size (.tup [x, y])) h'' s.heap.objs.size (.tup [x, y]) :=
      ⟨by show 2 ≤ sizeLine; decide, [x1, x2], .cons ru (.cons ru2 .nil), ⟨_, hT2, rfl, _, rfl⟩⟩
    have I1 : Inv X pins σ (upd H s.heap.objs.size (.tup [x, y])) { s with heap := h'', toks := tk } :=
      I.turnedNew (t' := tk) (ch := [z, TI, TO, i1, i2]) (fun c o hb q => by
        simp only [List.mem_cons, List.not_mem_nil, or_false, not_or] at hb
        exact (sb.2 c hb.1).trans (hk c o hb.1 hb.2.2.1 hb.2.2.2.1 hb.2.2.2.2 q)) hf (Nat.le_refl _) new
    refine ⟨.ref s.heap.objs.size, _, I1, rfl, ⟨_, x, y, rfl, I.hok.fresh (Nat.le_refl _), rfl, fun l hl => by rw [I.tuple_inj hl hqx]; exact hx, fun l hl => by rw [I.list_inj hl hqy]; exact hy⟩, ⟨z'', ?_, ⟨x1, x2, ?_⟩, ?_, ?_⟩, fun c hcm => ?_⟩
    · exact (sb.2 _ D.TIz).trans (hk _ _ D.TIz D.TITO D.TIi1 D.TIi2 hTI)
    · exact (sb.2 _ D.TOz).trans TO'
    · exact s1.1.at fun o q => (sb.2 _ D.i1z).trans q
    · exact s2.1.at fun o q => (sb.2 _ D.i2z).trans q
    · have hlt : c < s.heap.objs.size := by
        simp only [List.mem_cons, List.not_mem_nil, or_false] at hcm
        rcases hcm with rfl | rfl | rfl | rfl | rfl
        · exact hzl
        · exact Heap.lt_size hTI
        · exact Heap.lt_size hTO
        · obtain ⟨_, e1, _⟩ := h1; exact Heap.lt_size e1
        · obtain ⟨_, e2, _⟩ := h2; exact Heap.lt_size e2
      rw [upd_ne (Nat.ne_of_lt hlt)]
      exact (hf c hcm).1
  done := by
    intro X hP hw hK hc i pins s σ H E I hf st hg
    subst hP hw hK
    obtain ⟨hz, hTI, ⟨x0, y0, hTO⟩, h1, h2⟩ := st
    obtain ⟨xs, ys, hqx, hqy, hend⟩ := hg
    obtain ⟨its, rv, p, _⟩ := I.tuple hqx
    obtain ⟨its2, rv2, p2, _⟩ := I.list hqy
    have l1 := rv.length
    have l2 := rv2.length
    have hh : X.A.in1.handled = none := I.ok.hd hc
    refine wpAny_pyNext_zipD2_end (sepM D) (Draws.tuple hh i1 a D.l1i1 its.toArray) (Draws.list hh i2 b D.l2i2 its2.toArray) hz hTI hTO ⟨h1, p⟩ ⟨h2, p2.isList⟩ (by simp; omega) (by simp; omega) (by simp; omega) fun h' tk hk => ⟨rfl, ?_⟩
    exact I.turnedL (t' := tk) (ch := [z, TI, TO, i1, i2]) (fun c o hb q => by
      simp only [List.mem_cons, List.not_mem_nil, or_false, not_or] at hb
      exact hk c o hb.1 hb.2.2.1 hb.2.2.2.1 hb.2.2.2.2 q) hf
  self := fun A i s Q E st h => wpAny_pyIter_zip st.1 h
theorem pi_zipM {X : Cx} {e e2 : Expr} {ta : TA} {p pos tpos : Pos} {elts : List Expr} {kk : Nat} (hg : Gl X "zip") (hm : X.mg "zip" = none) (ha : PA X [e, e2] ta)
    (hs : starEach [e, e2] X.env = (false, eval e X.env) :: starEach [e2] X.env := by rfl) (hpl : (backTo pos (starEach [e2] X.env)).any (·.1) = false := by rfl) :
    PI X (.Tuple elts kk tpos) (.Call (.Name "zip" p) [e, e2] [] pos) (fun σ H R => ta σ H fun vs H1 => ∃ a b xs ys, vs = [.ref a, .ref b] ∧ SqT X.K H1 a xs ∧ SqL X.K H1 b ys ∧ R (ItzM X.K a b) H1) := by
  refine ⟨fun pins s σ H R I h => Call_ (ld_blt I hg hm PyProof.Rows.boot_zip (PyProof.Rows.callWith_type1 (thn (ha.run pos pins s σ H _ I h) fun us s1 ⟨vs, H1, I1, r1, q1⟩ => ?_) hs hpl))⟩
  obtain ⟨a, b, xs, ys, ex, hqx, hqy, q⟩ := q1
  subst ex
  obtain ⟨u1, u2, rfl, r, r'⟩ : ∃ u1 u2, us = [u1, u2] ∧ RelV (.ref a) u1 ∧ RelV (.ref b) u2 := by
    cases r1 with
    | cons r rr =>
      cases rr with
      | cons r' rr =>
        cases rr
        exact ⟨_, _, rfl, r, r'⟩
  obtain rfl : u1 = Value.ref a := r
  obtain rfl : u2 = Value.ref b := r'
  obtain ⟨its, rv, p1, _⟩ := I1.tuple hqx
  obtain ⟨its2, rv2, p2, _⟩ := I1.list hqy
  obtain ⟨o1, ho1, _⟩ := id p1
  refine zip_begins2 (begins_tuple a its.toArray) (begins_list b its2.toArray) p1 p2.isList fun h' hz hTI hTO h1 h2 hsz hk => wpAny_pyIter_zip hz ?_
  have I2 : Inv X pins σ H1 { s1 with heap := h' } := I1.kept (t' := s1.toks) hk
  refine ⟨s1.heap.objs.size + 4, [s1.heap.objs.size + 4, s1.heap.objs.size + 2, s1.heap.objs.size + 3, s1.heap.objs.size, s1.heap.objs.size + 1], _, _, H1, rfl, I2, turn_zipM (PySem.W.ktu_apart s1.heap.objs.size a b (Heap.lt_size ho1) p2.lt), ⟨hz, hTI, ⟨_, _, hTO⟩, ⟨_, h1, rfl, rfl⟩, ⟨_, h2, rfl, rfl⟩⟩, fun c hcm => ?_, q⟩
  have hle : s1.heap.objs.size ≤ c := by
    simp only [List.mem_cons, List.not_mem_nil, or_false] at hcm
    rcases hcm with rfl | rfl | rfl | rfl | rfl <;> first | exact Nat.le_add_right _ _ | exact Nat.le_refl _
  exact I1.fpOk hle (I1.hok.fresh hle)
end Mp
/-! Mp8: targets, what is walked, comprehensions. -/
namespace Mp
open PySem PySem.Spec
open PyProof.Rows L2
section
variable {K : Kx} {g g' : Gh} {c c2 : Cf} {sl sl2 : Sl} {mm mm2 : Mm} {σ σ2 : L2.St} {H H2 : Hp}
/-- from an inner ghost back to the outer one -/
theorem Rep.outer (r : Rep K g c sl mm σ H) (r2 : Rep K ⟨H, c.Z, c.ad⟩ c2 sl2 mm2 σ2 H2) : Rep K g c2 sl2 mm2 σ2 H2 := by
  obtain ⟨l, e⟩ := r2.pre
  refine ⟨r2.lenS, r2.lenA, r2.slot, r2.obj, r2.nd, fun b o e1 e2 => ?_, fun a z => ?_, r2.trk, ?_, fun a ha => ?_⟩
  · exact r2.frm b o (r.frm b o e1 fun q => e2 (by rw [e]; exact List.mem_append_left _ q)) e2
  · rcases r2.zin a z with q | q | q
    · exact r.zin a q
    · exact .inr (.inl (r.fresh0 q))
    · exact (r.adn a q).elim (fun w => .inr (.inr w)) fun w => .inr (.inl w)
  · obtain ⟨l0, e0⟩ := r.pre
    exact ⟨l0 ++ l, by rw [e, e0, List.append_assoc]⟩
  · rcases r2.adn a ha with q | q
    · exact r.adn a q
    · exact .inr (r.fresh0 q)
/-- as it stands, for an inner ghost -/
theorem Rep.inner (r : Rep K g c sl mm σ H) : Rep K ⟨H, c.Z, c.ad⟩ c sl mm σ H :=
  ⟨r.lenS, r.lenA, r.slot, r.obj, r.nd, fun _ _ e _ => e, fun _ z => .inl z, r.trk, ⟨[], by simp⟩, fun _ h => .inl h⟩
/-- something else is laid beside, or changed beside -/
theorem Rep.beside (r : Rep K g c sl mm σ H) {q : Addr} {o : HO} (nz : ¬ c.Z q) (na : q ∉ c.ad) (h0 : g.H0 q = none) : c.Le H c (upd H q o) ∧ Rep K g c sl mm σ (upd H q o) := by
  have l : c.Le H c (upd H q o) := ⟨⟨[], by simp⟩, fun _ z => z, fun b u z w => rd_upd (fun e => nz (e ▸ z)) w⟩
  refine ⟨l, r.lenS, r.lenA, fun i d e => ?_, fun k a x e1 e2 => ?_, r.nd, fun b u e1 e2 => ?_, r.zin, fun b z => ?_, r.pre, r.adn⟩
  · obtain ⟨v, w, rv⟩ := r.slot i d e
    exact ⟨v, w, RepV.le l d v rv⟩
  · have ha : a ≠ q := fun e => na (e ▸ List.mem_of_getElem? e1)
    have := r.obj k a x e1 e2
    cases x with
    | mu d => exact ⟨this.1, this.2.1, RepM.le l (upd_ne ha) this.2.2⟩
    | fz d => exact ⟨this.1, this.2.1, RepV.le l _ _ this.2.2⟩
  · rw [upd_ne (show b ≠ q from fun e => by rw [e, h0] at e1; cases e1)]
    exact r.frm b u e1 e2
  · rw [upd_ne (show b ≠ q from fun e => nz (e ▸ z))]
    exact r.trk b z
/-- slots forgotten -/
theorem wipeS_len (sl : Sl) : ∀ is : List Nat, (wipeS sl is).length = sl.length
  | [] => rfl
  | i :: is => by simp only [wipeS]; rw [List.length_set, wipeS_len sl is]
theorem wipeS_get {sl : Sl} {i : Nat} {d : D} : ∀ {is : List Nat}, (wipeS sl is)[i]? = some (some d) → i ∉ is ∧ sl[i]? = some (some d)
  | [], h => ⟨by simp, h⟩
  | j :: is, h => by
    simp only [wipeS] at h
    by_cases e : i = j
    · subst e
      rw [List.getElem?_set] at h
      simp only [if_true] at h
      split at h <;> simp at h
    · rw [List.getElem?_set_ne (Ne.symm e)] at h
      obtain ⟨h1, h2⟩ := wipeS_get h
      exact ⟨by simp [e, h1], h2⟩
theorem Rep.wipe (r : Rep K g c sl mm σ H) (is : List Nat) : Rep K g c (wipeS sl is) mm (L2.wipe σ is) H :=
  ⟨by rw [wipeS_len, L2.wipe_length, r.lenS], r.lenA, fun i d e => by
    obtain ⟨h1, h2⟩ := wipeS_get e
    rw [L2.wipe_out h1]
    exact r.slot i d h2, r.obj, r.nd, r.frm, r.zin, r.trk, r.pre, r.adn⟩
theorem wipe_get (σ : L2.St) {i : Nat} : ∀ {is : List Nat}, i ∈ is → (L2.wipe σ is)[i]? = if i < σ.length then some none else none
  | j :: is, h => by
    show ((L2.wipe σ is).set j none)[i]? = _
    by_cases e : i = j
    · subst e
      rw [List.getElem?_set]
      simp [L2.wipe_length]
    · rw [List.getElem?_set_ne (Ne.symm e)]
      exact wipe_get σ (by simpa [e] using h)
theorem wipe_set (σ : L2.St) {i : Nat} {is : List Nat} (v : Option V) (h : i ∈ is) : L2.wipe (σ.set i v) is = L2.wipe σ is := by
  apply List.ext_getElem?
  intro k
  by_cases hk : k ∈ is
  · rw [wipe_get _ hk, wipe_get _ hk]; simp
  · rw [L2.wipe_out hk, L2.wipe_out hk, List.getElem?_set_ne (fun e => hk (by rw [← e]; exact h))]
end
/-! ### targets -/
def tG (p : Pg) (tg : Tg) : TG := fun v σ H Q => ∃ g c sl mm d sl', Rep p.K g c sl mm σ H ∧ RepV p.K c.ad c.Z H d v ∧ bindT tg d sl = some sl' ∧ ∀ σ', Rep p.K g c sl' mm σ' H → L2.wipe σ' (tgIx tg) = L2.wipe σ (tgIx tg) → Q σ' H
def tgNames : List Expr → Option (List Str)
  | [] => some []
  | .Name x _ :: r => (tgNames r).map (x :: ·)
  | _ :: _ => none
section
variable {p : Pg} {X : Cx} {N : List Str} {sc : Scope}
theorem PGimp {A : Expr} {t t' : TG} (h : PG X A t) (i : ∀ v σ H Q, t' v σ H Q → t v σ H Q) : PG X A t' := ⟨fun pins s σ H v u Q I r q => h.run pins s σ H v u Q I r (i v σ H Q q)⟩
theorem g_nm {i : Nat} {x : Str} {pos : Pos} (hN : X.N.Nodup) (hi : X.N[i]? = some x) (hx : L2.Loc X.env.scope x) (hf : X.fn x = true ∨ X.env.scope.names.lookup x = some .local) : PG X (.Name x pos) (tG p (.nm i)) :=
  PGimp (pg_name hN hi hx hf) fun v σ H Q ⟨g, c, sl, mm, d, sl', r, rv, e, h⟩ => by
    simp only [bindT, Option.some.injEq] at e
    subst e
    exact h _ (r.set rv) (wipe_set σ _ (by simp [tgIx]))
def tSetAll (is : List Nat) : TGs := fun vs σ H Q => vs.length = is.length ∧ Q ((is.zip vs).foldl (fun s q => s.set q.1 (some q.2)) σ) H
/-- each name of a target -/
def NamesOk (X : Cx) (xs : List Str) (is : List Nat) : Prop := xs.length = is.length ∧ ∀ (k : Nat) (x : Str) (i : Nat), xs[k]? = some x → is[k]? = some i → X.N[i]? = some x ∧ L2.Loc X.env.scope x ∧ (X.fn x = true ∨ X.env.scope.names.lookup x = some .local)
theorem gs_names (hN : X.N.Nodup) : ∀ {es : List Expr} {xs : List Str} {is : List Nat}, tgNames es = some xs → NamesOk X xs is → PGs X es (tSetAll is) ∧ (assignEach es X.env).length = is.length ∧ (assignEach es X.env).findIdx? (·.1) = none
  | [], xs, is, h, ok => by
    simp only [tgNames, Option.some.injEq] at h
    subst h
    cases is with
    | cons i is => exact absurd ok.1 (by simp)
    | nil => exact ⟨⟨fun pins s σ H vs us Q I r q => pgs_nil.run pins s σ H vs us Q I r ⟨List.eq_nil_of_length_eq_zero q.1, by have := List.eq_nil_of_length_eq_zero q.1; subst this; exact q.2⟩⟩, rfl, rfl⟩
  | e :: es, xs, is, h, ok => by
    cases e <;> simp only [tgNames, reduceCtorEq] at h
    rename_i x pos
    cases q : tgNames es with
    | none => rw [q] at h; simp at h
    | some ys =>
      rw [q] at h
      simp only [Option.map_some, Option.some.injEq] at h
      subst h
      cases is with
      | nil => exact absurd ok.1 (by simp)
      | cons i is =>
        obtain ⟨h1, h2, h3⟩ := gs_names (is := is) hN q ⟨by simpa using ok.1, fun k y j a b => ok.2 (k + 1) y j (by simpa using a) (by simpa using b)⟩
        obtain ⟨a1, a2, a3⟩ := ok.2 0 x i rfl rfl
        refine ⟨⟨fun pins s σ H vs us Q I r w => (pgs_cons (pg_name (i := i) hN a1 a2 a3) h1 rfl).run pins s σ H vs us Q I r ?_⟩, by
          show (assignEach es X.env).length + 1 = is.length + 1
          rw [h2], by
          show ((false, assign (.Name x pos) X.env) :: assignEach es X.env).findIdx? (·.1) = none
          rw [List.findIdx?_cons, h3]; rfl⟩
        obtain ⟨w1, w2⟩ := w
        cases vs with
        | nil => exact absurd w1 (by simp)
        | cons v vs => exact ⟨v, vs, rfl, by simpa using w1, w2⟩
theorem setAll_rep {K : Kx} {g : Gh} {c : Cf} {mm : Mm} {H : Hp} : ∀ {is : List Nat} {xs : List D} {vs : List V} {sl : Sl} {σ : L2.St}, Rep K g c sl mm σ H → RepL K c.ad c.Z H xs vs → xs.length = is.length → Rep K g c ((is.zip xs).foldl (fun sl q => sl.set q.1 (some q.2)) sl) mm ((is.zip vs).foldl (fun s q => s.set q.1 (some q.2)) σ) H
  | [], _, _, _, _, r, _, _ => r
  | i :: is, xs, vs, sl, σ, r, rl, e => by
    cases xs with
    | nil => exact absurd e (by simp)
    | cons x xs =>
      simp only [RepL] at rl
      obtain ⟨v, t, rfl, h1, h2⟩ := rl
      show Rep K g c ((is.zip xs).foldl (fun sl q => sl.set q.1 (some q.2)) (sl.set i (some x))) mm ((is.zip t).foldl (fun s q => s.set q.1 (some q.2)) (σ.set i (some v))) H
      exact setAll_rep (r.set h1) h2 (by simpa using e)
theorem wipe_setAll {js : List Nat} : ∀ {is : List Nat} {vs : List V} {σ : L2.St}, (∀ i ∈ is, i ∈ js) → L2.wipe ((is.zip vs).foldl (fun s q => s.set q.1 (some q.2)) σ) js = L2.wipe σ js
  | [], _, _, _ => rfl
  | i :: is, vs, σ, h => by
    cases vs with
    | nil => rfl
    | cons v vs =>
      show L2.wipe ((is.zip vs).foldl (fun s q => s.set q.1 (some q.2)) (σ.set i (some v))) js = _
      rw [wipe_setAll (fun k hk => h k (by simp [hk])), wipe_set σ _ (h i (by simp))]
theorem tup_ref {K : Kx} {ad : List Addr} {Z : Addr → Prop} {H : Hp} {xs : List D} {v : V} (h : RepV K ad Z H (.tup xs) v) : ∃ a vs, v = .ref a ∧ SqT K H a vs ∧ RepL K ad Z H xs vs := by
  simp only [RepV] at h
  obtain ⟨a, vs, e, t, r⟩ := h
  exact ⟨a, vs, e, t.sq, r⟩
theorem g_tp {es : List Expr} {k : Nat} {pos : Pos} {xs : List Str} {is : List Nat} (hK : X.K = p.K) (hc : X.calm = true) (hN : X.N.Nodup) (h : tgNames es = some xs) (ok : NamesOk X xs is) : PG X (.Tuple es k pos) (tG p (.tp is)) := by
  obtain ⟨h1, h2, h3⟩ := gs_names hN h ok
  refine PGimp (pg_tup hc h1 h2 h3) fun v σ H Q ⟨g, c, sl, mm, d, sl', r, rv, e, hQ⟩ => ?_
  simp only [bindT] at e
  split at e
  · rename_i ds
    split at e
    · rename_i hl
      have hl' : ds.length = is.length := by simpa using hl
      simp only [Option.some.injEq] at e
      subst e
      obtain ⟨a, vs, rfl, t, rl⟩ := tup_ref rv
      rw [hK]
      exact ⟨a, vs, rfl, t, by rw [rl.len]; exact hl', by rw [rl.len]; exact hl', hQ _ (setAll_rep r rl hl') (wipe_setAll fun i hi => hi)⟩
    · cases e
  · cases e
end
/-! ### what is walked -/
structure Walks (p : Pg) (J : L2.It) (c0 : Cf) (H0 : Hp) (ds : List D) : Prop where
  step : ∀ (i : Nat) (d : D), ds[i]? = some d → ∀ g c sl mm σ H, c0.Le H0 c H → Rep p.K g c sl mm σ H → J.go i H ∧ ∀ x H', J.yld i H x H' → ∃ c', c.Le H c' H' ∧ Rep p.K g c' sl mm σ H' ∧ RepV p.K c'.ad c'.Z H' d x ∧ (∀ b o, H b = some o → H' b = some o) ∧ c'.ad = c.ad ∧ ∀ b, c'.Z b → c.Z b ∨ H b = none
  stop : ∀ g c sl mm σ H, c0.Le H0 c H → Rep p.K g c sl mm σ H → J.stop ds.length H
def PostI (p : Pg) (g : Gh) (c : Cf) (sl : Sl) (σ : L2.St) (H : Hp) (W : WX) (R : L2.It → Hp → Prop) : Option RI → Prop
  | none => False
  | some (.ok ds mm) => ∀ c' H' J, c.Le H c' H' → Rep p.K g c' sl mm σ H' → Walks p J c' H' ds → R J H'
  | some (.ex x mm) => ∀ c' dd H', c.Le H c' H' → Rep p.K g c' sl mm σ H' → RepX p.K c'.Z H' x dd → W (.ref (p.ea x.cls)) dd σ H'
def tI (p : Pg) (n : Nat) (W : WX) (it : It) : TI := fun σ H R => ∃ g c sl mm, Rep p.K g c sl mm σ H ∧ PostI p g c sl σ H W R (semI p.gv (p.cf n) it sl mm)
theorem le_addr {c : Cf} {H H' : Hp} {c' : Cf} (l : c.Le H c' H') : True := trivial
theorem getElem_len {α β : Type} {xs : List α} {ys : List β} (h : xs.length = ys.length) {i : Nat} {x : α} (e : xs[i]? = some x) : ∃ y, ys[i]? = some y := by
  have hi : i < xs.length := (List.getElem?_eq_some_iff.mp e).1
  exact ⟨ys[i], List.getElem?_eq_getElem (by omega)⟩
section
variable {p : Pg} {c0 : Cf} {H0 : Hp} {a b : Addr} {vs ws : List V} {ds es : List D}
theorem walks_list (hz : c0.Z a) (hr : Rd H0 a (.lst vs)) (rl : RepL p.K c0.ad c0.Z H0 ds vs) : Walks p (Itl p.K a) c0 H0 ds where
  step := fun i d e g c sl mm σ H l r => by
    obtain ⟨v, hv, rv⟩ := rl.get e
    have rd := l.rd a _ hz hr
    refine ⟨⟨vs, v, .inl rd, hv⟩, fun x H' ⟨eH, hx⟩ => ?_⟩
    subst eH
    have := hx vs (.inl rd)
    rw [hv] at this; cases this
    exact ⟨c, .refl, r, RepV.le l _ _ rv, fun _ _ e => e, rfl, fun _ z => .inl z⟩
  stop := fun g c sl mm σ H l r => ⟨vs, .inl (l.rd a _ hz hr), by rw [rl.len]; exact Nat.le_refl _⟩
theorem tupZ_keep {c c' : Cf} {H H' : Hp} (l : c.Le H c' H') {K : Kx} (t : TupZ K c.Z H a vs) : SqT K H' a vs := (t.le l).sq
theorem walks_tup (ht : TupZ p.K c0.Z H0 a vs) (rl : RepL p.K c0.ad c0.Z H0 ds vs) : Walks p (Itt p.K a) c0 H0 ds where
  step := fun i d e g c sl mm σ H l r => by
    obtain ⟨v, hv, rv⟩ := rl.get e
    have rd := tupZ_keep l ht
    refine ⟨⟨vs, v, rd, hv⟩, fun x H' ⟨eH, hx⟩ => ?_⟩
    subst eH
    have := hx vs rd
    rw [hv] at this; cases this
    exact ⟨c, .refl, r, RepV.le l _ _ rv, fun _ _ e => e, rfl, fun _ z => .inl z⟩
  stop := fun g c sl mm σ H l r => ⟨vs, tupZ_keep l ht, by rw [rl.len]; exact Nat.le_refl _⟩
theorem walks_rng (lo : Int) (k : Nat) : Walks p (Itr lo k) c0 H0 (rngL lo k) where
  step := fun i d e g c sl mm σ H l r => by
    unfold rngL at e
    rw [List.getElem?_map] at e
    have hi : i < k := by
      cases q : (List.range k)[i]? with
      | none => rw [q] at e; simp at e
      | some j => simpa using (List.getElem?_eq_some_iff.mp q).1
    rw [List.getElem?_range hi] at e
    simp only [Option.map_some, Option.some.injEq] at e
    subst e
    refine ⟨hi, fun x H' ⟨eH, hx⟩ => ?_⟩
    subst eH; subst hx
    exact ⟨c, .refl, r, okI, fun _ _ e => e, rfl, fun _ z => .inl z⟩
  stop := fun g c sl mm σ H l r => by
    show k ≤ (rngL lo k).length
    unfold rngL; simp
theorem pair_step {g : Gh} {c : Cf} {sl : Sl} {mm : Mm} {σ : L2.St} {H : Hp} {T : Addr} {x y : V} {d e : D} (r : Rep p.K g c sl mm σ H) (rx : RepV p.K c.ad c.Z H d x) (ry : RepV p.K c.ad c.Z H e y) (hT : H T = none) :
    ∃ c', c.Le H c' (upd H T (.tup [x, y])) ∧ Rep p.K g c' sl mm σ (upd H T (.tup [x, y])) ∧ RepV p.K c'.ad c'.Z (upd H T (.tup [x, y])) (.tup [d, e]) (.ref T) ∧ (∀ b o, H b = some o → upd H T (.tup [x, y]) b = some o) ∧ c'.ad = c.ad ∧ ∀ b, c'.Z b → c.Z b ∨ H b = none := by
  have l : c.Le H (c.add T) (upd H T (.tup [x, y])) := le_fresh r.trk hT
  refine ⟨c.add T, l, r.fresh hT, ?_, fun b o e => by rw [upd_ne (ne_of_none e hT)]; exact e, rfl, fun b z => z.imp id fun q => by rw [q]; exact hT⟩
  simp only [RepV]
  exact ⟨T, [x, y], rfl, .inl ⟨.inr rfl, .inl upd_same⟩, RepL.le l _ _ (RepL.cons rx (RepL.one ry))⟩
theorem zipD_get : ∀ {xs ys : List D} {i : Nat} {d : D}, (zipD xs ys)[i]? = some d → ∃ x y, xs[i]? = some x ∧ ys[i]? = some y ∧ d = .tup [x, y]
  | [], _, _, _, e => by simp [zipD] at e
  | _ :: _, [], _, _, e => by simp [zipD] at e
  | x :: xs, y :: ys, 0, d, e => by
    simp only [zipD, List.getElem?_cons_zero, Option.some.injEq] at e
    exact ⟨x, y, rfl, rfl, e.symm⟩
  | x :: xs, y :: ys, i + 1, d, e => by
    simp only [zipD, List.getElem?_cons_succ] at e
    obtain ⟨u, w, h1, h2, h3⟩ := zipD_get e
    exact ⟨u, w, by simpa using h1, by simpa using h2, h3⟩
theorem zipD_len : ∀ xs ys : List D, (zipD xs ys).length = min xs.length ys.length
  | [], _ => by simp [zipD]
  | _ :: _, [] => by simp [zipD]
  | x :: xs, y :: ys => by simp only [zipD, List.length_cons, zipD_len xs ys]; omega
theorem walks_zipT (ha : TupZ p.K c0.Z H0 a vs) (hb : TupZ p.K c0.Z H0 b ws) (ra : RepL p.K c0.ad c0.Z H0 ds vs) (rb : RepL p.K c0.ad c0.Z H0 es ws) : Walks p (RZ.ItzT p.K a b) c0 H0 (zipD ds es) where
  step := fun i d e g c sl mm σ H l r => by
    obtain ⟨x, y, h1, h2, rfl⟩ := zipD_get e
    obtain ⟨v, hv, rv⟩ := ra.get h1
    obtain ⟨w, hw, rw'⟩ := rb.get h2
    have qa := tupZ_keep l ha
    have qb := tupZ_keep l hb
    refine ⟨⟨vs, ws, v, w, qa, qb, hv, hw⟩, fun z H' ⟨T, x1, y1, ez, hT, eH, f1, f2⟩ => ?_⟩
    subst ez; subst eH
    have e1 := f1 vs qa
    rw [hv] at e1; cases e1
    have e2 := f2 ws qb
    rw [hw] at e2; cases e2
    exact pair_step r (RepV.le l _ _ rv) (RepV.le l _ _ rw') hT
  stop := fun g c sl mm σ H l r => ⟨vs, ws, tupZ_keep l ha, tupZ_keep l hb, by rw [zipD_len, ra.len, rb.len]; omega⟩
theorem walks_zipM (ha : TupZ p.K c0.Z H0 a vs) (zb : c0.Z b) (hb : Rd H0 b (.lst ws)) (ra : RepL p.K c0.ad c0.Z H0 ds vs) (rb : RepL p.K c0.ad c0.Z H0 es ws) : Walks p (ItzM p.K a b) c0 H0 (zipD ds es) where
  step := fun i d e g c sl mm σ H l r => by
    obtain ⟨x, y, h1, h2, rfl⟩ := zipD_get e
    obtain ⟨v, hv, rv⟩ := ra.get h1
    obtain ⟨w, hw, rw'⟩ := rb.get h2
    have qa : SqT p.K H a vs := tupZ_keep l ha
    have qb : SqL p.K H b ws := .inl (l.rd b _ zb hb)
    refine ⟨⟨vs, ws, v, w, qa, qb, hv, hw⟩, fun z H' ⟨T, x1, y1, ez, hT, eH, f1, f2⟩ => ?_⟩
    subst ez; subst eH
    have e1 := f1 vs qa
    rw [hv] at e1; cases e1
    have e2 := f2 ws qb
    rw [hw] at e2; cases e2
    exact pair_step r (RepV.le l _ _ rv) (RepV.le l _ _ rw') hT
  stop := fun g c sl mm σ H l r => ⟨vs, ws, tupZ_keep l ha, .inl (l.rd b _ zb hb), by rw [zipD_len, ra.len, rb.len]⟩
theorem walks_zipL (za : c0.Z a) (ha : Rd H0 a (.lst vs)) (zb : c0.Z b) (hb : Rd H0 b (.lst ws)) (ra : RepL p.K c0.ad c0.Z H0 ds vs) (rb : RepL p.K c0.ad c0.Z H0 es ws) : Walks p (Itz p.K a b) c0 H0 (zipD ds es) where
  step := fun i d e g c sl mm σ H l r => by
    obtain ⟨x, y, h1, h2, rfl⟩ := zipD_get e
    obtain ⟨v, hv, rv⟩ := ra.get h1
    obtain ⟨w, hw, rw'⟩ := rb.get h2
    have qa : SqL p.K H a vs := .inl (l.rd a _ za ha)
    have qb : SqL p.K H b ws := .inl (l.rd b _ zb hb)
    refine ⟨⟨vs, ws, v, w, qa, qb, hv, hw⟩, fun z H' ⟨T, x1, y1, ez, hT, eH, f1, f2⟩ => ?_⟩
    subst ez; subst eH
    have e1 := f1 vs qa
    rw [hv] at e1; cases e1
    have e2 := f2 ws qb
    rw [hw] at e2; cases e2
    exact pair_step r (RepV.le l _ _ rv) (RepV.le l _ _ rw') hT
  stop := fun g c sl mm σ H l r => ⟨vs, ws, .inl (l.rd a _ za ha), .inl (l.rd b _ zb hb), by rw [zipD_len, ra.len, rb.len]; omega⟩
theorem enmD_get : ∀ {xs : List D} {n i : Nat} {d : D}, (enmD n xs)[i]? = some d → ∃ x, xs[i]? = some x ∧ d = .tup [.int ((n + i : Nat) : Int), x]
  | [], _, _, _, e => by simp [enmD] at e
  | x :: xs, n, 0, d, e => by
    simp only [enmD, List.getElem?_cons_zero, Option.some.injEq] at e
    exact ⟨x, rfl, e.symm⟩
  | x :: xs, n, i + 1, d, e => by
    simp only [enmD, List.getElem?_cons_succ] at e
    obtain ⟨w, h2, h3⟩ := enmD_get e
    exact ⟨w, by simpa using h2, by rw [h3]; congr 3; omega⟩
theorem enmD_len : ∀ (n : Nat) (xs : List D), (enmD n xs).length = xs.length
  | _, [] => rfl
  | n, x :: xs => by simp only [enmD, List.length_cons, enmD_len]
theorem walks_enm (za : c0.Z a) (ha : Rd H0 a (.lst vs)) (ra : RepL p.K c0.ad c0.Z H0 ds vs) : Walks p (Ite p.K a) c0 H0 (enmD 0 ds) where
  step := fun i d e g c sl mm σ H l r => by
    obtain ⟨x, h1, rfl⟩ := enmD_get e
    obtain ⟨v, hv, rv⟩ := ra.get h1
    have qa : SqL p.K H a vs := .inl (l.rd a _ za ha)
    refine ⟨⟨vs, v, qa, hv⟩, fun z H' ⟨T, x1, ez, hT, eH, f1⟩ => ?_⟩
    subst ez; subst eH
    have e1 := f1 vs qa
    rw [hv] at e1; cases e1
    have e0 : ((0 + i : Nat) : Int) = (i : Int) := by omega
    rw [e0]
    exact pair_step r okI (RepV.le l _ _ rv) hT
  stop := fun g c sl mm σ H l r => ⟨vs, .inl (l.rd a _ za ha), by rw [enmD_len, ra.len]; exact Nat.le_refl _⟩
end
section
variable {p : Pg} {n : Nat} {N : List Str} {sc : Scope} {W : WX} {X : Cx} {A B tgE : Expr} {a b : E} {pos : Pos}
theorem PIimp {i i' : TI} (h : PI X tgE A i) (j : ∀ σ H R, i' σ H R → i σ H R) : PI X tgE A i' := ⟨fun pins s σ H R I q => h.run pins s σ H R I (j σ H R q)⟩
theorem PIor {i i' : TI} (h : PI X tgE A i) (h' : PI X tgE A i') : PI X tgE A (fun σ H R => i σ H R ∨ i' σ H R) := ⟨fun pins s σ H R I q => q.elim (h.run pins s σ H R I) (h'.run pins s σ H R I)⟩
theorem lst_ref {K : Kx} {ad : List Addr} {Z : Addr → Prop} {H : Hp} {xs : List D} {v : V} (h : RepV K ad Z H (.lst xs) v) : ∃ a vs, v = .ref a ∧ Z a ∧ Rd H a (.lst vs) ∧ RepL K ad Z H xs vs := by
  simp only [RepV] at h
  obtain ⟨a, vs, e, t, r⟩ := h
  exact ⟨a, vs, e, t.1, t.2, r⟩
theorem tupz_ref {K : Kx} {ad : List Addr} {Z : Addr → Prop} {H : Hp} {xs : List D} {v : V} (h : RepV K ad Z H (.tup xs) v) : ∃ a vs, v = .ref a ∧ TupZ K Z H a vs ∧ RepL K ad Z H xs vs := by
  simp only [RepV] at h
  obtain ⟨a, vs, e, t, r⟩ := h
  exact ⟨a, vs, e, t, r⟩
theorem walks_keysN {P : Program} {w : World} {c0 : Cf} {H0 : Hp} {d : Addr} {ob : Obj} {kvs : Nkv} {ks : List D} (hd : p.K.dn = dN P w) (hz : c0.Z d) (ht : Rd H0 d (dN P w d ob kvs)) (rk : RepL p.K c0.ad c0.Z H0 ks (kvs.map fun q => V.ref q.2.1)) :
    Walks p (ItN P w d ob kvs) c0 H0 ks where
  step := fun i x e g c sl mm σ H l r => by
    obtain ⟨v, hv, rv⟩ := rk.get e
    rw [List.getElem?_map] at hv
    obtain ⟨q, hq, rfl⟩ := Option.map_eq_some_iff.mp hv
    have hi : i < kvs.length := (List.getElem?_eq_some_iff.mp hq).1
    refine ⟨⟨l.rd d _ hz ht, hi⟩, fun y H' ⟨eH, q', hq', ey⟩ => ?_⟩
    subst eH; subst ey
    rw [hq] at hq'
    cases hq'
    exact ⟨c, .refl, r, RepV.le l _ _ rv, fun _ _ e => e, rfl, fun _ z => .inl z⟩
  stop := fun g c sl mm σ H l r => ⟨l.rd d _ hz ht, by
    have := rk.len
    rw [List.length_map] at this
    omega⟩
theorem i_seq (o : XOk p n N sc W X) (ha : PE X A (tE p n W a)) : PI X tgE A (tI p n W (.seq a)) := by
  have hf := s_frz ha
  refine PIimp (PIor (PIor (pi_list hf) (pi_tup hf)) (pi_keysN hf)) fun σ H R ⟨g, c, sl, mm, r, h⟩ => ?_
  simp only [semI] at h
  have eq : semE p.gv (p.cf n) (.un .frz a) sl mm = bindE (semE p.gv (p.cf n) a sl mm) frzS := by simp only [semE]; rfl
  rw [o.K]
  cases q : bindE (semE p.gv (p.cf n) a sl mm) frzS with
  | none => rw [q] at h; exact h.elim
  | some x =>
    rw [q] at h eq
    cases x with
    | ex x mm1 =>
      left; left
      refine ⟨g, c, sl, mm, r, ?_⟩
      rw [eq]; exact h
    | ok d mm1 =>
      cases d <;> simp only [listItems] at h <;> try exact h.elim
      · left; right
        refine ⟨g, c, sl, mm, r, ?_⟩
        rw [eq]
        intro c1 v H1 l1 r1 rv
        obtain ⟨q, vs, rfl, t, rl⟩ := tupz_ref rv
        exact ⟨q, rfl, ⟨vs, t.sq⟩, h c1 H1 _ l1 r1 (walks_tup t rl)⟩
      · left; left
        refine ⟨g, c, sl, mm, r, ?_⟩
        rw [eq]
        intro c1 v H1 l1 r1 rv
        obtain ⟨q, vs, rfl, z, t, rl⟩ := lst_ref rv
        exact ⟨q, rfl, ⟨vs, .inl t⟩, h c1 H1 _ l1 r1 (walks_list z t rl)⟩
      · right
        refine ⟨g, c, sl, mm, r, ?_⟩
        rw [eq]
        intro c1 v H1 l1 r1 rv
        simp only [RepV] at rv
        obtain ⟨q, ob, kvs, rfl, z, t, e1, _, rk, _⟩ := rv
        rw [o.dn] at t
        refine ⟨q, ob, kvs, rfl, t, h c1 H1 _ l1 r1 (walks_keysN (by rw [o.dn]) z t rk)⟩
theorem i_rng (o : XOk p n N sc W X) {p0 : Pos} {x : Str} (hx : x = "range") (hg : glB sc x = true) (hm : p.mg x = none) (ha : PE X A (tE p n W a)) (pa : plainA A = true) : PI X tgE (.Call (.Name x p0) [A] [] pos) (tI p n W (.rng a)) := by
  subst hx
  refine PIimp (pi_range1 (o.gl hg) (by rw [o.mg]; exact hm) (pa_cons ha pa_nil (star_plain pa _ _)) (star_plain pa _ _)) fun σ H R ⟨g, c, sl, mm, r, h⟩ => ?_
  simp only [semI] at h
  refine ⟨g, c, sl, mm, r, ?_⟩
  cases q : semE p.gv (p.cf n) a sl mm with
  | none => rw [q] at h; exact h.elim
  | some y =>
    rw [q] at h
    cases y with
    | ex x mm1 => exact h
    | ok d mm1 =>
      cases d <;> try exact h.elim
      rename_i k
      simp only [] at h
      cases z : small64 (4 * k) with
      | false => simp only [z] at h; exact h.elim
      | true =>
        simp only [z, if_true] at h
        simp only [small64, Bool.and_eq_true, decide_eq_true_eq] at z
        exact fun c1 v H1 l1 r1 rv => ⟨k, by rw [repV_int rv], by omega, by omega, h c1 H1 _ l1 r1 (walks_rng 0 _)⟩
theorem i_rng2 (o : XOk p n N sc W X) {p0 : Pos} {x : Str} (hx : x = "range") (hg : glB sc x = true) (hm : p.mg x = none) (ha : PE X A (tE p n W a)) (hb : PE X B (tE p n W b)) (pa : plainA A = true) (pb : plainA B = true) : PI X tgE (.Call (.Name x p0) [A, B] [] pos) (tI p n W (.rng2 a b)) := by
  subst hx
  refine PIimp (pi_range2 (o.gl hg) (by rw [o.mg]; exact hm) (pa_cons ha (pa_cons hb pa_nil (star_plain pb _ _)) (star_plain pa _ _)) (by rw [star_plain pa, star_plain pb]; rfl) (star_plain pb _ _)) fun σ H R ⟨g, c, sl, mm, r, h⟩ => ?_
  simp only [semI] at h
  refine ⟨g, c, sl, mm, r, ?_⟩
  cases q : semE p.gv (p.cf n) a sl mm with
  | none => rw [q] at h; exact h.elim
  | some y =>
    rw [q] at h
    cases y with
    | ex x mm1 => exact h
    | ok d mm1 =>
      cases d <;> try exact h.elim
      rename_i k
      simp only [] at h
      intro c1 v H1 l1 r1 rv
      refine ⟨g, c1, sl, mm1, r1, ?_⟩
      cases q2 : semE p.gv (p.cf n) b sl mm1 with
      | none => rw [q2] at h; exact h.elim
      | some y =>
        rw [q2] at h
        cases y with
        | ex x mm2 => exact fun c2 dd H2 l2 r2 w => h c2 dd H2 (l1.trans l2) r2 w
        | ok d mm2 =>
          cases d <;> try exact h.elim
          rename_i j
          simp only [] at h
          cases z : (small64 (4 * k) && small64 (4 * j)) with
          | false => simp only [z] at h; exact h.elim
          | true =>
            simp only [z, if_true] at h
            simp only [small64, Bool.and_eq_true, decide_eq_true_eq] at z
            exact fun c2 u H2 l2 r2 ru => ⟨k, j, by rw [repV_int rv, repV_int ru], ⟨by omega, by omega, by omega, by omega⟩, h c2 H2 _ (l1.trans l2) r2 (walks_rng k _)⟩
theorem i_zip (o : XOk p n N sc W X) {p0 tpos : Pos} {x : Str} {elts : List Expr} {kk : Nat} (hx : x = "zip") (hg : glB sc x = true) (hm : p.mg x = none) (ha : PE X A (tE p n W a)) (hb : PE X B (tE p n W b)) (pa : plainA A = true) (pb : plainA B = true) : PI X (.Tuple elts kk tpos) (.Call (.Name x p0) [A, B] [] pos) (tI p n W (.zip a b)) := by
  subst hx
  have fa := s_frz ha
  have fb := s_frz hb
  refine PIimp (PIor (RZ.pi_zipA (o.gl hg) (by rw [o.mg]; exact hm) (pa_cons fa (pa_cons fb pa_nil (star_plain pb _ _)) (star_plain pa _ _)) (star_plain pa _ _) (star_none (by simp [pb]) _ _)) (pi_zipM (o.gl hg) (by rw [o.mg]; exact hm) (pa_cons fa (pa_cons fb pa_nil (star_plain pb _ _)) (star_plain pa _ _)) (star_plain pa _ _) (star_none (by simp [pb]) _ _))) fun σ H R ⟨g, c, sl, mm, r, h⟩ => ?_
  simp only [semI] at h
  have eqa : ∀ sl mm, semE p.gv (p.cf n) (.un .frz a) sl mm = bindE (semE p.gv (p.cf n) a sl mm) frzS := fun sl mm => by simp only [semE]; rfl
  have eqb : ∀ sl mm, semE p.gv (p.cf n) (.un .frz b) sl mm = bindE (semE p.gv (p.cf n) b sl mm) frzS := fun sl mm => by simp only [semE]; rfl
  cases q : bindE (semE p.gv (p.cf n) a sl mm) frzS with
  | none => rw [q] at h; exact h.elim
  | some y =>
    rw [q] at h
    cases y with
    | ex x mm1 =>
      left
      refine ⟨g, c, sl, mm, r, ?_⟩
      rw [eqa, q]
      exact h
    | ok d mm1 =>
      simp only [] at h
      cases q2 : bindE (semE p.gv (p.cf n) b sl mm1) frzS with
      | none => rw [q2] at h; exact h.elim
      | some y =>
        rw [q2] at h
        cases y with
        | ex x mm2 =>
          left
          refine ⟨g, c, sl, mm, r, ?_⟩
          rw [eqa, q]
          intro c1 v H1 l1 r1 rv
          refine ⟨g, c1, sl, mm1, r1, ?_⟩
          rw [eqb, q2]
          exact fun c2 dd H2 l2 r2 w => h c2 dd H2 (l1.trans l2) r2 w
        | ok e mm2 =>
          rw [o.K]
          cases d <;> (try exact h.elim) <;> cases e <;> try exact h.elim
          · left
            refine ⟨g, c, sl, mm, r, ?_⟩
            rw [eqa, q]
            intro c1 v H1 l1 r1 rv
            refine ⟨g, c1, sl, mm1, r1, ?_⟩
            rw [eqb, q2]
            intro c2 u H2 l2 r2 ru
            have rv2 := RepV.le l2 _ _ rv
            obtain ⟨q1, vs, rfl, t1, rl1⟩ := tupz_ref rv2
            obtain ⟨q3, ws, rfl, t2, rl2⟩ := tupz_ref ru
            exact ⟨q1, q3, vs, ws, rfl, .inr ⟨t1.sq, t2.sq, h c2 H2 _ (l1.trans l2) r2 (walks_zipT t1 t2 rl1 rl2)⟩⟩
          · right
            refine ⟨g, c, sl, mm, r, ?_⟩
            rw [eqa, q]
            intro c1 v H1 l1 r1 rv
            refine ⟨g, c1, sl, mm1, r1, ?_⟩
            rw [eqb, q2]
            intro c2 u H2 l2 r2 ru
            have rv2 := RepV.le l2 _ _ rv
            obtain ⟨q1, vs, rfl, t1, rl1⟩ := tupz_ref rv2
            obtain ⟨q3, ws, rfl, z2, t2, rl2⟩ := lst_ref ru
            exact ⟨q1, q3, vs, ws, rfl, t1.sq, .inl t2, h c2 H2 _ (l1.trans l2) r2 (walks_zipM t1 z2 t2 rl1 rl2)⟩
          · left
            refine ⟨g, c, sl, mm, r, ?_⟩
            rw [eqa, q]
            intro c1 v H1 l1 r1 rv
            refine ⟨g, c1, sl, mm1, r1, ?_⟩
            rw [eqb, q2]
            intro c2 u H2 l2 r2 ru
            have rv2 := RepV.le l2 _ _ rv
            obtain ⟨q1, vs, rfl, z1, t1, rl1⟩ := lst_ref rv2
            obtain ⟨q3, ws, rfl, z2, t2, rl2⟩ := lst_ref ru
            exact ⟨q1, q3, vs, ws, rfl, .inl ⟨.inl t1, .inl t2, h c2 H2 _ (l1.trans l2) r2 (walks_zipL z1 t1 z2 t2 rl1 rl2)⟩⟩
end
end Mp
/-! Mp7d: classes called: a new instance. -/
namespace Mp
open PySem PySem.Spec
open PyProof.Rows L2
def litOk : Option D → Bool
  | some .non => true
  | some (.bl _) => true
  | some (.int _) => true
  | some (.str s) => okT s
  | some _ => false
  | none => true
def noneN (fl : List (Option D)) : Nat := (fl.filter fun d => !d.isSome).length
theorem rep_lit {K : Kx} {ad : List Addr} {Z : Addr → Prop} {H : Hp} {d : D} (h : litOk (some d) = true) : RepV K ad Z H d (litV d) := by
  cases d <;> simp only [litOk] at h <;> try (cases h; done)
  · exact okN
  · exact okB
  · exact okI
  · exact okS h
theorem fill_rep {K : Kx} {ad : List Addr} {Z : Addr → Prop} {H : Hp} : ∀ {fl : List (Option D)} {ds : List D} {vs : List V}, fl.all litOk = true → RepL K ad Z H ds vs → RepL K ad Z H (fillA fl ds) (fillV fl vs)
  | [], _, _, _, h => h
  | some d :: r, ds, vs, e, h => by
    rw [List.all_cons, Bool.and_eq_true] at e
    exact RepL.cons (rep_lit e.1) (fill_rep e.2 h)
  | none :: r, [], vs, e, h => by
    simp only [RepL] at h
    subst h
    exact RepL.nil
  | none :: r, d :: ds, vs, e, h => by
    rw [List.all_cons, Bool.and_eq_true] at e
    simp only [RepL] at h
    obtain ⟨v, ws, rfl, h1, h2⟩ := h
    exact RepL.cons h1 (fill_rep e.2 h2)
theorem fill_len : ∀ {fl : List (Option D)} {ds : List D}, ds.length = noneN fl → fl ≠ [] → (fillA fl ds).length = fl.length
  | [], _, _, h => (h rfl).elim
  | [some d], ds, e, _ => by
    have : ds = [] := by simpa [noneN] using e
    subst this; rfl
  | [none], [], e, _ => by simp [noneN] at e
  | [none], [d], e, _ => rfl
  | [none], _ :: _ :: _, e, _ => by simp [noneN] at e
  | some d :: x :: r, ds, e, _ => by
    have := fill_len (fl := x :: r) (ds := ds) (by simpa [noneN] using e) (by simp)
    simp only [fillA] at this ⊢
    simp [this]
  | none :: x :: r, [], e, _ => by
    simp [noneN] at e
  | none :: x :: r, d :: ds, e, _ => by
    have := fill_len (fl := x :: r) (ds := ds) (by simpa [noneN] using e) (by simp)
    simp only [fillA] at this ⊢
    simp [this]
section
variable {p : Pg} {n : Nat} {N : List Str} {sc : Scope} {W : WX} {X : Cx} {A B : Expr} {a b : E} {pos : Pos}
theorem k_nil : PK X [] (tEs p n W .nil) := ⟨fun pos pins s σ H Q I ⟨g, c, sl, mm, r, h⟩ => pk_nil.run pos pins s σ H Q I (by
  simp only [semEs] at h
  exact h c [] H .refl r RepL.nil)⟩
theorem k_cons {e : E} {es : Es} {nm : Option Str} {kpos : Pos} {kws : List Keyword} (ha : PE X A (tE p n W e)) (hr : PK X kws (tEs p n W es)) : PK X (⟨nm, A, kpos⟩ :: kws) (tEs p n W (.cons e es)) :=
  ⟨fun pos pins s σ H Q I h => (pk_cons (nm := nm) (kpos := kpos) ha hr).run pos pins s σ H Q I (by
    obtain ⟨g, c, sl, mm, r, h⟩ := h
    simp only [semEs] at h
    refine ⟨g, c, sl, mm, r, ?_⟩
    cases q : semE p.gv (p.cf n) e sl mm with
    | none => simp only [q] at h; exact h.elim
    | some y =>
      simp only [q] at h
      cases y with
      | ex x mm1 => exact h
      | ok d mm1 =>
        intro c1 v H1 l1 r1 rv
        refine ⟨g, c1, sl, mm1, r1, ?_⟩
        cases q2 : semEs p.gv (p.cf n) es sl mm1 with
        | none => simp only [q2] at h; exact h.elim
        | some y =>
          simp only [q2] at h
          cases y with
          | ex x mm2 => exact fun c2 dd H2 l2 => h c2 dd H2 (l1.trans l2)
          | ok ds mm2 => exact fun c2 vs H2 l2 r2 rl => h c2 (v :: vs) H2 (l1.trans l2) r2 (RepL.cons (RepV.le l2 _ _ rv) rl))⟩
/-- a new instance lies there, __init__ runs on it -/
theorem mk_sp {g : Gh} {c : Cf} {sl : Sl} {mm : Mm} {σ : L2.St} {H : Hp} {Q : VK} {i f : Nat} {ds : List D} {vs : List V} (r : Rep p.K g c sl mm σ H) (rl : RepL p.K c.ad c.Z H ds vs) (hl : vs.length + 1 = (p.T f).np)
    (h : PostE p g c sl σ H W Q (mkS (p.cf n f) i ds mm)) : ∀ x dx, H x = none → H dx = none → dx ≠ x → spF p n f (.ref x :: vs) (upd (upd H dx (.own x)) x (.ins (p.K.xa i) dx [])) (fun v H2 => v = .non ∧ Q (.ref x) H2) (WE W σ) := by
  intro x dx hx hdx hne
  have nzd : ¬ c.Z dx := fun z => r.trk dx z hdx
  have nad : dx ∉ c.ad := fun z => r.adTrk z hdx
  obtain ⟨l0, r0⟩ := r.beside (o := .own x) nzd nad (r.fresh0 hdx)
  have hx0 : upd H dx (.own x) x = none := by rw [upd_ne (Ne.symm hne)]; exact hx
  have r1 : Rep p.K g (c.own x) sl (mm ++ [.mu (.obj i [])]) σ (upd (upd H dx (.own x)) x (.ins (p.K.xa i) dx [])) := r0.ownG hx0 rfl (by
    show ∃ dx vs, _
    refine ⟨dx, [], ?_, RepL.nil, by simp⟩
    rw [upd_same, List.zip_nil_right])
  have l1 := l0.trans (le_own (o := .ins (p.K.xa i) dx []) r0.trk hx0)
  have rm : RepV p.K (c.own x).ad (c.own x).Z (upd (upd H dx (.own x)) x (.ins (p.K.xa i) dx [])) (.m mm.length) (.ref x) := by
    simp only [RepV]
    exact ⟨x, by rw [← r.lenA]; simp [Cf.own], rfl⟩
  have h2 := PostE.from h l1
  unfold mkS at h2
  refine call_sp (W := W) (Q := fun v H2 => v = .non ∧ Q (.ref x) H2) r1 (RepL.cons rm (RepL.le l1 _ _ rl)) hl ?_ fun x dd H' _ hw => hw
  cases e : callS (p.cf n f) (.m mm.length :: ds) (mm ++ [.mu (.obj i [])]) with
  | none => rw [e] at h2; exact h2.elim
  | some y =>
    rw [e] at h2
    cases y with
    | ex x mm1 => exact h2
    | ok d mm1 =>
      cases d <;> first | exact h2.elim | skip
      intro c2 v H2 l2 r2 rv
      exact ⟨repV_non rv, h2 c2 (.ref x) H2 l2 r2 (RepV.le l2 _ _ rm)⟩
/-- C(e, ..) -/
theorem s_mk (o : XOk p n N sc W X) {c f : Nat} {es : Es} {e0 : Expr} {as : List Expr} {p1 : Pos} (hi : p.ini c = some f) (hk : p.kbs f = []) (hg : glB sc (p.cn c) = true) (ha : PA X (e0 :: as) (tEs p n W es)) (pl : (e0 :: as).all plainA = true) (hl : es.len + 1 = (p.T f).np) (hal : (e0 :: as).length = es.len) :
    PE X (.Call (.Name (p.cn c) p1) (e0 :: as) [] pos) (tE p n W (.mk c f es .nil [])) := by
  obtain ⟨hc, hd, M⟩ := o.own.ini c f hi
  have F := o.own.cls c hc
  obtain ⟨fd, ps, hps, hb, FO⟩ := (o.fnF hd hk).ex
  have hK := o.K
  rw [List.all_cons, Bool.and_eq_true] at pl
  refine PEimp (pe_makeOwn (E := WE W) (by rw [hK]; exact M) FO (o.room.mono (by omega)) (o.gl hg) (by rw [o.mg]; exact F.mg) hb o.passes ha (by rw [hps, ← hl, hal]) (nm_deb (gl_nm hg)) (star_plain pl.1 _ _) (star_none pl.2 _ _)) fun σ H Q ⟨g, cc, sl, mm, r, h⟩ => ?_
  simp only [semE] at h
  refine ⟨g, cc, sl, mm, r, ?_⟩
  cases q : semEs p.gv (p.cf n) es sl mm with
  | none => rw [q] at h; exact h.elim
  | some y =>
    rw [q] at h
    cases y with
    | ex x mm1 => exact h
    | ok ds mm1 =>
      intro c1 vs H1 l1 r1 rl
      have hlen : vs.length + 1 = (p.T f).np := by rw [rl.len, semEs_len q]; exact hl
      refine ⟨by rw [hlen, hps], ?_⟩
      have h2 := PostE.from h l1
      simp only [semEs, List.append_nil, fillA] at h2
      exact mk_sp r1 rl hlen h2
/-- C(e, .., k = v, ..) -/
theorem s_mkK (o : XOk p n N sc W X) {c f m : Nat} {es es2 : Es} {ks : List Str} {fl : List (Option D)} {e0 : Expr} {as : List Expr} {kws : List Keyword} {p1 : Pos} (hi : p.ini c = some f) (hk : (m, ks, fl) ∈ p.kbs f) (hg : glB sc (p.cn c) = true) (ha : PA X (e0 :: as) (tEs p n W es)) (pl : (e0 :: as).all plainA = true)
    (hkw : PK X kws (tEs p n W es2)) (hall : (backToKw pos (keywordEach kws X.env)).all (·.1.isSome) = true) (hks : (backToKw pos (keywordEach kws X.env)).filterMap (·.1) = ks) (hn : (backToKw pos (keywordEach kws X.env)).any (·.1.isNone) = false)
    (h1 : es.len = m) (h2 : es2.len = ks.length) (hlit : fl.all litOk = true) (hno : noneN fl = m + ks.length) (hfl : fl ≠ []) (hl : fl.length + 1 = (p.T f).np) :
    PE X (.Call (.Name (p.cn c) p1) (e0 :: as) kws pos) (tE p n W (.mk c f es es2 fl)) := by
  obtain ⟨hc, hd, M⟩ := o.own.ini c f hi
  have F := o.own.cls c hc
  obtain ⟨_, fd, ps, hps, _, hkb, FO⟩ := o.fns f hd
  obtain ⟨gg, gV, KB, hgV⟩ := hkb _ hk
  have hK := o.K
  have hM := o.mg
  have pl0 := pl
  rw [List.all_cons, Bool.and_eq_true] at pl
  refine PEimp (pe_makeOwnK (E := WE W) (by rw [hK]; exact M) (by rw [hK, hM]; exact FO) (o.room.mono (by omega)) (o.gl hg) (by rw [hM]; exact F.mg) (by rw [hK]; exact KB) o.passes ha hkw hall hks (nm_deb (gl_nm hg)) (star_plain pl.1 _ _) (by rw [star_none pl0, hn]; rfl)) fun σ H Q ⟨g, cc, sl, mm, r, h⟩ => ?_
  simp only [semE] at h
  refine ⟨g, cc, sl, mm, r, ?_⟩
  cases q : semEs p.gv (p.cf n) es sl mm with
  | none => simp only [q] at h; exact h.elim
  | some y =>
    simp only [q] at h
    cases y with
    | ex x mm1 => exact h
    | ok ds mm1 =>
      intro c1 vs H1 l1 r1 rl
      refine ⟨g, c1, sl, mm1, r1, ?_⟩
      cases q2 : semEs p.gv (p.cf n) es2 sl mm1 with
      | none => simp only [q2] at h; exact h.elim
      | some y =>
        simp only [q2] at h
        cases y with
        | ex x mm2 => exact fun c2 dd H2 l2 => h c2 dd H2 (l1.trans l2)
        | ok ds2 mm2 =>
          intro c2 zs H2 l2 r2 rl2
          have e1 : vs.length = m := by rw [rl.len, semEs_len q, h1]
          have e2 : zs.length = ks.length := by rw [rl2.len, semEs_len q2, h2]
          refine ⟨e1, e2, ?_⟩
          have h3 := PostE.from h (l1.trans l2)
          have rr := fill_rep hlit (RepL.app (RepL.le l2 _ _ rl) rl2)
          intro x dx hx hdx hne
          rw [hgV _ _ _ e1 e2]
          refine mk_sp r2 rr ?_ h3 x dx hx hdx hne
          rw [rr.len, fill_len (by rw [List.length_append, semEs_len q, semEs_len q2, h1, h2, hno]) hfl]
          exact hl
end
end Mp
/-! Mp9: comprehensions. -/
namespace Mp
open PySem PySem.Spec
open PyProof.Rows L2
abbrev W0 : WX := fun _ _ _ _ => False
theorem wipe_wipe (σ : L2.St) (is : List Nat) : L2.wipe (L2.wipe σ is) is = L2.wipe σ is := by
  apply List.ext_getElem?
  intro k
  by_cases hk : k ∈ is
  · rw [wipe_get _ hk, wipe_get _ hk, L2.wipe_length]
  · rw [L2.wipe_out hk, L2.wipe_out hk]
section
variable {K : Kx} {g : Gh} {c c2 : Cf} {sl sl2 : Sl} {mm mm2 : Mm} {σ σ2 : L2.St} {H H2 : Hp} {q : Addr}
/-- the slots as they were, all else as it is now -/
theorem Rep.slots (r : Rep K g c sl mm σ H) (l : c.Le H c2 H2) (r2 : Rep K g c2 sl2 mm2 σ2 H2) : Rep K g c2 sl mm2 σ H2 :=
  ⟨r.lenS, r2.lenA, fun i d e => by
    obtain ⟨v, w, rv⟩ := r.slot i d e
    exact ⟨v, w, RepV.le l d v rv⟩, r2.obj, r2.nd, r2.frm, r2.zin, r2.trk, r2.pre, r2.adn⟩
/-- what stands beside, over an inner ghost -/
theorem Rep.keepD {o : HO} (r : Rep K ⟨H, c.Z, c.ad⟩ c2 sl2 mm2 σ2 H2) (hq : H q = some o) (na : q ∉ c.ad) (nz : ¬ c.Z q) : H2 q = some o ∧ q ∉ c2.ad ∧ ¬ c2.Z q := by
  have n2 : q ∉ c2.ad := fun z => (r.adn q z).elim na fun w => by
    have w' : H q = none := w
    rw [hq] at w'; cases w'
  refine ⟨r.frm q o hq n2, n2, fun z => ?_⟩
  rcases r.zin q z with w | w | w
  · exact nz w
  · have w' : H q = none := w
    rw [hq] at w'; cases w'
  · exact na w
def hid (H : Hp) (q : Addr) : Hp := fun b => if b = q then none else H b
theorem hid_upd {o : HO} (h : H q = some o) : upd (hid H q) q o = H := by
  funext b
  unfold upd hid
  by_cases e : b = q
  · subst e; simp [h]
  · simp [e]
theorem Rep.without (r : Rep K g c sl mm σ H) (nz : ¬ c.Z q) (na : q ∉ c.ad) (h0 : g.H0 q = none) : Rep K g c sl mm σ (hid H q) := by
  have hne : ∀ b, b ≠ q → hid H q b = H b := fun b e => by unfold hid; rw [if_neg e]
  have l : c.Le H c (hid H q) := ⟨⟨[], by simp⟩, fun _ z => z, fun b u z w => by
    have e : b ≠ q := fun e => nz (e ▸ z)
    unfold Rd at w ⊢
    rw [hne b e]; exact w⟩
  refine ⟨r.lenS, r.lenA, fun i d e => ?_, fun k a x e1 e2 => ?_, r.nd, fun b u e1 e2 => ?_, r.zin, fun b z => ?_, r.pre, r.adn⟩
  · obtain ⟨v, w, rv⟩ := r.slot i d e
    exact ⟨v, w, RepV.le l d v rv⟩
  · have ha : a ≠ q := fun e => na (e ▸ List.mem_of_getElem? e1)
    have := r.obj k a x e1 e2
    cases x with
    | mu d => exact ⟨this.1, this.2.1, RepM.le l (hne a ha) this.2.2⟩
    | fz d => exact ⟨this.1, this.2.1, RepV.le l _ _ this.2.2⟩
  · rw [hne b (fun e => by rw [e, h0] at e1; cases e1)]
    exact r.frm b u e1 e2
  · rw [hne b (fun e => nz (e ▸ z))]
    exact r.trk b z
/-- a thing that stood beside is settled, is taken over -/
theorem Rep.settle {o : HO} (r : Rep K g c sl mm σ H) (nz : ¬ c.Z q) (na : q ∉ c.ad) (h0 : g.H0 q = none) (hq : H q = some o) : c.Le H (c.add q) H ∧ Rep K g (c.add q) sl mm σ H := by
  refine ⟨⟨⟨[], by simp [Cf.add]⟩, fun a z => .inl z, fun _ _ _ w => w⟩, ?_⟩
  have := (r.without nz na h0).fresh (p := q) (o := o) (by unfold hid; simp)
  rw [hid_upd hq] at this
  exact this
theorem Rep.take {vs : List V} {ds : List D} (r : Rep K g c sl mm σ H) (nz : ¬ c.Z q) (na : q ∉ c.ad) (h0 : g.H0 q = none) (hq : H q = some (.lst vs)) (hp : pureDs ds = true) (rl : RepL K c.ad c.Z H ds vs) :
    c.Le H (c.own q) H ∧ Rep K g (c.own q) sl (mm ++ [.mu (.lst ds)]) σ H := by
  refine ⟨⟨⟨[q], rfl⟩, fun a z => z, fun _ _ _ w => w⟩, ?_⟩
  have hne : ∀ b, b ≠ q → hid H q b = H b := fun b e => by unfold hid; rw [if_neg e]
  have l : c.Le H c (hid H q) := ⟨⟨[], by simp⟩, fun _ z => z, fun b u z w => by
    have e : b ≠ q := fun e => nz (e ▸ z)
    unfold Rd at w ⊢
    rw [hne b e]; exact w⟩
  have := (r.without nz na h0).own (p := q) (vs := vs) (by unfold hid; simp) hp (RepL.le l _ _ rl)
  rw [hid_upd hq] at this
  exact this
end
section
variable {p : Pg} {n : Nat} {N : List Str} {sc : Scope} {W : WX} {X : Cx} {pos : Pos}
theorem drop_at {α : Type} {xs : List α} {i : Nat} {x : α} (e : xs[i]? = some x) : xs.drop i = x :: xs.drop (i + 1) := by
  have hi : i < xs.length := (List.getElem?_eq_some_iff.mp e).1
  rw [List.drop_eq_getElem_cons hi]
  have := (List.getElem?_eq_some_iff.mp e).2
  rw [this]
/-- what a comprehension's turns need -/
structure LcInv (p : Pg) (n : Nat) (W : WX) (g : Gh) (c1 : Cf) (H1 : Hp) (sl : Sl) (σ : L2.St) (q : Addr) (Q : VK) (k : D → Mm → Option RE) (tg : Tg) (cnd elt : E) (xs : List D) (H : Hp) : Prop where
  ex : ∃ c2 mm2 acc vs, c1.Le H1 c2 H ∧ Rep p.K g c2 sl mm2 σ H ∧ H q = some (.lst vs) ∧ q ∉ c2.ad ∧ ¬ c2.Z q ∧ RepL p.K c2.ad c2.Z H acc vs ∧ pureDs acc = true ∧
    PostE p g c2 sl σ H W Q (bindE (lcS tg (semE p.gv (p.cf n) cnd) (semE p.gv (p.cf n) elt) sl xs acc mm2) k)
theorem lc_turn {g : Gh} {c1 : Cf} {H1 H : Hp} {sl : Sl} {σ : L2.St} {q : Addr} {Q : VK} {k : D → Mm → Option RE} {tg : Tg} {cnd elt : E} {x : D} {xs : List D} (h0 : g.H0 q = none)
    (hI : LcInv p n W g c1 H1 sl σ q Q k tg cnd elt (x :: xs) H) : ∃ c2 mm2, c1.Le H1 c2 H ∧ Rep p.K g c2 sl mm2 σ H ∧ ∀ v H', (∃ c', c2.Le H c' H' ∧ Rep p.K g c' sl mm2 σ H' ∧ RepV p.K c'.ad c'.Z H' x v ∧ (∀ b o, H b = some o → H' b = some o) ∧ c'.ad = c2.ad ∧ ∀ b, c'.Z b → c2.Z b ∨ H b = none) →
      tG p tg v (L2.wipe σ (tgIx tg)) H' fun σ2 H2 => L2.wipe σ2 (tgIx tg) = L2.wipe σ (tgIx tg) ∧ tB p n W0 cnd σ2 H2 fun b H3 =>
        if b = true then tE p n W0 elt σ2 H3 fun y H4 => ∃ acc, H4 q = some (.lst acc) ∧ acc.length < sizeLine ∧ LcInv p n W g c1 H1 sl σ q Q k tg cnd elt xs (upd H4 q (.lst (acc ++ [y]))) else LcInv p n W g c1 H1 sl σ q Q k tg cnd elt xs H3 := by
  obtain ⟨c2, mm2, acc, vs, l2, r2, hq, na, nz, rl, pl, h⟩ := hI.ex
  refine ⟨c2, mm2, l2, r2, fun v H' ⟨c3, l3, r3, rv, keep, ead, ez⟩ => ?_⟩
  have hq3 := keep q _ hq
  have na3 : q ∉ c3.ad := by rw [ead]; exact na
  have nz3 : ¬ c3.Z q := fun z => (ez q z).elim nz fun w => by rw [hq] at w; cases w
  simp only [lcS] at h
  cases e1 : bindT tg x (wipeS sl (tgIx tg)) with
  | none => simp only [e1] at h; exact h.elim
  | some sl' =>
    simp only [e1] at h
    refine ⟨g, c3, wipeS sl (tgIx tg), mm2, x, sl', r3.wipe _, rv, e1, fun σ2 r4 hw => ⟨by rw [hw, wipe_wipe], ⟨H', c3.Z, c3.ad⟩, c3, sl', mm2, r4.inner, ?_⟩⟩
    cases e2 : semE p.gv (p.cf n) cnd sl' mm2 with
    | none => simp only [e2] at h; exact h.elim
    | some y =>
      cases y with
      | ex xx mm3 => simp only [e2] at h; exact h.elim
      | ok d mm3 =>
        cases d with
        | bl b =>
          intro c4 H3 l4 r5
          obtain ⟨hq4, na4, nz4⟩ := r5.keepD hq3 na3 nz3
          have r6 := r4.outer r5
          have l6 : c2.Le H c4 H3 := l3.trans l4
          cases b with
          | false =>
            simp only [e2] at h
            rw [if_neg Bool.false_ne_true]
            exact ⟨⟨c4, mm3, acc, vs, l2.trans l6, r2.slots l6 r6, hq4, na4, nz4, RepL.le l6 _ _ rl, pl, PostE.from h l6⟩⟩
          | true =>
            simp only [e2] at h
            rw [if_pos rfl]
            refine ⟨⟨H3, c4.Z, c4.ad⟩, c4, sl', mm3, r6.inner, ?_⟩
            cases e3 : semE p.gv (p.cf n) elt sl' mm3 with
            | none => simp only [e3] at h; exact h.elim
            | some y =>
              cases y with
              | ex xx mm4 => simp only [e3] at h; exact h.elim
              | ok d mm4 =>
                simp only [e3] at h
                intro c5 w H4 l7 r7 rw'
                obtain ⟨hq5, na5, nz5⟩ := r7.keepD hq4 na4 nz4
                have r8 := r6.outer r7
                have l8 : c2.Le H c5 H4 := l6.trans l7
                have rl5 := RepL.le l8 _ _ rl
                cases z : (pureD d && decide (acc.length < szl)) with
                | false => simp only [z] at h; exact h.elim
                | true =>
                  simp only [z, if_true] at h
                  rw [Bool.and_eq_true] at z
                  refine ⟨vs, hq5, by rw [rl5.len]; exact of_decide_eq_true z.2, ?_⟩
                  obtain ⟨l9, r9⟩ := (r2.slots l8 r8).beside (o := .lst (vs ++ [w])) nz5 na5 h0
                  exact ⟨⟨c5, mm4, acc ++ [d], vs ++ [w], l2.trans (l8.trans l9), r9, upd_same, na5, nz5, RepL.le l9 _ _ (rl5.app (RepL.one rw')), pureDs_app pl (pureDs_one z.1), PostE.from h (l8.trans l9)⟩⟩
        | _ => simp only [e2] at h; exact h.elim
theorem lc_end {g : Gh} {c1 : Cf} {H1 H : Hp} {sl : Sl} {σ : L2.St} {q : Addr} {Q : VK} {mu : Bool} {tg : Tg} {cnd elt : E} (h0 : g.H0 q = none)
    (hI : LcInv p n W g c1 H1 sl σ q Q (fun d mm2 => if mu then okE (.m mm2.length) (mm2 ++ [.mu d]) else okE d mm2) tg cnd elt [] H) : Q (.ref q) H := by
  obtain ⟨c2, mm2, acc, vs, l2, r2, hq, na, nz, rl, pl, h⟩ := hI.ex
  simp only [lcS, okE, bindE] at h
  cases mu with
  | false =>
    simp only [Bool.false_eq_true, if_false] at h
    obtain ⟨l3, r3⟩ := r2.settle nz na h0 hq
    refine h (c2.add q) _ H l3 r3 ?_
    simp only [RepV]
    exact ⟨q, vs, rfl, ⟨.inr rfl, .inl hq⟩, RepL.le l3 _ _ rl⟩
  | true =>
    simp only [if_true] at h
    obtain ⟨l3, r3⟩ := r2.take nz na h0 hq pl rl
    refine h (c2.own q) _ H l3 r3 ?_
    simp only [RepV]
    exact ⟨q, by rw [← r2.lenA]; simp [Cf.own], rfl⟩
/-- the reading of a comprehension -/
theorem lc_read {it : It} {mu : Bool} {tg : Tg} {cnd elt : E} {σ : L2.St} {H : Hp} {Q : VK} (h : tE p n W (.lc mu tg elt it cnd) σ H Q) : tLc (tI p n W it) (tG p tg) (tB p n W0 cnd) (tE p n W0 elt) (tgIx tg) σ H Q := by
  obtain ⟨g, c, sl, mm, r, h⟩ := h
  simp only [semE] at h
  refine ⟨g, c, sl, mm, r, ?_⟩
  cases e : semI p.gv (p.cf n) it sl mm with
  | none => rw [e] at h; exact h.elim
  | some y =>
    rw [e] at h
    cases y with
    | ex x mm1 => exact h
    | ok xs mm1 =>
      intro c1 H1 J l1 r1 wk q hq
      have nz : ¬ c1.Z q := fun z => r1.trk q z hq
      have na : q ∉ c1.ad := fun z => r1.adTrk z hq
      have h0 := r1.fresh0 hq
      obtain ⟨lb, rb⟩ := r1.beside (o := .lst []) nz na h0
      refine ⟨fun i m H2 => i + m = xs.length ∧ LcInv p n W g c1 (upd H1 q (.lst [])) sl σ q Q (fun d mm2 => if mu then okE (.m mm2.length) (mm2 ++ [.mu d]) else okE d mm2) tg cnd elt (xs.drop i) H2, ⟨xs.length, by omega, ⟨c1, mm1, [], [], .refl, rb, upd_same, na, nz, RepL.nil, rfl, PostE.from h (l1.trans lb)⟩⟩, fun i m H2 ⟨em, hI⟩ => ?_⟩
      by_cases hi : i < xs.length
      · have ex : xs[i]? = some xs[i] := List.getElem?_eq_getElem hi
        rw [drop_at ex] at hI
        obtain ⟨c2, mm2, l2, r2, turn⟩ := lc_turn h0 hI
        obtain ⟨go, yl⟩ := wk.step i _ ex g c2 sl mm2 σ H2 (lb.trans l2) r2
        exact .inr ⟨go, fun H3 => LcInv p n W g c1 (upd H1 q (.lst [])) sl σ q Q (fun d mm2 => if mu then okE (.m mm2.length) (mm2 ++ [.mu d]) else okE d mm2) tg cnd elt (xs.drop (i + 1)) H3, fun H3 hN => ⟨m - 1, by omega, by omega, hN⟩, fun x H3 hy => turn x H3 (yl x H3 hy)⟩
      · have ei : i = xs.length := by omega
        rw [List.drop_eq_nil_of_le (by omega)] at hI
        obtain ⟨c2, mm2, acc, vs, l2, r2, _⟩ := hI.ex
        refine .inl ⟨by rw [ei]; exact wk.stop g c2 sl mm2 σ H2 (lb.trans l2) r2, lc_end h0 hI⟩
/-- [elt for tg in it if cnd] -/
theorem s_lc (o : XOk p n N sc W X) {it : It} {mu : Bool} {tg : Tg} {cnd elt : E} {eltE tgE iterE : Expr} {ifs : List Expr} {scope : Scope} {own : List (Str × Nat)} (hi : PI X tgE iterE (tI p n W it)) (ok : BlkOk X.N X.env.scope scope own) (ho : own.map (·.2) = tgIx tg)
    (hg : ∀ (s : Shared) (H : Hp) (C : Addr) (cl : List (Str × Addr)) (fp : List Addr), PG (X.blk s H scope (compEnvC scope cl C X.env) fp) tgE (tG p tg)) (ht : ∀ (s : Shared) (H : Hp) (C : Addr) (cl : List (Str × Addr)) (fp : List Addr), PTs (X.blk s H scope (compEnvC scope cl C X.env) fp) ifs (tB p n W0 cnd))
    (he : ∀ (s : Shared) (H : Hp) (C : Addr) (cl : List (Str × Addr)) (fp : List Addr), PE (X.blk s H scope (compEnvC scope cl C X.env) fp) eltE (tE p n W0 elt)) (pi : plainA iterE = true) : PE X (.ListComp eltE [⟨tgE, iterE, ifs, 0⟩] scope pos) (tE p n W (.lc mu tg elt it cnd)) := by
  refine PEimp (pe_lc o.calm (by rw [o.nm]; exact o.nd) hi ok hg ht he (fold_plain pi _)) fun σ H Q h => ?_
  rw [ho]
  exact lc_read h
end
end Mp
/-! Mp9b: dict displays. -/
namespace Mp
open PySem PySem.Spec
open PyProof.Rows L2
section
variable (p : Pg) (n : Nat) (W : WX)
def trsOf : List D → Es → List (TE × TE)
  | k :: ks, .cons e es => (tC (kV (keyT k)), tE p n W e) :: trsOf ks es
  | _, _ => []
end
section
variable {p : Pg} {n : Nat} {N : List Str} {sc : Scope} {W : WX} {X : Cx} {pos : Pos}
theorem pairs_ok {g : Gh} : ∀ {es : Es} {ks : List D} {c : Cf} {sl : Sl} {mm : Mm} {σ : L2.St} {H : Hp} {F : List (V × V) → Hp → Prop}, ks.length = es.len → Rep p.K g c sl mm σ H →
    PostL p g c sl σ H W (fun vs H' => F ((ks.map fun k => kV (keyT k)).zip vs) H') (semEs p.gv (p.cf n) es sl mm) → tPairs (trsOf p n W ks es) σ H F
  | .nil, ks, c, sl, mm, σ, H, F, hl, r, h => by
    have e : ks = [] := by
      cases ks with
      | nil => rfl
      | cons k ks => simp [Es.len] at hl
    subst e
    simp only [semEs] at h
    exact h c [] H .refl r RepL.nil
  | .cons e es, [], c, sl, mm, σ, H, F, hl, r, h => by simp [Es.len] at hl
  | .cons e es, k :: ks, c, sl, mm, σ, H, F, hl, r, h => by
    simp only [semEs] at h
    refine ⟨g, c, sl, mm, r, ?_⟩
    cases q : semE p.gv (p.cf n) e sl mm with
    | none => rw [q] at h; exact h.elim
    | some x =>
      rw [q] at h
      cases x with
      | ex x mm1 => exact h
      | ok d mm1 =>
        intro c1 v H1 l1 r1 rv1
        refine pairs_ok (by simpa [Es.len] using hl) r1 ?_
        simp only [] at h
        cases q2 : semEs p.gv (p.cf n) es sl mm1 with
        | none => simp only [q2] at h; exact h.elim
        | some y =>
          simp only [q2] at h
          cases y with
          | ex x mm2 => exact fun c2 dd H2 l2 r2 q => h c2 dd H2 (l1.trans l2) r2 q
          | ok ds mm2 => exact fun c2 vs H2 l2 r2 rl => h c2 (v :: vs) H2 (l1.trans l2) r2 (RepL.cons (RepV.le l2 _ _ rv1) rl)
theorem merge_new : ∀ {kvs acc : List (L2.Key × V)}, ((acc ++ kvs).map (·.1)).Nodup → mergeK acc kvs = acc ++ kvs
  | [], acc, _ => by simp [mergeK]
  | q :: kvs, acc, h => by
    have hn : valV acc q.1 = none := by
      cases e : valV acc q.1 with
      | none => rfl
      | some v =>
        exfalso
        unfold valV at e
        obtain ⟨z, hz, _⟩ := Option.map_eq_some_iff.mp e
        have h1 := List.mem_of_find?_eq_some hz
        have h3 := List.find?_some hz
        have h2 : z.1 = q.1 := of_decide_eq_true h3
        rw [List.map_append, List.nodup_append] at h
        exact h.2.2 z.1 (List.mem_map_of_mem h1) q.1 (by simp) h2
    show mergeK (putK acc q.1 q.2) kvs = _
    rw [putK_new _ hn, merge_new (by simpa [List.append_assoc] using h), List.append_assoc]; rfl
theorem memD_key {x : D} (hx : isKT x = true) : ∀ {ks : List D}, ks.all isKT = true → memD x ks = false → keyT x ∉ ks.map keyT
  | [], _, _ => by simp
  | k :: ks, hk, h => by
    rw [List.all_cons, Bool.and_eq_true] at hk
    simp only [memD, List.any_cons, Bool.or_eq_false_iff] at h
    rw [eqD_key hk.1 hx] at h
    rw [List.map_cons, List.mem_cons, not_or]
    exact ⟨fun z => of_decide_eq_false h.1 z.symm, memD_key hx hk.2 h.2⟩
theorem ndK_nodup : ∀ {ks : List D}, ks.all isKT = true → ndK ks = true → (ks.map keyT).Nodup
  | [], _, _ => by simp
  | k :: ks, hk, h => by
    rw [List.all_cons, Bool.and_eq_true] at hk
    simp only [ndK, Bool.and_eq_true, Bool.not_eq_true'] at h
    rw [List.map_cons, List.nodup_cons]
    exact ⟨memD_key hk.1 hk.2 h.1, ndK_nodup hk.2 h.2⟩
theorem pure_keys : ∀ {ks : List D}, ks.all isKT = true → pureDs ks = true
  | [], _ => rfl
  | k :: ks, h => by
    rw [List.all_cons, Bool.and_eq_true] at h
    simp only [pureDs, Bool.and_eq_true]
    refine ⟨?_, pure_keys h.2⟩
    have := h.1
    cases k <;> simp only [isKT, Bool.false_eq_true] at this <;> rfl
theorem zip_kvs : ∀ {ks : List D} {vs : List V}, ks.length = vs.length → (ks.map fun k => kV (keyT k)).zip vs = (((ks.map keyT).zip vs).map fun q => (kV q.1, q.2)) ∧ ((ks.map keyT).zip vs).map (·.1) = ks.map keyT ∧ ((ks.map keyT).zip vs).map (·.2) = vs
  | [], [], _ => ⟨rfl, rfl, rfl⟩
  | k :: ks, v :: vs, h => by
    obtain ⟨a, b, c⟩ := zip_kvs (ks := ks) (vs := vs) (by simpa using h)
    simp only [List.map_cons, List.zip_cons_cons, a, b, c, and_self]
theorem keys_kV {ks : List D} {kvs : List (L2.Key × V)} (e : kvs.map (·.1) = ks.map keyT) : (kvs.map fun q => kV q.1) = ks.map fun k => kV (keyT k) := by
  have := congrArg (List.map kV) e
  simpa [List.map_map, Function.comp_def] using this
theorem repL_keys {K : Kx} {ad : List Addr} {Z : Addr → Prop} {H : Hp} : ∀ {ks : List D}, ks.all isKT = true → ks.all okKT = true → RepL K ad Z H ks (ks.map fun k => kV (keyT k))
  | [], _, _ => RepL.nil
  | k :: ks, h1, h2 => by
    rw [List.all_cons, Bool.and_eq_true] at h1 h2
    refine RepL.cons ?_ (repL_keys h1.2 h2.2)
    have a := h1.1
    have b := h2.1
    cases k <;> simp only [isKT, Bool.false_eq_true] at a
    · simp only [RepV]; rfl
    · simp only [RepV]; exact ⟨rfl, b⟩
theorem s_dsp {keys : List (Option Expr)} {vals : List Expr} {ks : List D} {es : Es} (hp : PPs X pos keys vals (trsOf p n W ks es)) (hall : keys.all (·.isSome) = true) (hl : keys.length = vals.length) (h0 : keys ≠ []) (h15 : keys.length ≤ 15) (hks : ks.length = es.len) :
    PE X (.Dict keys vals pos) (tE p n W (.dsp ks es)) :=
  PEimp (pe_disp hp hall hl h0 h15) fun σ H Q ⟨g, c, sl, mm, r, h⟩ => by
    simp only [semE] at h
    intro q hq
    have nz : ¬ c.Z q := fun z => r.trk q z hq
    have na : q ∉ c.ad := fun z => r.adTrk z hq
    have h0' := r.fresh0 hq
    obtain ⟨lb, rb⟩ := r.beside (o := .dK []) nz na h0'
    refine pairs_ok (g := ⟨upd H q (.dK []), c.Z, c.ad⟩) hks rb.inner ?_
    cases e : semEs p.gv (p.cf n) es sl mm with
    | none => rw [e] at h; exact h.elim
    | some y =>
      rw [e] at h
      cases y with
      | ex x mm1 => exact fun c2 dd H2 l2 r2 rx => h c2 dd H2 (lb.trans l2) (rb.outer r2) rx
      | ok ds mm1 =>
        intro c2 vs H2 l2 r2 rl
        obtain ⟨hq2, na2, nz2⟩ := r2.keepD upd_same na nz
        have r3 := rb.outer r2
        simp only [] at h
        cases z : (pureDs ds && decide (ks.length = ds.length) && decide (ks.length ≤ 15) && decide (0 < ks.length) && ks.all isKT && ndK ks && ks.all okKT) with
        | false => simp only [z] at h; exact h.elim
        | true =>
          simp only [z, if_true] at h
          simp only [Bool.and_eq_true, decide_eq_true_eq] at z
          obtain ⟨⟨⟨⟨⟨⟨z1, z2⟩, z3⟩, z4⟩, z5⟩, z6⟩, z7⟩ := z
          obtain ⟨e1, e2, e3⟩ := zip_kvs (ks := ks) (vs := vs) (by rw [z2, rl.len])
          refine ⟨hq2, (ks.map keyT).zip vs, e1, by rw [List.length_zip, List.length_map]; omega, ?_⟩
          rw [merge_new (by rw [List.nil_append, e2]; exact ndK_nodup z5 z6), List.nil_append]
          obtain ⟨l4, r4⟩ := r3.beside (o := .dK ((ks.map keyT).zip vs)) nz2 na2 h0'
          obtain ⟨l5, r5⟩ := r4.settle nz2 na2 h0' upd_same
          refine h (c2.add q) _ _ (lb.trans (l2.trans (l4.trans l5))) r5 ?_
          simp only [RepV]
          exact ⟨q, _, rfl, .inr rfl, .inl upd_same, e2, z5, by rw [keys_kV e2]; exact repL_keys z5 z7, by rw [e3]; exact RepL.le (l4.trans l5) _ _ rl⟩
end
end Mp
/-! Mp10: statements. -/
namespace Mp
open PySem PySem.Spec
open PyProof.Rows L2
def PostS (p : Pg) (g : Gh) (c : Cf) (H : Hp) (D : Ends) (W : WX) : Option RS → Prop
  | none => False
  | some (.nx sl mm) => ∀ c' σ' H', c.Le H c' H' → Rep p.K g c' sl mm σ' H' → D.nx σ' H'
  | some (.bk sl mm) => ∀ c' σ' H', c.Le H c' H' → Rep p.K g c' sl mm σ' H' → D.bk σ' H'
  | some (.ct sl mm) => ∀ c' σ' H', c.Le H c' H' → Rep p.K g c' sl mm σ' H' → D.ct σ' H'
  | some (.rt d mm) => ∀ c' sl' σ' v H', c.Le H c' H' → Rep p.K g c' sl' mm σ' H' → RepV p.K c'.ad c'.Z H' d v → D.rt v H'
  | some (.ex x sl mm) => ∀ c' dd σ' H', c.Le H c' H' → Rep p.K g c' sl mm σ' H' → RepX p.K c'.Z H' x dd → W (.ref (p.ea x.cls)) dd σ' H'
def tS (p : Pg) (n : Nat) (W : WX) (s : S) : TS := fun D σ H => ∃ g c sl mm, Rep p.K g c sl mm σ H ∧ PostS p g c H D W (semS p.sub p.gv (p.cf n) s sl mm)
def tBk (p : Pg) (n : Nat) (W : WX) (b : B) : TS := fun D σ H => ∃ g c sl mm, Rep p.K g c sl mm σ H ∧ PostS p g c H D W (semB p.sub p.gv (p.cf n) b sl mm)
/-- where a statement stands -/
structure SOk (p : Pg) (n : Nat) (N : List Str) (sc : Scope) (W : WX) (X : Cx) : Prop extends XOk p n N sc W X where
  kind : X.env.scope.kind = .function
  stk : X.stack = X.env :: X.outer
  frm : X.env.frame = some X.env.locals
  fnA : ∀ x, X.fn x = true
  pown : PassesOwn (model X.prog X.w) X.A X.env X.xe
section
variable {p : Pg} {n : Nat} {N : List Str} {sc : Scope} {W : WX} {X : Cx} {pos : Pos} {g : Gh} {c c' : Cf} {sl : Sl} {mm : Mm} {σ : L2.St} {H H' : Hp} {D D' : Ends}
theorem PSimp {st : Stmt} {t t' : TS} (h : PS X st t) (i : ∀ D σ H, t' D σ H → t D σ H) : PS X st t' := ⟨fun pins s σ H D I q => h.run pins s σ H D I (i D σ H q)⟩
theorem PSsimp {st : List Stmt} {t t' : TS} (h : PSs X st t) (i : ∀ D σ H, t' D σ H → t D σ H) : PSs X st t' := ⟨fun pins s σ H D I q => h.run pins s σ H D I (i D σ H q)⟩
theorem PostS.from {r : Option RS} (h : PostS p g c H D W r) (l : c.Le H c' H') : PostS p g c' H' D W r := by
  cases r with
  | none => exact h
  | some r =>
    cases r with
    | nx sl mm => exact fun c2 σ' H2 l2 r => h c2 σ' H2 (l.trans l2) r
    | bk sl mm => exact fun c2 σ' H2 l2 r => h c2 σ' H2 (l.trans l2) r
    | ct sl mm => exact fun c2 σ' H2 l2 r => h c2 σ' H2 (l.trans l2) r
    | rt d mm => exact fun c2 sl' σ' v H2 l2 r => h c2 sl' σ' v H2 (l.trans l2) r
    | ex x sl mm => exact fun c2 dd σ' H2 l2 r => h c2 dd σ' H2 (l.trans l2) r
/-- a statement's expression -/
def exprS (r : Option RE) (sl : Sl) (f : Mp.D → Mm → Option RS) : Option RS := match r with
  | some (.ok d mm) => f d mm
  | some (.ex x mm) => some (.ex x sl mm)
  | none => none
theorem PostS.expr {r : Option RE} {f : Mp.D → Mm → Option RS} {Q : VK} (h : PostS p g c H D W (exprS r sl f)) (i : ∀ c1 d mm1 v H1, c.Le H c1 H1 → Rep p.K g c1 sl mm1 σ H1 → RepV p.K c1.ad c1.Z H1 d v → PostS p g c1 H1 D W (f d mm1) → Q v H1) : PostE p g c sl σ H W Q r := by
  cases r with
  | none => exact h
  | some r =>
    cases r with
    | ok d mm => exact fun c1 v H1 l r rv => i c1 d mm v H1 l r rv (PostS.from h l)
    | ex x mm => exact fun c1 dd H1 l r rx => h c1 dd σ H1 l r rx
/-- .. as a test -/
theorem PostS.test {r : Option RE} {f : Mp.D → Mm → Option RS} {Q : Bool → Hp → Prop} (hf : ∀ d mm, (∀ b, d ≠ .bl b) → f d mm = none) (h : PostS p g c H D W (exprS r sl f)) (i : ∀ c1 b mm1 H1, c.Le H c1 H1 → Rep p.K g c1 sl mm1 σ H1 → PostS p g c1 H1 D W (f (.bl b) mm1) → Q b H1) : PostB p g c sl σ H W Q r := by
  cases r with
  | none => exact h
  | some r =>
    cases r with
    | ex x mm => exact fun c1 dd H1 l r rx => h c1 dd σ H1 l r rx
    | ok d mm =>
      by_cases hb : ∃ b, d = .bl b
      · obtain ⟨b, rfl⟩ := hb
        exact fun c1 H1 l r => i c1 b mm H1 l r (PostS.from h l)
      · have h' : PostS p g c H D W (f d mm) := h
        rw [hf d mm fun b e => hb ⟨b, e⟩] at h'
        exact h'.elim
/-! ### assignments -/
theorem b_nil : PSs X [] (tBk p n W .nil) := PSsimp pss_nil fun D σ H ⟨g, c, sl, mm, r, h⟩ => by
  simp only [semB] at h
  exact h c σ H .refl r
theorem b_cons {s : S} {b : B} {st : Stmt} {sts : List Stmt} (h1 : PS X st (tS p n W s)) (h2 : PSs X sts (tBk p n W b)) : PSs X (st :: sts) (tBk p n W (.cons s b)) :=
  PSsimp (pss_cons h1 h2) fun D σ H ⟨g, c, sl, mm, r, h⟩ => by
    simp only [semB] at h
    refine ⟨g, c, sl, mm, r, ?_⟩
    cases q : semS p.sub p.gv (p.cf n) s sl mm with
    | none => rw [q] at h; exact h.elim
    | some y =>
      rw [q] at h
      cases y with
      | nx sl1 mm1 => exact fun c1 σ1 H1 l r1 => ⟨g, c1, sl1, mm1, r1, PostS.from h l⟩
      | bk sl1 mm1 => exact h
      | ct sl1 mm1 => exact h
      | rt d mm1 => exact h
      | ex x sl1 mm1 => exact h
theorem s_asg (o : SOk p n N sc W X) {i : Nat} {x : Str} {p1 : Pos} {A : Expr} {a : E} (hi : N[i]? = some x) (hx : locB sc x = true) (ha : PE X A (tE p n W a)) (hs : swapsWith A (some (.Name x p1)) pos.line X.env = pure false) : PS X (.Assign [.Name x p1] A pos) (tS p n W (.asg i a)) :=
  PSimp (ps_set (i := i) (by rw [o.nm]; exact o.nd) (by rw [o.nm]; exact hi) (by rw [o.sc]; exact loc_of hx) ha hs (.inl (o.fnA x))) fun D σ H ⟨g, c, sl, mm, r, h⟩ => by
    have h' : PostS p g c H D W (exprS (semE p.gv (p.cf n) a sl mm) sl fun d mm1 => some (.nx (sl.set i (some d)) mm1)) := by
      simp only [semS] at h; exact h
    exact ⟨g, c, sl, mm, r, PostS.expr h' fun c1 d mm1 v H1 l r1 rv h1 => h1 c1 _ H1 .refl (r1.set rv)⟩
/-- name = [..] on one line, the name a local -/
theorem s_asgL (o : SOk p n N sc W X) {i : Nat} {x : Str} {p1 : Pos} {it : It} {mu : Bool} {tg : Tg} {cnd elt : E} {eltE tgE iterE : Expr} {ifs : List Expr} {scope : Scope} {own : List (Str × Nat)} {lpos : Pos} (hi0 : N[i]? = some x) (hx : sc.names.lookup x = some .local)
    (hsw : swapsWith (.ListComp eltE [⟨tgE, iterE, ifs, 0⟩] scope lpos) (some (.Name x p1)) pos.line X.env = pure true) (hi : PI X tgE iterE (tI p n W it)) (ok : BlkOk X.N X.env.scope scope own) (ho : own.map (·.2) = tgIx tg)
    (hg : ∀ (s : Shared) (H : Hp) (C : Addr) (cl : List (Str × Addr)) (fp : List Addr), PG (X.blk s H scope (compEnvC scope cl C X.env) fp) tgE (tG p tg)) (ht : ∀ (s : Shared) (H : Hp) (C : Addr) (cl : List (Str × Addr)) (fp : List Addr), PTs (X.blk s H scope (compEnvC scope cl C X.env) fp) ifs (tB p n W0 cnd))
    (he : ∀ (s : Shared) (H : Hp) (C : Addr) (cl : List (Str × Addr)) (fp : List Addr), PE (X.blk s H scope (compEnvC scope cl C X.env) fp) eltE (tE p n W0 elt)) (pi : plainA iterE = true) : PS X (.Assign [.Name x p1] (.ListComp eltE [⟨tgE, iterE, ifs, 0⟩] scope lpos) pos) (tS p n W (.asg i (.lc mu tg elt it cnd))) :=
  PSimp (ps_setLc (i := i) o.calm (by rw [o.nm]; exact o.nd) (by rw [o.nm]; exact hi0) (by rw [o.sc]; exact hx) hsw hi ok hg ht he (fold_plain pi _)) fun D σ H ⟨g, c, sl, mm, r, h⟩ => by
    have h' : PostS p g c H D W (exprS (semE p.gv (p.cf n) (.lc mu tg elt it cnd) sl mm) sl fun d mm1 => some (.nx (sl.set i (some d)) mm1)) := by
      simp only [semS] at h; exact h
    rw [ho]
    exact lc_read ⟨g, c, sl, mm, r, PostS.expr h' fun c1 d mm1 v H1 l r1 rv h1 => h1 c1 _ H1 .refl (r1.set rv)⟩
theorem namesOk_of {xs : List Str} {is : List Nat} (o : SOk p n N sc W X) (h : (xs.length == is.length && (xs.zip is).all fun q => decide (N[q.2]? = some q.1) && locB sc q.1) = true) : NamesOk X xs is := by
  rw [Bool.and_eq_true] at h
  refine ⟨by simpa using h.1, fun k x i e1 e2 => ?_⟩
  have hm : (x, i) ∈ xs.zip is := List.mem_iff_getElem?.mpr ⟨k, by rw [List.getElem?_zip_eq_some]; exact ⟨e1, e2⟩⟩
  have := List.all_eq_true.mp h.2 _ hm
  simp only [Bool.and_eq_true, decide_eq_true_eq] at this
  exact ⟨by rw [o.nm]; exact this.1, by rw [o.sc]; exact loc_of this.2, .inl (o.fnA x)⟩
theorem s_unp (o : SOk p n N sc W X) {xs : List Str} {is : List Nat} {es : List Expr} {k : Nat} {p1 : Pos} {A : Expr} {a : E} (ht : tgNames es = some xs) (hn : (xs.length == is.length && (xs.zip is).all fun q => decide (N[q.2]? = some q.1) && locB sc q.1) = true) (ha : PE X A (tE p n W a)) (pa : plainA A = true) (nc : isComp A = false)
    (hw : swappedStores [.Tuple es k p1] A X.env = pure none) : PS X (.Assign [.Tuple es k p1] A pos) (tS p n W (.unp is a)) :=
  PSimp (ps_asg ha (g_tp (p := p) o.K o.calm (by rw [o.nm]; exact o.nd) ht (namesOk_of o hn)) (by exact swap_plain pa nc (some (.Tuple es k p1)) pos.line X.env) hw) fun D σ H ⟨g, c, sl, mm, r, h⟩ => by
    have h' : PostS p g c H D W (exprS (semE p.gv (p.cf n) a sl mm) sl fun d mm1 => (match bindT (.tp is) d sl with | some sl1 => some (.nx sl1 mm1) | none => none)) := by
      simp only [semS] at h; exact h
    refine ⟨g, c, sl, mm, r, PostS.expr h' fun c1 d mm1 v H1 l r1 rv h1 => ?_⟩
    cases e : bindT (.tp is) d sl with
    | none => simp only [e] at h1; exact h1.elim
    | some sl1 =>
      simp only [e] at h1
      exact ⟨g, c1, sl, mm1, d, sl1, r1, rv, e, fun σ' r2 _ => h1 c1 σ' H1 .refl r2⟩
def notTupA : Expr → Bool
  | .Tuple _ _ _ => false
  | _ => true
theorem not_swapped {es : List Expr} {k : Nat} {p1 : Pos} {A : Expr} {env : Env} (h : plainA A = true) (h2 : notTupA A = true) : swappedStores [.Tuple es k p1] A env = pure none := by
  cases A <;> first | rfl | cases h2 | cases h
theorem s_par (o : SOk p n N sc W X) {x y : Str} {i j : Nat} {A B : Expr} {a b : E} {px py pt pt2 : Pos} {kt k2 : Nat} (hi : N[i]? = some x) (hj : N[j]? = some y) (hij : i ≠ j) (hx : sc.names.lookup x = some .local) (hy : sc.names.lookup y = some .local)
    (ha : PE X A (tE p n W a)) (hb : PE X B (tE p n W b)) (pa : plainA A = true) (pb : plainA B = true) (hw : swappedStores [.Tuple [.Name x px, .Name y py] kt pt] (.Tuple [A, B] k2 pt2) X.env = pure (some [x, y])) :
    PS X (.Assign [.Tuple [.Name x px, .Name y py] kt pt] (.Tuple [A, B] k2 pt2) pos) (tS p n W (.par i j a b)) :=
  PSimp (ps_par o.calm (by rw [o.nm]; exact o.nd) (by rw [o.nm]; exact hi) (by rw [o.nm]; exact hj) hij (by rw [o.sc]; exact hx) (by rw [o.sc]; exact hy) (pa_cons ha (pa_cons hb pa_nil (star_plain pb _ _)) (star_plain pa _ _)) hw) fun D σ H ⟨g, c, sl, mm, r, h⟩ => by
    have h' : PostS p g c H D W (exprS (semE p.gv (p.cf n) a sl mm) sl fun d mm1 => exprS (semE p.gv (p.cf n) b sl mm1) sl fun e mm2 => some (.nx ((sl.set i (some d)).set j (some e)) mm2)) := by
      simp only [semS] at h; exact h
    refine ⟨g, c, sl, mm, r, PostS.expr h' fun c1 d mm1 v H1 l r1 rv h1 => ⟨g, c1, sl, mm1, r1, PostS.expr h1 fun c2 e mm2 u H2 l2 r2 ru h2 => ?_⟩⟩
    exact ⟨v, u, rfl, h2 c2 _ H2 .refl ((r2.set (RepV.le l2 _ _ rv)).set ru)⟩
theorem swap_par {x y : Str} {px py pt pt2 : Pos} {kt k2 : Nat} {A B : Expr} {env : Env} (hk : env.scope.kind = .function) (hx : env.scope.names.lookup x = some .local) (hy : env.scope.names.lookup y = some .local) (hl : (py.line == px.line) = true) (hne : (x == y) = false)
    (pa : plainA A = true) (pb : plainA B = true) (hf : (foldedForSure 8 A && foldedForSure 8 B) = false) (hc : (constantsAlone 8 A && constantsAlone 8 B) = false) :
    swappedStores [.Tuple [.Name x px, .Name y py] kt pt] (.Tuple [A, B] k2 pt2) env = pure (some [x, y]) := by
  have hb : env.blockKind = .function := by unfold Env.blockKind; rw [hk]; rfl
  have kx : env.kindOf x = some .local := hx
  have ky : env.kindOf y = some .local := hy
  have hyx : (y == x) = false := by
    rw [beq_eq_false_iff_ne] at hne ⊢
    exact fun e => hne e.symm
  have hs : ([A, B].any fun | .Starred .. => true | _ => false) = false := by
    rw [List.any_eq_false]
    intro e he
    have pe : plainA e = true := by
      rcases List.mem_cons.mp he with rfl | he
      · exact pa
      · rcases List.mem_cons.mp he with rfl | he
        · exact pb
        · cases he
    cases e <;> first | (intro h; cases h; done) | cases pe
  unfold swappedStores
  simp only [hb, hs, kx, ky, List.filterMap_cons, List.filterMap_nil, List.head?_cons, Option.map_some, Option.getD_some, Expr.pos, hl, List.all_cons, List.all_nil, Bool.and_true, hf, hc, List.length_cons, List.length_nil]
  simp [List.eraseDups_cons, hyx, hf, hc]
  intro h
  exfalso
  rcases h with h | h
  · cases A <;> first | (cases pa; done) | (cases h; done)
  · cases B <;> first | (cases pb; done) | (cases h; done)
theorem s_exp (o : SOk p n N sc W X) {A : Expr} {a : E} (ha : PE X A (tE p n W a)) (pa : plainA A = true) (nc : isComp A = false) : PS X (.Expr A pos) (tS p n W (.exp a)) :=
  PSimp (ps_expr ha (swap_plain pa nc _ _ _)) fun D σ H ⟨g, c, sl, mm, r, h⟩ => by
    have h' : PostS p g c H D W (exprS (semE p.gv (p.cf n) a sl mm) sl fun d mm1 => some (.nx sl mm1)) := by
      simp only [semS] at h; exact h
    exact ⟨g, c, sl, mm, r, PostS.expr h' fun c1 d mm1 v H1 l r1 rv h1 => h1 c1 _ H1 .refl r1⟩
theorem s_ret {A : Expr} {a : E} (ha : PE X A (tE p n W a)) : PS X (.Return (some A) pos) (tS p n W (.ret a)) :=
  PSimp (ps_ret ha) fun D σ H ⟨g, c, sl, mm, r, h⟩ => by
    have h' : PostS p g c H D W (exprS (semE p.gv (p.cf n) a sl mm) sl fun d mm1 => some (.rt d mm1)) := by
      simp only [semS] at h; exact h
    exact ⟨g, c, sl, mm, r, PostS.expr h' fun c1 d mm1 v H1 l r1 rv h1 => h1 c1 sl _ _ H1 .refl r1 rv⟩
theorem s_retn : PS X (.Return none pos) (tS p n W .retn) :=
  PSimp ps_retN fun D σ H ⟨g, c, sl, mm, r, h⟩ => by
    simp only [semS] at h
    exact h c sl σ _ H .refl r okN
theorem s_pass : PS X (.Pass pos) (tS p n W .pass) := PSimp ps_pass fun D σ H ⟨g, c, sl, mm, r, h⟩ => by
  simp only [semS] at h
  exact h c σ H .refl r
theorem s_brk : PS X (.Break pos) (tS p n W .brk) := PSimp ps_break fun D σ H ⟨g, c, sl, mm, r, h⟩ => by
  simp only [semS] at h
  exact h c σ H .refl r
theorem s_cnt : PS X (.Continue pos) (tS p n W .cnt) := PSimp ps_continue fun D σ H ⟨g, c, sl, mm, r, h⟩ => by
  simp only [semS] at h
  exact h c σ H .refl r
theorem s_ifs {C : Expr} {e : E} {a b : B} {as bs : List Stmt} (hc : PT X C (tB p n W e)) (ha : PSs X as (tBk p n W a)) (hb : PSs X bs (tBk p n W b)) : PS X (.If C as bs pos) (tS p n W (.ifs e a b)) :=
  PSimp (ps_if hc ha hb) fun D σ H ⟨g, c, sl, mm, r, h⟩ => by
    have h' : PostS p g c H D W (exprS (semE p.gv (p.cf n) e sl mm) sl fun d mm1 => (match d with | .bl true => semB p.sub p.gv (p.cf n) a sl mm1 | .bl false => semB p.sub p.gv (p.cf n) b sl mm1 | _ => none)) := by
      simp only [semS] at h
      unfold exprS
      split at h
      · rename_i q; simp only [q]; exact h
      · rename_i q; simp only [q]; exact h
      · rename_i q; simp only [q]; exact h
      · exact h.elim
    refine ⟨g, c, sl, mm, r, PostS.test (fun d mm hd => by cases d <;> first | rfl | exact (hd _ rfl).elim) h' fun c1 k mm1 H1 l r1 h1 => ?_⟩
    cases k
    · exact ⟨g, c1, sl, mm1, r1, h1⟩
    · exact ⟨g, c1, sl, mm1, r1, h1⟩
/-! ### loops -/
theorem s_whl (o : SOk p n N sc W X) {C : Expr} {e : E} {b : B} {bs : List Stmt} (hc : PT X C (tB p n W e)) (hb : PSs X bs (tBk p n W b)) : PS X (.While C bs [] pos) (tS p n W (.whl e b)) :=
  PSimp (ps_while o.pown hc hb) fun D σ H ⟨g, c, sl, mm, r, h⟩ => by
    simp only [semS] at h
    generalize wMost = k at h
    refine ⟨fun m σ H => ∃ c sl mm, Rep p.K g c sl mm σ H ∧ PostS p g c H D W (whlS (semE p.gv (p.cf n) e) (semB p.sub p.gv (p.cf n) b) m sl mm), ⟨k, c, sl, mm, r, h⟩, fun m σ H ⟨c, sl, mm, r, h⟩ => ?_⟩
    cases m with
    | zero => simp only [whlS] at h; exact h.elim
    | succ m =>
      have h' : PostS p g c H D W (exprS (semE p.gv (p.cf n) e sl mm) sl fun d mm1 => (match d with
        | .bl true => (match semB p.sub p.gv (p.cf n) b sl mm1 with
          | some (.nx sl2 mm2) => whlS (semE p.gv (p.cf n) e) (semB p.sub p.gv (p.cf n) b) m sl2 mm2
          | some (.ct sl2 mm2) => whlS (semE p.gv (p.cf n) e) (semB p.sub p.gv (p.cf n) b) m sl2 mm2
          | some (.bk sl2 mm2) => some (.nx sl2 mm2)
          | r => r)
        | .bl false => some (.nx sl mm1)
        | _ => none)) := by
        simp only [whlS] at h
        unfold exprS
        split at h
        · rename_i q; simp only [q]; exact h
        · rename_i q; simp only [q]; exact h
        · rename_i q; simp only [q]; exact h
        · exact h.elim
      refine ⟨g, c, sl, mm, r, PostS.test (fun d mm hd => by cases d <;> first | rfl | exact (hd _ rfl).elim) h' fun c1 k mm1 H1 l r1 h1 => ?_⟩
      cases k with
      | false => exact h1 c1 σ H1 .refl r1
      | true =>
        simp only [] at h1
        refine ⟨fun σ' H' => ∃ c2 sl2 mm2, c1.Le H1 c2 H' ∧ Rep p.K g c2 sl2 mm2 σ' H' ∧ PostS p g c2 H' D W (whlS (semE p.gv (p.cf n) e) (semB p.sub p.gv (p.cf n) b) m sl2 mm2), fun σ' H' ⟨c2, sl2, mm2, l2, r2, h2⟩ => ⟨m, Nat.lt_succ_self m, c2, sl2, mm2, r2, h2⟩, g, c1, sl, mm1, r1, ?_⟩
        cases q : semB p.sub p.gv (p.cf n) b sl mm1 with
        | none => rw [q] at h1; exact h1.elim
        | some y =>
          rw [q] at h1
          cases y with
          | nx sl2 mm2 => exact fun c2 σ2 H2 l2 r2 => ⟨c2, sl2, mm2, l2, r2, PostS.from h1 l2⟩
          | ct sl2 mm2 => exact fun c2 σ2 H2 l2 r2 => ⟨c2, sl2, mm2, l2, r2, PostS.from h1 l2⟩
          | bk sl2 mm2 => exact h1
          | rt d mm2 => exact h1
          | ex x sl2 mm2 => exact h1
theorem s_for (o : SOk p n N sc W X) {tg : Tg} {it : It} {b : B} {tgE iterE : Expr} {bs : List Stmt} (hi : PI X tgE iterE (tI p n W it)) (hg : PG X tgE (tG p tg)) (hb : PSs X bs (tBk p n W b)) (pi : plainA iterE = true) : PS X (.For tgE iterE bs [] pos) (tS p n W (.for tg it b)) :=
  PSimp (ps_for o.pown o.calm hi hg hb (fold_plain pi _)) fun D σ H ⟨g, c, sl, mm, r, h⟩ => by
    simp only [semS] at h
    refine ⟨g, c, sl, mm, r, ?_⟩
    cases e : semI p.gv (p.cf n) it sl mm with
    | none => rw [e] at h; exact h.elim
    | some y =>
      rw [e] at h
      cases y with
      | ex x mm1 => exact fun c1 dd H1 l r1 rx => h c1 dd σ H1 l r1 rx
      | ok xs mm1 =>
        intro c1 H1 J l1 r1 wk
        refine ⟨fun i m σ2 H2 => i + m = xs.length ∧ ∃ c2 sl2 mm2, c1.Le H1 c2 H2 ∧ Rep p.K g c2 sl2 mm2 σ2 H2 ∧ PostS p g c2 H2 D W (forS tg (semB p.sub p.gv (p.cf n) b) (xs.drop i) sl2 mm2), ⟨xs.length, by omega, c1, sl, mm1, .refl, r1, PostS.from h l1⟩, fun i m σ2 H2 ⟨em, c2, sl2, mm2, l2, r2, h2⟩ => ?_⟩
        by_cases hi : i < xs.length
        · have ex : xs[i]? = some xs[i] := List.getElem?_eq_getElem hi
          rw [drop_at ex] at h2
          obtain ⟨go, yl⟩ := wk.step i _ ex g c2 sl2 mm2 σ2 H2 l2 r2
          refine .inr ⟨go, fun σ3 H3 => ∃ c3 sl3 mm3, c1.Le H1 c3 H3 ∧ Rep p.K g c3 sl3 mm3 σ3 H3 ∧ PostS p g c3 H3 D W (forS tg (semB p.sub p.gv (p.cf n) b) (xs.drop (i + 1)) sl3 mm3), fun σ3 H3 hN => ⟨m - 1, by omega, by omega, hN⟩, fun x H3 hy => ?_⟩
          obtain ⟨c3, l3, r3, rv, _, _, _⟩ := yl x H3 hy
          simp only [forS] at h2
          cases e1 : bindT tg xs[i] sl2 with
          | none => simp only [e1] at h2; exact h2.elim
          | some sl3 =>
            simp only [e1] at h2
            refine ⟨g, c3, sl2, mm2, xs[i], sl3, r3, rv, e1, fun σ3 r4 _ => ⟨g, c3, sl3, mm2, r4, ?_⟩⟩
            have h3 := PostS.from h2 l3
            cases q : semB p.sub p.gv (p.cf n) b sl3 mm2 with
            | none => rw [q] at h3; exact h3.elim
            | some y =>
              rw [q] at h3
              cases y with
              | nx sl4 mm4 => exact fun c4 σ4 H4 l4 r5 => ⟨c4, sl4, mm4, l2.trans (l3.trans l4), r5, PostS.from h3 l4⟩
              | ct sl4 mm4 => exact fun c4 σ4 H4 l4 r5 => ⟨c4, sl4, mm4, l2.trans (l3.trans l4), r5, PostS.from h3 l4⟩
              | bk sl4 mm4 => exact h3
              | rt d mm4 => exact h3
              | ex x sl4 mm4 => exact h3
        · rw [List.drop_eq_nil_of_le (by omega)] at h2
          have ei : i = xs.length := by omega
          exact .inl ⟨by rw [ei]; exact wk.stop g c2 sl2 mm2 σ2 H2 l2 r2, h2 c2 σ2 H2 .refl r2⟩
/-! ### errors -/
theorem s_rse (o : SOk p n N sc W X) {k : Nat} {m : Str} {j : Nat} {p1 p2 p3 : Pos} (hd : p.edom k = true) (hg : glB sc (p.en k) = true) : PS X (.Raise (some (.Call (.Name (p.en k) p1) [.Constant (.str m) j p2] [] p3)) none pos) (tS p n W (.rse k .nil)) := by
  obtain ⟨h1, h2, h3, h4, h5⟩ := o.own.exc k hd
  have hK := o.K
  have hM := o.mg
  refine PSimp (ps_raise o.calm o.takes (pmk_own PySem.F.excBase_ValueError (by rw [hK]; exact h2) (by rw [hM]; exact h1) (by rw [hK]; exact h3) (raises_own (by rw [hK]; exact h4) (by rw [hK]; exact h5)) (o.gl hg) (nm_deb (gl_nm hg)))) fun D σ H ⟨g, c, sl, mm, r, h⟩ => ?_
  simp only [semS, semEs] at h
  exact h c none σ H .refl r (.inl ⟨rfl, rfl⟩)
/-- raise X(e), X with an __init__ of its own -/
theorem s_rseX (o : SOk p n N sc W X) {k : Nat} {A : Expr} {a : E} {p1 p3 : Pos} (hd : p.xid k = true) (hg : glB sc (p.en k) = true) (ha : PE X A (tE p n W a)) (pa : plainA A = true) : PS X (.Raise (some (.Call (.Name (p.en k) p1) [A] [] p3)) none pos) (tS p n W (.rse k (.cons a .nil))) := by
  obtain ⟨hm, hea, _, _, T, nm, self, par, fI, fd, hxk, hno, iC, tI, hb, hF⟩ := o.exq.exi k hd
  have hK := o.K
  have hM := o.mg
  refine PSimp (ps_raise o.calm o.takes (pmk_oex (dvs := []) (by rw [hK]; exact T) (by rw [hK]; exact iC) (by rw [hK]; exact tI) (by rw [hK, hM]; exact hF X.prog X.w X.base) (o.room.mono (by omega)) (by rw [hK]; exact hb) .nil pass_no (o.gl hg) (by rw [hM]; exact hm) (pa_cons ha pa_nil (star_plain pa _ _)) (nm_deb (gl_nm hg)) (star_plain pa _ _) (star_none rfl _ _))) fun D σ H ⟨g, c, sl, mm, r, h⟩ => ?_
  simp only [semS, semEs] at h
  show tE p n W a σ H _
  refine ⟨g, c, sl, mm, r, ?_⟩
  cases q : semE p.gv (p.cf n) a sl mm with
  | none => simp only [q] at h; exact h.elim
  | some y =>
    simp only [q] at h
    cases y with
    | ex x mm1 => exact fun c1 dd H1 l1 r1 rx => h c1 dd σ H1 l1 r1 rx
    | ok d mm1 =>
      intro c1 v H1 l1 r1 rv
      simp only [] at h
      cases hp : pureD d with
      | false => simp only [hp] at h; exact h.elim
      | true =>
        simp only [hp, if_true] at h
        refine ⟨by show 1 ≤ 1000; omega, fun a0 ha0 => ?_⟩
        refine ⟨a0, p.K.xa k, v, by simp, T, hno, upd_same, fun dx hdx hne => ⟨rfl, dx, [(nm, v)], upd_same, by rw [upd_ne hne, upd_same], ?_, ?_⟩⟩
        · rw [upd_ne hne] at hdx; exact hdx
        · have hdx1 : H1 dx = none := by rw [upd_ne hne] at hdx; exact hdx
          have eH : upd (del (upd (upd (upd H1 a0 (exo a0 (p.K.xa k) none)) dx (exd dx [(nm, v)])) a0 (exo a0 (p.K.xa k) (some dx))) a0) dx (.xd [(nm, v)]) = upd H1 dx (.xd [(nm, v)]) := by
            funext b
            by_cases hb : b = dx
            · rw [hb, upd_same, upd_same]
            · rw [upd_ne hb, upd_ne hb]
              by_cases hb2 : b = a0
              · rw [hb2, del_same, ha0]
              · rw [del_ne hb2, upd_ne hb2, upd_ne hb, upd_ne hb2]
          rw [eH, hea]
          have l2 : c1.Le H1 (c1.add dx) (upd H1 dx (.xd [(nm, v)])) := le_fresh r1.trk hdx1
          refine h (c1.add dx) (some dx) σ _ (l1.trans l2) (r1.fresh hdx1) (.inr ⟨d, v, nm, dx, rfl, hp, hxk, rfl, .inr rfl, .inl upd_same, ?_⟩)
          exact RepV.pure _ _ _ hp (RepV.le l2 _ _ rv)
/-- self.f = e -/
theorem s_stf (o : SOk p n N sc W X) {c i j : Nat} {x f : Str} {p1 p2 : Pos} {A : Expr} {a : E} (hc : p.cdom c = true) (hf : (p.K.cf c)[j]? = some f) (hi : N[i]? = some x) (hv : visB sc x = true) (hn : nmB x = true) (ha : PE X A (tE p n W a)) (pa : plainA A = true) (nc : isComp A = false) :
    PS X (.Assign [.Attribute (.Name x p1) f p2] A pos) (tS p n W (.stf c i j a)) := by
  have F := o.own.cls c hc
  have hlen : (p.K.cf c).length ≤ 100 := F.len
  have hx : PE X (.Name x p1) (tE p n W (.var i)) := s_var o.toXOk hi hv hn
  refine PSimp (ps_fld hx ha (swap_plain pa nc _ _ _)) fun D σ H ⟨g, cc, sl, mm, r, h⟩ => ?_
  have h' : PostS p g cc H D W (exprS (semE p.gv (p.cf n) a sl mm) sl fun d mm1 => (match sl[i]? with
      | some (some (.m k)) => (match mm1[k]? with
        | some (.mu (.obj c' fs)) => if (c' == c) && pureD d then (if decide (j < fs.length) then some (.nx sl (mm1.set k (.mu (.obj c (fs.set j d))))) else if decide (j = fs.length) then some (.nx sl (mm1.set k (.mu (.obj c (fs ++ [d]))))) else none) else none
        | _ => none)
      | _ => none)) := by
    simp only [semS] at h; exact h
  refine ⟨g, cc, sl, mm, r, PostS.expr h' fun c1 d mm1 v H1 l r1 rv h1 => ?_⟩
  split at h1
  · rename_i k e0
    split at h1
    · rename_i c' fs e1
      split at h1
      · rename_i hz
        rw [Bool.and_eq_true] at hz
        have ec : c' = c := by simpa using hz.1
        subst ec
        obtain ⟨w, hw, rw'⟩ := r1.slot i _ e0
        obtain ⟨q, dx, vs, hq, rfl, h2, rl, hp, hl⟩ := r1.ins_at rw' e1
        refine ⟨g, c1, sl, mm1, r1, ?_⟩
        simp only [semE, e0]
        intro c2 u H2 l2 r2 ru
        have hu : u = .ref q := by
          obtain ⟨w2, hw2, rw2⟩ := r2.slot i _ e0
          rw [hw] at hw2
          cases hw2
          obtain ⟨q2, dx2, vs2, hq2, eq2, _⟩ := r2.ins_at rw2 e1
          obtain ⟨q3, dx3, vs3, hq3, eq3, _⟩ := r2.ins_at ru e1
          rw [hq2] at hq3
          cases hq3
          rw [eq3, ← eq2]
        subst hu
        obtain ⟨q', dx', vs', hq', eq', h2', rl', hp', hl'⟩ := r2.ins_at ru e1
        cases eq'
        rw [o.K]
        have hzl : ((p.K.cf c').zip vs').length < 1000 := by rw [List.length_zip]; omega
        have rv2 := RepV.le l2 _ _ rv
        have h3 := PostS.from h1 l2
        refine ⟨q, p.K.xa c', dx', _, rfl, h2', F.cls, F.noa f (List.mem_of_getElem? hf), hzl, ?_⟩
        have hvl := rl'.len
        split at h3
        · rename_i hj
          have hj : j < fs.length := of_decide_eq_true hj
          rw [(zip_put F.nd v hf).1 (by omega)]
          have hpd : pureD (.obj c' (fs.set j d)) = true := by
            simp only [pureD]
            exact pureDs_set j hp' hz.2
          obtain ⟨l3, r3⟩ := r2.writeG (u0 := .ins (p.K.xa c') dx' ((p.K.cf c').zip (vs'.set j v))) hq' e1 hpd (by
            have nz : ¬ c2.Z q := (r2.obj k q _ hq' e1).1
            have l : c2.Le H2 c2 (upd H2 q (.ins (p.K.xa c') dx' ((p.K.cf c').zip (vs'.set j v)))) := ⟨⟨[], by simp⟩, fun _ z => z, fun b u z q => rd_upd (fun e => nz (e ▸ z)) q⟩
            exact ⟨dx', _, upd_same, RepL.le l _ _ (rl'.set j rv2), by simpa using hl'⟩)
          exact h3 c2 σ _ l3 r3
        · split at h3
          · rename_i hj
            have hj : j = fs.length := of_decide_eq_true hj
            rw [(zip_put F.nd v hf).2 (by omega)]
            have hjl : j < (p.K.cf c').length := (List.getElem?_eq_some_iff.mp hf).1
            have hpd : pureD (.obj c' (fs ++ [d])) = true := by
              simp only [pureD]
              exact pureDs_app hp' (pureDs_one hz.2)
            obtain ⟨l3, r3⟩ := r2.writeG (u0 := .ins (p.K.xa c') dx' ((p.K.cf c').zip (vs' ++ [v]))) hq' e1 hpd (by
              have nz : ¬ c2.Z q := (r2.obj k q _ hq' e1).1
              have l : c2.Le H2 c2 (upd H2 q (.ins (p.K.xa c') dx' ((p.K.cf c').zip (vs' ++ [v])))) := ⟨⟨[], by simp⟩, fun _ z => z, fun b u z q => rd_upd (fun e => nz (e ▸ z)) q⟩
              refine ⟨dx', _, upd_same, RepL.le l _ _ (rl'.app (RepL.one rv2)), ?_⟩
              rw [List.length_append, List.length_singleton]; omega)
            exact h3 c2 σ _ l3 r3
          · exact h3.elim
      · exact h1.elim
    · exact h1.elim
  · exact h1.elim
/-- o[i] = e of a list of the activation's own -/
theorem s_sto (o : SOk p n N sc W X) {i : Nat} {x : Str} {p1 p2 : Pos} {I A : Expr} {ix a : E} (hi : N[i]? = some x) (hv : visB sc x = true) (hn : nmB x = true) (hI : PE X I (tE p n W ix)) (pI : plainA I = true) (ha : PE X A (tE p n W a)) (pa : plainA A = true) (nc : isComp A = false) :
    PS X (.Assign [.Subscript (.Name x p1) I p2] A pos) (tS p n W (.sto i ix a)) := by
  have hx : PE X (.Name x p1) (tE p n W (.var i)) := s_var o.toXOk hi hv hn
  have hg : PG X (.Subscript (.Name x p1) I p2) (gSub (tE p n W (.var i)) (tE p n W ix) rSetL) := pg_sub hx hI set_list (by
    intro v
    cases I <;> first | rfl | exact nomatch pI)
  refine PSimp (ps_asg ha hg (by exact swap_plain pa nc (some (.Subscript (.Name x p1) I p2)) pos.line X.env) (by cases A <;> first | rfl | exact nomatch pa)) fun D σ H ⟨g, c, sl, mm, r, h⟩ => ?_
  have h' : PostS p g c H D W (exprS (semE p.gv (p.cf n) a sl mm) sl fun d mm1 => (match sl[i]? with
      | some (some (.m k)) => (match semE p.gv (p.cf n) ix sl mm1 with
        | some (.ok (.int j) mm2) => (match mm2[k]? with
          | some (.mu (.lst xs)) => (match ixP xs.length j with
            | some q => if pureD d then some (.nx sl (mm2.set k (.mu (.lst (xs.set q d))))) else none
            | none => none)
          | _ => none)
        | some (.ex x mm1) => some (.ex x sl mm1)
        | _ => none)
      | _ => none)) := by
    simp only [semS] at h; exact h
  refine ⟨g, c, sl, mm, r, PostS.expr h' fun c1 d mm1 v H1 l1 r1 rv h1 => ?_⟩
  refine ⟨g, c1, sl, mm1, r1, ?_⟩
  simp only [semE]
  cases e1 : sl[i]? with
  | none => simp only [e1] at h1; exact h1.elim
  | some ov =>
    cases ov with
    | none => simp only [e1] at h1; exact h1.elim
    | some dv =>
      cases dv with
      | m k =>
        simp only [e1] at h1
        intro c2 w H2 l2 r2 rw'
        refine ⟨g, c2, sl, mm1, r2, ?_⟩
        have h2 := PostS.from h1 l2
        cases e2 : semE p.gv (p.cf n) ix sl mm1 with
        | none => simp only [e2] at h2; exact h2.elim
        | some y =>
          cases y with
          | ex x mm2 =>
            simp only [e2] at h2
            exact fun c3 dd H3 l3 r3 rx => h2 c3 dd σ H3 l3 r3 rx
          | ok di mm2 =>
            cases di <;> simp only [e2] at h2 <;> try exact h2.elim
            rename_i j
            intro c3 u H3 l3 r3 ru
            have h3 := PostS.from h2 l3
            have rw3 := RepV.le l3 _ _ rw'
            have rv3 := RepV.le (l2.trans l3) _ _ rv
            split at h3
            · rename_i xs e3
              obtain ⟨q, vs, hq, rfl, hH, rl, pl⟩ := r3.own_at rw3 e3
              split at h3
              · rename_i qi e4
                cases z : pureD d with
                | false => simp only [z] at h3; exact h3.elim
                | true =>
                  simp only [z, if_true] at h3
                  rw [repV_int ru]
                  refine ⟨q, vs, j, qi, rfl, rfl, hH, by rw [rl.len]; exact e4, ?_⟩
                  obtain ⟨l4, r4⟩ := r3.write (vs := vs.set qi v) (ds := xs.set qi d) hq e3 (pureDs_set qi pl z) (rl.set qi rv3)
                  exact h3 c3 σ _ l4 r4
              · exact h3.elim
            · exact h3.elim
      | _ => simp only [e1] at h1; exact h1.elim
/-! ### try -/
/-- a written value -/
def litB : Expr → Mp.D → Bool
  | .Constant .none _ _, .non => true
  | .Constant (.bool b) _ _, .bl b' => b == b'
  | .Constant (.int i) _ _, .int i' => decide (i = i')
  | .Constant (.str s) _ _, .str t => decide (s = toS t) && okT t
  | _, _ => false
theorem lit_ok {A : Expr} {d : Mp.D} (h : litB A d = true) : ∃ v, (∀ Y : Cx, PE Y A (tC v)) ∧ plainA A = true ∧ valA A = true ∧ ∀ K ad Z H, RepV K ad Z H d v := by
  unfold litB at h
  split at h
  · exact ⟨.non, fun _ => pe_non, rfl, rfl, fun _ _ _ _ => okN⟩
  · rename_i b _ _ b'
    have e : b = b' := by simpa using h
    subst e
    exact ⟨.bl b, fun _ => pe_bl, rfl, rfl, fun _ _ _ _ => okB⟩
  · rename_i i _ _ i'
    have e : i = i' := by simpa using h
    subst e
    exact ⟨.int i, fun _ => pe_int, rfl, rfl, fun _ _ _ _ => okI⟩
  · rename_i s _ _ t
    rw [Bool.and_eq_true] at h
    have e : s = toS t := of_decide_eq_true h.1
    subst e
    exact ⟨.str (toS t), fun _ => pe_str, rfl, rfl, fun _ _ _ _ => okS h.2⟩
  · cases h
theorem lit_key {A : Expr} {d : Mp.D} (h : litB A d = true) (k : isKT d = true) (Y : Cx) : PE Y A (tC (kV (keyT d))) := by
  unfold litB at h
  split at h
  · cases k
  · cases k
  · rename_i i _ _ i'
    have e : i = i' := by simpa using h
    subst e
    exact pe_int
  · rename_i s _ _ t
    rw [Bool.and_eq_true] at h
    have e : s = toS t := of_decide_eq_true h.1
    subst e
    exact pe_str
  · cases h
def chkH1 (p : Pg) (sc : Scope) (c : Nat) (d : Mp.D) : ExceptHandler → Bool
  | .ExceptHandler (some (.Name x _)) none [.Return (some A) _] _ => p.hdm c && decide (x = p.en c) && glB sc x && litB A d
  | _ => false
theorem chkH1_of {c : Nat} {d : Mp.D} {h : ExceptHandler} (e : chkH1 p sc c d h = true) : ∃ p1 A p2 p3, h = .ExceptHandler (some (.Name (p.en c) p1)) none [.Return (some A) p2] p3 ∧ p.hdm c = true ∧ glB sc (p.en c) = true ∧ litB A d = true := by
  unfold chkH1 at e
  split at e
  · simp only [Bool.and_eq_true, decide_eq_true_eq] at e
    obtain ⟨⟨⟨h1, rfl⟩, h3⟩, h4⟩ := e
    exact ⟨_, _, _, _, rfl, h1, h3, h4⟩
  · cases e
def chkHs (p : Pg) (sc : Scope) : Hs → List ExceptHandler → Bool
  | .nil, hds => (match hds with | [] => true | _ :: _ => false)
  | .cons c d hs, hds => (match hds with | h :: r => chkH1 p sc c d h && chkHs p sc hs r | [] => false)
theorem hs_ok (o : SOk p n N sc W X) : ∀ {hs : Hs} {hds : List ExceptHandler}, chkHs p sc hs hds = true → ∃ l, HdsOk X hds l ∧ ∀ (g : Gh) (c : Cf) (H : Hp) (D : Ends) (σ : L2.St) (x : Ex) (dd : Option Addr) (sl : Sl) (mm : Mm) (r : Option (Option Mp.D)),
      hsS p.sub hs x = r → Rep p.K g c sl mm σ H → (match r with | none => False | some (some d) => ∀ v, RepV p.K c.ad c.Z H d v → D.rt v H | some none => W (.ref (p.ea x.cls)) dd σ H) → wMany X.K W D l (.ref (p.ea x.cls)) dd σ H
  | .nil, [], _ => ⟨[], .nil, fun g c H D σ x dd sl mm r e _ h => by
    simp only [hsS] at e
    subst e
    exact h⟩
  | .nil, _ :: _, h => by simp only [chkHs, Bool.false_eq_true] at h
  | .cons c d hs, [], h => by simp only [chkHs, Bool.false_eq_true] at h
  | .cons c d hs, h0 :: r1, h => by
    simp only [chkHs, Bool.and_eq_true] at h
    obtain ⟨p1, A, p2, p3, rfl, h1, h3, h4⟩ := chkH1_of h.1
    obtain ⟨l, hl, hw⟩ := hs_ok o h.2
    obtain ⟨v, hv, _, _, rv⟩ := lit_ok h4
    have m1 := o.own.hnd c h1
    refine ⟨(.ref (p.ea c), fun a cls dd => tRet (tC v)) :: l, .cons ⟨o.gl h3, nm_deb (gl_nm h3), .inl (by rw [o.mg]; exact m1)⟩ (fun a oe cls dd pn _ _ => pss_one (ps_ret (hv _))) hl, fun g c' H D σ x dd sl mm r e rp h => ?_⟩
    simp only [hsS] at e
    cases q : p.sub x.cls c with
    | none => simp only [q] at e; subst e; exact h.elim
    | some b =>
      simp only [q] at e
      refine ⟨b, by rw [o.K]; exact o.own.exm _ _ _ q, fun hb a ha => ?_, fun hb => ?_⟩
      · subst hb
        simp only [] at e
        subst e
        exact h v (rv _ _ _ _)
      · subst hb
        exact hw g c' H D σ x dd sl mm r e rp h
theorem s_try {hs : Hs} {h₀ : ExceptHandler} {hds : List ExceptHandler} {b : B} {bs : List Stmt} (o : SOk p n N sc W X) (hh : chkHs p sc hs (h₀ :: hds) = true) (hb : ∀ (W' : WX) (pn : List (Addr × Obj)) (xe : Value → Shared → Prop), SOk p n N sc W' (X.tr pn xe) → PSs (X.tr pn xe) bs (tBk p n W' b)) :
    PS X (.Try bs (h₀ :: hds) [] [] pos) (tS p n W (.try b hs)) := by
  obtain ⟨l, hl, hw⟩ := hs_ok o hh
  refine PSimp (ps_try_many o.stk o.frm o.takes (fun W' pn xe tk ow => hb W' pn xe ⟨⟨o.K, o.dn, o.mg, o.nm, o.sc, o.nd, o.calm, o.room, tk, o.fns, o.fng, o.own, o.exq, o.blt, o.gls⟩, o.kind, o.stk, o.frm, o.fnA, ow⟩) hl) fun D σ H ⟨g, c, sl, mm, r, h⟩ => ?_
  refine ⟨g, c, sl, mm, r, ?_⟩
  simp only [semS] at h
  cases q : semB p.sub p.gv (p.cf n) b sl mm with
  | none => rw [q] at h; exact h.elim
  | some y =>
    rw [q] at h
    cases y with
    | nx sl1 mm1 => exact h
    | bk sl1 mm1 => exact h
    | ct sl1 mm1 => exact h
    | rt d mm1 => exact h
    | ex x sl1 mm1 =>
      intro c1 dd σ1 H1 l1 r1 rx
      refine hw g c1 H1 D σ1 x dd sl1 mm1 _ rfl r1 ?_
      simp only [] at h
      cases e : hsS p.sub hs x with
      | none => simp only [e] at h; exact h.elim
      | some od =>
        cases od with
        | none =>
          simp only [e] at h
          exact h c1 dd σ1 H1 l1 r1 rx
        | some d =>
          simp only [e] at h
          exact fun v rv => h c1 sl1 σ1 v H1 l1 r1 rv
end
end Mp
/-! Mp7e: exceptions as values. -/
namespace Mp
open PySem PySem.Spec
open PyProof.Rows L2
section
variable {p : Pg} {n : Nat} {N : List Str} {sc : Scope} {W : WX} {X : Cx} {A B : Expr} {a b : E} {pos : Pos}
/-- X(text) -/
theorem s_exv (o : XOk p n N sc W X) {c : Nat} {p1 : Pos} (hc : p.xvd c = true) (hg : glB sc (p.en c) = true) (hA : PE X A (tE p n W a)) (pA : plainA A = true) : PE X (.Call (.Name (p.en c) p1) [A] [] pos) (tE p n W (.un (.exv c) a)) := by
  obtain ⟨he, hxk, hea, _, _⟩ := o.exq.exv c hc
  obtain ⟨h1, h2, h3, h4, h5⟩ := o.own.exc c he
  have hK := o.K
  have hM := o.mg
  refine PEimp (pe_exv PySem.F.excBase_ValueError (by rw [hK]; exact h2) (by rw [hM]; exact h1) (by rw [hK]; exact h3) (o.gl hg) hA (star_plain pA _ _) (nm_deb (gl_nm hg))) fun σ H Q ⟨g, cc, sl, mm, r, h⟩ => ?_
  simp only [semE] at h
  refine ⟨g, cc, sl, mm, r, PostE.bind h fun c1 d mm1 v H1 l1 r1 rv h1 => ?_⟩
  simp only [unS] at h1
  cases d <;> simp only [] at h1 <;> try exact h1.elim
  rename_i s0
  obtain ⟨rfl, ht⟩ := repV_str rv
  refine ⟨_, rfl, fun t a0 ht0 ha0 hne => ?_⟩
  have l2 : c1.Le H1 (c1.add t) (upd H1 t (.tup [.str (toS s0)])) := le_fresh r1.trk ht0
  have r2 : Rep p.K g (c1.add t) sl mm1 σ (upd H1 t (.tup [.str (toS s0)])) := r1.fresh ht0
  have ha1 : upd H1 t (.tup [.str (toS s0)]) a0 = none := by rw [upd_ne hne]; exact ha0
  have l3 := le_fresh (o := ExV (p.ea c) a0 t) r2.trk ha1
  have r3 := r2.fresh (o := ExV (p.ea c) a0 t) ha1
  refine h1 _ (.ref a0) _ (l2.trans l3) r3 ?_
  simp only [RepV]
  refine .inr ⟨a0, _, rfl, .inr rfl, RepL.one (RepV.le (l2.trans l3) _ _ rv), .inl ⟨hxk, t, _, rfl, .inl ?_, .inl ⟨.inl (.inr rfl), ?_⟩⟩⟩
  · rw [hea, upd_same]
  · exact .inl (by rw [upd_ne (Ne.symm hne), upd_same])
/-- X(e), X with an __init__ of its own -/
theorem s_exi (o : XOk p n N sc W X) {c : Nat} {p1 : Pos} (hc : p.xid c = true) (hg : glB sc (p.en c) = true) (hA : PE X A (tE p n W a)) (pA : plainA A = true) : PE X (.Call (.Name (p.en c) p1) [A] [] pos) (tE p n W (.un (.exi c) a)) := by
  obtain ⟨hm, hea, _, _, T, nm, self, par, fI, fd, hxk, hno, iC, tI, hb, hF⟩ := o.exq.exi c hc
  have hK := o.K
  have hM := o.mg
  refine PEimp (pe_oexv (dvs := []) (by rw [hK]; exact T) (by rw [hK]; exact iC) (by rw [hK]; exact tI) (by rw [hK, hM]; exact hF X.prog X.w X.base) (o.room.mono (by omega)) (by rw [hK]; exact hb) .nil pass_no (o.gl hg) (by rw [hM]; exact hm) (pa_cons hA pa_nil (star_plain pA _ _)) (nm_deb (gl_nm hg)) (star_plain pA _ _) (star_none rfl _ _)) fun σ H Q ⟨g, cc, sl, mm, r, h⟩ => ?_
  simp only [semE] at h
  refine ⟨g, cc, sl, mm, r, PostE.bind h fun c1 d mm1 v H1 l1 r1 rv h1 => ?_⟩
  simp only [unS] at h1
  cases hp : pureD d with
  | false => simp only [hp] at h1; exact h1.elim
  | true =>
    simp only [hp, if_true] at h1
    refine ⟨by show 1 ≤ 1000; omega, fun a0 ha0 => ⟨a0, p.K.xa c, v, by simp, T, hno, upd_same, fun dx hdx hne => ⟨rfl, ?_⟩⟩⟩
    have hdx1 : H1 dx = none := by rw [upd_ne hne] at hdx; exact hdx
    have eH : upd (upd (upd H1 a0 (exo a0 (p.K.xa c) none)) dx (exd dx [(nm, v)])) a0 (exo a0 (p.K.xa c) (some dx)) = upd (upd H1 dx (exd dx [(nm, v)])) a0 (exo a0 (p.K.xa c) (some dx)) := by
      funext b
      by_cases hb : b = a0
      · rw [hb, upd_same, upd_same]
      · rw [upd_ne hb, upd_ne hb]
        by_cases hb2 : b = dx
        · rw [hb2, upd_same, upd_same]
        · rw [upd_ne hb2, upd_ne hb2, upd_ne hb]
    rw [eH]
    have l2 := le_fresh (o := exd dx [(nm, v)]) r1.trk hdx1
    have r2 := r1.fresh (o := exd dx [(nm, v)]) hdx1
    have ha1 : upd H1 dx (exd dx [(nm, v)]) a0 = none := by rw [upd_ne (Ne.symm hne)]; exact ha0
    have l3 := le_fresh (o := exo a0 (p.K.xa c) (some dx)) r2.trk ha1
    have r3 := r2.fresh (o := exo a0 (p.K.xa c) (some dx)) ha1
    refine h1 _ (.ref a0) _ (l2.trans l3) r3 ?_
    simp only [RepV]
    refine .inr ⟨a0, v, rfl, .inr rfl, RepL.one (RepV.le (l2.trans l3) _ _ rv), .inr ⟨nm, dx, hxk, .inl (.inr rfl), .inl upd_same, .inl ?_⟩⟩
    rw [upd_ne hne, upd_same]
theorem CallR.or {f : Value} {r r' : List V → Hp → VK → Prop} (h : CallR X f r) (h' : CallR X f r') : CallR X f (fun xs H Q => r xs H Q ∨ r' xs H Q) := fun pins s σ H xs us Q I rv q => q.elim (h pins s σ H xs us Q I rv) (h' pins s σ H xs us Q I rv)
theorem lookup_mem2 {l : List (Nat × Bool)} {c : Nat} {b : Bool} (h : l.lookup c = some b) : (c, b) ∈ l := by
  induction l with
  | nil => cases h
  | cons q r ih =>
    obtain ⟨c', b'⟩ := q
    rw [List.lookup_cons] at h
    cases e : (c == c') with
    | true =>
      rw [e] at h
      have : b' = b := by simpa using h
      subst this
      have : c = c' := by simpa using e
      subst this
      simp
    | false =>
      rw [e] at h
      exact List.mem_cons_of_mem _ (ih h)
/-- an exception as a value -/
theorem exv_of {K : Kx} {ad : List Addr} {Z : Addr → Prop} {H : Hp} {c : Nat} {fs : List D} {y : D} {v : V} (rv : RepV K ad Z H (.obj c (y :: fs)) v) : ∃ a0 w, v = .ref a0 ∧ RepL K ad Z H (y :: fs) [w] ∧ ((K.xk c = none ∧ ∃ t0 m, w = .str m ∧ Rd H a0 (ExV (K.xa c) a0 t0) ∧ TupZ K Z H t0 [w]) ∨ ∃ n d, K.xk c = some n ∧ Z d ∧ Rd H a0 (L2.exo a0 (K.xa c) (some d)) ∧ Rd H d (L2.exd d [(n, w)])) := by
  simp only [RepV] at rv
  rcases rv with ⟨e, _⟩ | ⟨a0, w, e, _, rl, h⟩
  · cases e
  · exact ⟨a0, w, e, rl, h⟩
/-- isinstance(e, T) -/
theorem s_isx (o : XOk p n N sc W X) {t : Option Nat} {bs : List (Nat × Bool)} {x y : Str} {p1 p2 : Pos} (hx : x = "isinstance") (hg : glB sc x = true) (hm : p.mg x = none) (hbs : bs = p.ist t) (hy : glB sc y = true) (hty : (t = none ∧ y = "ValueError" ∧ p.mg y = none) ∨ ∃ k, t = some k ∧ y = p.en k ∧ p.hdm k = true) (hA : PE X A (tE p n W a)) (pA : plainA A = true) :
    PE X (.Call (.Name x p1) [A, .Name y p2] [] pos) (tE p n W (.un (.isx t bs) a)) := by
  subst hx
  have hK := o.K
  have hc : ∃ cV : V, (∀ u, RelV cV u → u = isT p t) ∧ PE X (.Name y p2) (tC cV) := by
    rcases hty with ⟨rfl, rfl, hm2⟩ | ⟨k, rfl, rfl, hk⟩
    · exact ⟨.ty "ValueError", fun u r => r, pe_bltn (o.gl hy) (by rw [o.mg]; exact hm2) PyProof.Rows.Boot.«ValueError» rfl (by decide) (by decide)⟩
    · exact ⟨.ref (p.ea k), fun u r => r, pe_glob (o.gl hy) (by rw [o.mg]; exact o.own.hnd k hk) (show RelV (.ref (p.ea k)) _ from rfl) (nm_deb (gl_nm hy))⟩
  obtain ⟨cV, hcV, hy'⟩ := hc
  refine PEimp (pe_callB (CallR.or call_isV call_isO) (o.gl hg) (by rw [o.mg]; exact hm) (by decide +kernel) (pa_cons hA (pa_cons hy' pa_nil (star_plain rfl _ _)) (star_plain pA _ _)) (nm_nm (gl_nm hg)) (nm_deb (gl_nm hg)) (star_plain pA _ _) (star_none (by simp [plainA]) _ _)) fun σ H Q ⟨g, cc, sl, mm, r, h⟩ => ?_
  simp only [semE] at h
  refine ⟨g, cc, sl, mm, r, PostE.bind h fun c1 d mm1 v H1 l1 r1 rv h1 => ?_⟩
  simp only [unS] at h1
  rw [hK]
  split at h1
  · rename_i c y0 fs0
    split at h1
    · rename_i b0 eb
      have hmem := lookup_mem2 eb
      rw [hbs] at hmem
      obtain ⟨hd, hkit⟩ := o.exq.ist _ _ _ hmem
      · obtain ⟨a0, w, rfl, rl, hh⟩ := exv_of rv
        have EC : L2.ExcC p.K (p.K.xa c) := by
          rcases hd with hd | hd
          · exact (o.exq.exv c hd).2.2.2.1
          · exact (o.exq.exi c hd).2.2.1
        rcases hh with ⟨_, t0, m, _, rx, _⟩ | ⟨nm, dd, _, _, rx, rdd⟩
        · exact .inl ⟨a0, p.K.xa c, t0, cV, isT p t, b0, rfl, rx, EC, hcV, hkit, PostE.ok0 h1 r1 okB⟩
        · exact .inr ⟨a0, p.K.xa c, dd, [(nm, w)], cV, isT p t, b0, rfl, rx, rdd, EC, hcV, hkit, PostE.ok0 h1 r1 okB⟩
    · exact h1.elim
  · exact h1.elim
/-- str(e) -/
theorem s_strx (o : XOk p n N sc W X) {cs : List Nat} {x : Str} {p1 : Pos} (hx : x = "str") (hg : glB sc x = true) (hm : p.mg x = none) (hcs : ∀ c ∈ cs, p.xvd c = true) (hA : PE X A (tE p n W a)) (pA : plainA A = true) : PE X (.Call (.Name x p1) [A] [] pos) (tE p n W (.un (.strx cs) a)) := by
  subst hx
  have hK := o.K
  refine PEimp (pe_callTy (call_strV (by have := o.room.un; omega)) (o.gl hg) (by rw [o.mg]; exact hm) (by decide +kernel) (pa_cons hA pa_nil (star_plain pA _ _)) (nm_nm (gl_nm hg)) (nm_deb (gl_nm hg)) (star_plain pA _ _) (star_none rfl _ _)) fun σ H Q ⟨g, cc, sl, mm, r, h⟩ => ?_
  simp only [semE] at h
  refine ⟨g, cc, sl, mm, r, PostE.bind h fun c1 d mm1 v H1 l1 r1 rv h1 => ?_⟩
  simp only [unS] at h1
  rw [hK]
  split at h1
  · rename_i c m0
    split at h1
    · rename_i hc
      have hc' := hcs c (List.contains_iff_mem.mp hc)
      obtain ⟨_, hxk, _, EC, hs⟩ := o.exq.exv c hc'
      obtain ⟨a0, w, rfl, rl, hh⟩ := exv_of rv
      simp only [RepL] at rl
      obtain ⟨w1, rr, ew, rw1, e2⟩ := rl
      cases ew
      rcases hh with ⟨_, t0, m, em, rx, tz⟩ | ⟨nm, dd, hn, _, rx, rdd⟩
      · subst em
        refine ⟨a0, p.K.xa c, t0, m, rfl, rx, tz.sq, hs, EC.hs, PostE.ok0 h1 r1 rw1⟩
      · rw [hxk] at hn; cases hn
    · exact h1.elim
  · exact h1.elim
/-- e.f -/
theorem s_fld (o : XOk p n N sc W X) {c : Nat} {x : Str} (hc : p.xid c = true) (hx : p.K.xk c = some x) (hA : PE X A (tE p n W a)) (pA : plainA A = true) (nA : notSuper A = true) : PE X (.Attribute A x pos) (tE p n W (.un (.fld c) a)) := by
  obtain ⟨hm, hea, _, xf, T, nm, self, par, fI, fd, hxk, hno, iC, tI, hb, hF⟩ := o.exq.exi c hc
  rw [hx] at hxk
  cases hxk
  have hK := o.K
  refine PEimp (pe_xfo (by rw [hK]; exact xf) (by rw [hK]; exact hno) hA (base_plain pA nA _ _)) fun σ H Q ⟨g, cc, sl, mm, r, h⟩ => ?_
  simp only [semE] at h
  refine ⟨g, cc, sl, mm, r, PostE.bind h fun c1 d mm1 v H1 l1 r1 rv h1 => ?_⟩
  simp only [unS] at h1
  split at h1
  · rename_i c' y
    split at h1
    · rename_i hcc
      have : c' = c := by simpa using hcc
      subst this
      obtain ⟨a0, w, rfl, rl, hh⟩ := exv_of rv
      simp only [RepL] at rl
      obtain ⟨w1, rr, ew, rw1, e2⟩ := rl
      cases ew
      rcases hh with ⟨hn, _⟩ | ⟨nm, dd, hn, _, rx, rdd⟩
      · rw [hx] at hn; cases hn
      · rw [hx] at hn
        cases hn
        exact ⟨a0, dd, _, w, rfl, rx, rdd, by simp [List.lookup], PostE.ok0 h1 r1 rw1⟩
    · exact h1.elim
  · exact h1.elim
end
end Mp
/-! Mp10b: dicts that change, lists repeated, three names at once, what is never reached. -/
namespace Mp
open PySem PySem.Spec
open PyProof.Rows L2
mutual
theorem keyD_pure : ∀ (d : D) (n : Nat), keyD d n = true → pureD d = true
  | .non, _, _ => rfl
  | .int _, _, _ => rfl
  | .str _, _, _ => rfl
  | .tup xs, n, k => by
    cases n with
    | zero => simp only [keyD, Bool.false_eq_true] at k
    | succ n =>
      simp only [keyD] at k
      simp only [pureD]; exact keyDs_pure xs n k
  | .bl _, _, k => by simp only [keyD, Bool.false_eq_true] at k
  | .lst _, _, k => by simp only [keyD, Bool.false_eq_true] at k
  | .dct _ _, _, k => by simp only [keyD, Bool.false_eq_true] at k
  | .dtu _ _, _, k => by simp only [keyD, Bool.false_eq_true] at k
  | .obj _ _, _, k => by simp only [keyD, Bool.false_eq_true] at k
  | .m _, _, k => by simp only [keyD, Bool.false_eq_true] at k
theorem keyDs_pure : ∀ (ds : List D) (n : Nat), keyDs ds n = true → pureDs ds = true
  | [], _, _ => rfl
  | x :: xs, n, k => by
    simp only [keyDs, Bool.and_eq_true] at k
    simp only [pureDs, keyD_pure x n k.1, keyDs_pure xs n k.2, Bool.and_self]
end
theorem isKD_pure {d : D} (h : isKD d = true) : pureD d = true := keyD_pure d 7 (isKD_key h)
/-- a store in a dict of numbers and texts -/
theorem putK_spec {b : D} {v : V} (hb : isKT b = true) : ∀ {ks : List D} {kvs : List (L2.Key × V)}, ks.all isKT = true → kvs.map (·.1) = ks.map keyT → (ks.map keyT).Nodup →
    (∀ j, idxOfD b ks = some j → (putK kvs (keyT b) v).map (·.1) = ks.map keyT ∧ (putK kvs (keyT b) v).map (·.2) = (kvs.map (·.2)).set j v) ∧
    (idxOfD b ks = none → putK kvs (keyT b) v = kvs ++ [(keyT b, v)] ∧ keyT b ∉ ks.map keyT) := by
  intro ks kvs hk h nd
  have hs := isSome_key hb hk h
  refine ⟨fun j e => ?_, fun e => ?_⟩
  · have hm : (kvs.any fun kv => decide (kv.1 = keyT b)) = true := by rw [valV_any, hs, ← idxOfD_mem, e]; rfl
    unfold putK
    rw [if_pos hm]
    have m1 : ∀ {kvs : List (L2.Key × V)}, (kvs.map (fun q => if q.1 = keyT b then (q.1, v) else q)).map (·.1) = kvs.map (·.1) := by
      intro kvs
      induction kvs with
      | nil => rfl
      | cons q kvs ih =>
        simp only [List.map_cons, ih]
        by_cases z : q.1 = keyT b <;> simp [z]
    refine ⟨by rw [m1, h], ?_⟩
    clear hm hs m1
    induction ks generalizing kvs j with
    | nil => simp [idxOfD] at e
    | cons k ks ih =>
      cases kvs with
      | nil => simp at h
      | cons q kvs =>
        simp only [List.map_cons, List.cons.injEq] at h
        rw [List.all_cons, Bool.and_eq_true] at hk
        rw [List.map_cons, List.nodup_cons] at nd
        simp only [idxOfD] at e
        rw [eqD_key hk.1 hb] at e
        by_cases z : keyT k = keyT b
        · simp only [z, decide_true, if_true, Option.some.injEq] at e
          subst e
          have z2 : q.1 = keyT b := by rw [h.1]; exact z
          simp only [List.map_cons, z2, if_true, List.set_cons_zero]
          congr 1
          have : ∀ q' ∈ kvs, ¬ q'.1 = keyT b := fun q' hq e' => by
            have hm : q'.1 ∈ kvs.map (·.1) := List.mem_map_of_mem hq
            rw [h.2, e', ← z] at hm
            exact nd.1 hm
          clear ih nd h z2
          induction kvs with
          | nil => rfl
          | cons q' kvs ih2 =>
            simp only [List.map_cons, this q' (by simp), if_false]
            rw [ih2 fun q'' hq => this q'' (by simp [hq])]
        · have z2 : ¬ q.1 = keyT b := by rw [h.1]; exact z
          simp only [z, decide_false, Bool.false_eq_true, if_false, Option.map_eq_some_iff] at e
          obtain ⟨j', e', rfl⟩ := e
          simp only [List.map_cons, z2, if_false, List.set_cons_succ]
          rw [ih hk.2 h.2 nd.2 j' e']
  · have hm : valV kvs (keyT b) = none := by
      have : (valV kvs (keyT b)).isSome = false := by rw [hs, ← idxOfD_mem, e]; rfl
      exact Option.isNone_iff_eq_none.mp (by simpa using this)
    exact ⟨putK_new v hm, memD_key hb hk (by rw [← idxOfD_mem, e]; rfl)⟩
section
variable {K : Kx} {g : Gh} {c : Cf} {sl : Sl} {mm : Mm} {σ : L2.St} {H : Hp} {q : Addr}
theorem Rep.takeG {o : HO} {e : D} (r : Rep K g c sl mm σ H) (nz : ¬ c.Z q) (na : q ∉ c.ad) (h0 : g.H0 q = none) (hq : H q = some o) (hp : pureD e = true) (hm : RepM K (c.own q).ad (c.own q).Z H e q) :
    c.Le H (c.own q) H ∧ Rep K g (c.own q) sl (mm ++ [.mu e]) σ H := by
  refine ⟨⟨⟨[q], rfl⟩, fun a z => z, fun _ _ _ w => w⟩, ?_⟩
  have := (r.without nz na h0).ownG (p := q) (o := o) (e := e) (by unfold hid; simp) hp (by rw [hid_upd hq]; exact hm)
  rw [hid_upd hq] at this
  exact this
end
section
variable {p : Pg} {n : Nat} {N : List Str} {sc : Scope} {W : WX} {X : Cx} {A B A2 : Expr} {a b a2 : E} {pos : Pos}
theorem last_own {c : Cf} {mm : Mm} {q : Addr} (e : c.ad.length = mm.length) : (c.own q).ad[mm.length]? = some q := by
  rw [← e]; simp [Cf.own]
theorem s_dn (o : XOk p n N sc W X) (tk : Bool) : PE X (.Dict [] [] pos) (tE p n W (.dn tk)) := by
  cases tk with
  | true =>
    refine PEimp pe_dnewN fun σ H Q ⟨g, c, sl, mm, r, h⟩ => ?_
    simp only [semE, if_true] at h
    intro q ob hq
    refine h (c.own q) (.ref q) _ (le_own r.trk hq) (r.ownG hq rfl ?_) ?_
    · simp only [RepM]
      exact ⟨ob, [], by rw [o.dn]; exact upd_same, rfl, rfl, RepL.nil, RepL.nil, by simp⟩
    · simp only [RepV]
      exact ⟨q, last_own r.lenA, rfl⟩
  | false =>
    refine PEimp pe_dnewK fun σ H Q ⟨g, c, sl, mm, r, h⟩ => ?_
    simp only [semE, Bool.false_eq_true, if_false] at h
    intro q hq
    refine h (c.own q) (.ref q) _ (le_own r.trk hq) (r.ownG hq rfl ?_) ?_
    · simp only [RepM]
      exact ⟨[], upd_same, rfl, rfl, RepL.nil, RepL.nil, by simp⟩
    · simp only [RepV]
      exact ⟨q, last_own r.lenA, rfl⟩
theorem s_d1 (o : XOk p n N sc W X) (ha : PE X A (tE p n W a)) (hb : PE X B (tE p n W b)) : PE X (.Dict [some A] [B] pos) (tE p n W (.d1 a b)) := by
  refine PEimp (pe_disp1N (room_u9 o.room) ha hb) fun σ H Q ⟨g, c, sl, mm, r, h⟩ => ?_
  simp only [semE] at h
  intro q ob hq
  have nz : ¬ c.Z q := fun z => r.trk q z hq
  have na : q ∉ c.ad := fun z => r.adTrk z hq
  have h0' := r.fresh0 hq
  obtain ⟨lb, rb⟩ := r.beside (o := dN X.prog X.w q ob []) nz na h0'
  refine ⟨⟨upd H q (dN X.prog X.w q ob []), c.Z, c.ad⟩, c, sl, mm, rb.inner, ?_⟩
  cases q1 : semE p.gv (p.cf n) a sl mm with
  | none => rw [q1] at h; exact h.elim
  | some y =>
    rw [q1] at h
    cases y with
    | ex x mm1 => exact fun c2 dd H2 l2 r2 rx => h c2 dd H2 (lb.trans l2) (rb.outer r2) rx
    | ok d mm1 =>
      intro c1 v H1 l1 r1 rv1
      refine ⟨⟨upd H q (dN X.prog X.w q ob []), c.Z, c.ad⟩, c1, sl, mm1, r1, ?_⟩
      simp only [bindE] at h
      cases q2 : semE p.gv (p.cf n) b sl mm1 with
      | none => rw [q2] at h; exact h.elim
      | some y =>
        rw [q2] at h
        cases y with
        | ex x mm2 => exact fun c2 dd H2 l2 r2 rx => h c2 dd H2 (lb.trans (l1.trans l2)) (rb.outer r2) rx
        | ok e mm2 =>
          intro c2 u H2 l2 r2 ru
          obtain ⟨hq2, na2, nz2⟩ := r2.keepD upd_same na nz
          have r3 := rb.outer r2
          cases z : (isKD d && pureD e) with
          | false => simp only [z] at h; exact h.elim
          | true =>
            simp only [z, if_true] at h
            rw [Bool.and_eq_true] at z
            have rv2 := RepV.le l2 _ _ rv1
            obtain ⟨b', rfl⟩ := repV_kd z.1 rv2
            refine ⟨hq2, nkT d, b', rfl, by rw [o.K]; exact keyA_of z.1 rv2, fun o' => ?_⟩
            obtain ⟨l4, r4⟩ := r3.beside (o := dN X.prog X.w q o' [(nkT d, b', u)]) nz2 na2 h0'
            have l6 : c2.Le H2 (c2.own q) (upd H2 q (dN X.prog X.w q o' [(nkT d, b', u)])) := l4.trans ⟨⟨[q], rfl⟩, fun a z => z, fun _ _ _ w => w⟩
            obtain ⟨l5, r5⟩ := r4.takeG (e := .dtu [d] [e]) nz2 na2 h0' upd_same (by simp only [pureD, pureDs, isKD_pure z.1, z.2, Bool.and_self]) (by
              simp only [RepM]
              exact ⟨o', [(nkT d, b', u)], by rw [o.dn]; exact upd_same, rfl, by rw [List.all_cons, z.1]; rfl, RepL.one (RepV.le l6 _ _ rv2), RepL.one (RepV.le l6 _ _ ru), by simp⟩)
            refine h (c2.own q) _ _ (lb.trans (l1.trans (l2.trans l6))) r5 ?_
            simp only [RepV]
            exact ⟨q, last_own r4.lenA, rfl⟩
theorem isDN_of (o : XOk p n N sc W X) {g : Gh} {c : Cf} {sl : Sl} {mm : Mm} {σ : L2.St} {H : Hp} {d : Mp.D} {v : V} (r : Rep p.K g c sl mm σ H) (rv : RepV p.K c.ad c.Z H d v) (h : isDct (rd mm d) = true) : ∃ q, v = .ref q ∧ IsDN X H q := by
  cases e : rd mm d <;> rw [e] at h <;> try (cases h; done)
  · obtain ⟨q, kvs, rfl, t, _⟩ := r.rdD rv e
    exact ⟨q, rfl, .inl (.inl ⟨kvs, t⟩)⟩
  · obtain ⟨q, ob, kvs, rfl, t, e1, hk, r1, _⟩ := r.rdU rv e
    exact ⟨q, rfl, .inr ⟨ob, kvs, by rw [← o.dn]; exact t, by rw [o.K]; exact keysA hk e1 r1⟩⟩
theorem get_ok (o : XOk p n N sc W X) {g : Gh} {c : Cf} {sl : Sl} {mm : Mm} {σ : L2.St} {H : Hp} {d y x : Mp.D} {q : Addr} {u w : V} {Q : VK} (r : Rep p.K g c sl mm σ H) (rv : RepV p.K c.ad c.Z H d (.ref q)) (ru : RepV p.K c.ad c.Z H y u) (rx : RepV p.K c.ad c.Z H x w)
    (h : PostE p g c sl σ H W Q (getS d y x mm)) : ∃ ov, DG X H q u ov ∧ Q (ov.getD w) H := by
  unfold getS at h
  split at h
  · rename_i ks vs e
    obtain ⟨q', kvs, eq, t, hk, rl, _, _⟩ := r.rdD rv e
    cases eq
    cases z : (isKT y && ks.all isKT) with
    | false => simp only [z] at h; exact h.elim
    | true =>
      simp only [z, if_true] at h
      rw [Bool.and_eq_true] at z
      have g1 := dg_k (X := X) (ks := ks) t ru z.1
      rw [valV_key z.1 z.2 hk] at g1
      refine ⟨_, g1, ?_⟩
      cases ej : idxOfD y ks with
      | none => rw [ej] at h; exact PostE.ok0 h r rx
      | some j =>
        rw [ej] at h
        simp only [] at h
        cases ex : vs[j]? with
        | none => rw [ex] at h; exact h.elim
        | some x' =>
          rw [ex] at h
          obtain ⟨w', hw, rw'⟩ := rl.get ex
          show Q (((kvs.map (·.2))[j]?).getD w) H
          rw [hw]
          exact PostE.ok0 h r rw'
  · rename_i ks vs e
    obtain ⟨q', ob, kvs, eq, t, hk, hd, r1, rl⟩ := r.rdU rv e
    cases eq
    cases z : (isKD y && ks.all isKD) with
    | false => simp only [z] at h; exact h.elim
    | true =>
      simp only [z, if_true] at h
      rw [Bool.and_eq_true] at z
      have g1 := dg_n o t hk hd r1 ru z.1
      rw [atN_key z.1 z.2 hk] at g1
      refine ⟨_, g1, ?_⟩
      cases ej : idxOfD y ks with
      | none => rw [ej] at h; exact PostE.ok0 h r rx
      | some j =>
        rw [ej] at h
        simp only [] at h
        cases ex : vs[j]? with
        | none => rw [ex] at h; exact h.elim
        | some x' =>
          rw [ex] at h
          obtain ⟨w', hw, rw'⟩ := rl.get ex
          show Q (((kvs.map (·.2.2))[j]?).getD w) H
          rw [hw]
          exact PostE.ok0 h r rw'
  · exact h.elim
theorem s_get1 (o : XOk p n N sc W X) {apos : Pos} (hl : (apos.endLine == pos.line) = true) (ha : PE X A (tE p n W a)) (hb : PE X B (tE p n W b)) (pa : plainA A = true) (na : notSuper A = true) (pb : plainA B = true) :
    PE X (.Call (.Attribute A "get" apos) [B] [] pos) (tE p n W (.get1 a b)) := by
  refine PEimp (pe_g1 (room_u9 o.room) ha hb ⟨base_plain pa na _ _, few_one pb _ _, hl, by rw [star_plain pb]; rfl⟩) fun σ H Q ⟨g, c, sl, mm, r, h⟩ => ?_
  simp only [semE] at h
  refine ⟨g, c, sl, mm, r, PostE.bind h fun c1 d mm1 v H1 l1 r1 rv h1 => ?_⟩
  cases e : isDct (rd mm1 d) with
  | false => simp only [e] at h1; exact h1.elim
  | true =>
    simp only [e, if_true] at h1
    obtain ⟨q, rfl, hd⟩ := isDN_of o r1 rv e
    refine ⟨q, rfl, hd, g, c1, sl, mm1, r1, PostE.bind h1 fun c2 y mm2 u H2 l2 r2 ru h2 => ?_⟩
    exact get_ok o r2 (RepV.le l2 _ _ rv) ru (x := .non) (by simp only [RepV]) h2
theorem few_two (pa : plainA A = true) (pb : plainA B = true) (env : Env) (pos : Pos) : ((backTo pos (starEach [A, B] env)).all (fun x => !x.1) && (backToKw pos (keywordEach [] env)).all (fun x => x.1.isSome)
      && decide (([A, B] : List Expr).length + ([] : List Keyword).length + (if ([] : List Keyword).isEmpty then 0 else 1) < 30)) = true := by
  rw [star_plain pa, star_plain pb]; rfl
theorem s_get2 (o : XOk p n N sc W X) {apos : Pos} (hl : (apos.endLine == pos.line) = true) (ha : PE X A (tE p n W a)) (hb : PE X B (tE p n W b)) (hc : PE X A2 (tE p n W a2)) (pa : plainA A = true) (na : notSuper A = true) (pb : plainA B = true) (pc : plainA A2 = true) :
    PE X (.Call (.Attribute A "get" apos) [B, A2] [] pos) (tE p n W (.get2 a b a2)) := by
  refine PEimp (pe_g2 (room_u9 o.room) ha hb hc ⟨base_plain pa na _ _, few_two pb pc _ _, hl, by rw [star_plain pb, star_plain pc]; rfl⟩) fun σ H Q ⟨g, c, sl, mm, r, h⟩ => ?_
  simp only [semE] at h
  refine ⟨g, c, sl, mm, r, PostE.bind h fun c1 d mm1 v H1 l1 r1 rv h1 => ?_⟩
  cases e : isDct (rd mm1 d) with
  | false => simp only [e] at h1; exact h1.elim
  | true =>
    simp only [e, if_true] at h1
    obtain ⟨q, rfl, hd⟩ := isDN_of o r1 rv e
    refine ⟨q, rfl, hd, g, c1, sl, mm1, r1, PostE.bind h1 fun c2 y mm2 u H2 l2 r2 ru h2 => ⟨g, c2, sl, mm2, r2, PostE.bind h2 fun c3 x mm3 w H3 l3 r3 rx h3 => ?_⟩⟩
    exact get_ok o r3 (RepV.le (l2.trans l3) _ _ rv) (RepV.le l3 _ _ ru) rx h3
/-! ### built-ins -/
theorem s_lenD (o : XOk p n N sc W X) {po : Pos} {x : Str} (hx : x = "len") (hg : glB sc x = true) (hm : p.mg x = none) (ha : PE X A (tE p n W a)) (pa : plainA A = true) : PE X (.Call (.Name x po) [A] [] pos) (tE p n W (.un .lenD a)) := by
  subst hx
  refine s_callB o call_lenD (by decide +kernel) hg hm ha pa fun g c sl mm σ H d v Q r rv h => ?_
  simp only [unS] at h
  split at h
  · rename_i ks vs e
    obtain ⟨q, kvs, rfl, t, hk, _⟩ := r.rdD rv e
    have hl : kvs.length = ks.length := by have := congrArg List.length hk; simpa using this
    exact ⟨q, kvs.length, rfl, .inl ⟨kvs, t, rfl⟩, by rw [hl]; exact PostE.ok0 h r okI⟩
  · rename_i ks vs e
    obtain ⟨q, ob, kvs, rfl, t, e1, hk, r1, _⟩ := r.rdU rv e
    have hl : kvs.length = ks.length := by have := congrArg List.length e1; simpa using this
    exact ⟨q, kvs.length, rfl, .inr ⟨ob, kvs, ⟨by rw [← o.dn]; exact t, by rw [o.K]; exact keysA hk e1 r1⟩, rfl⟩, by rw [hl]; exact PostE.ok0 h r okI⟩
  · exact h.elim
theorem s_listD (o : XOk p n N sc W X) {po : Pos} {x : Str} (hx : x = "list") (hg : glB sc x = true) (hm : p.mg x = none) (ha : PE X A (tE p n W a)) (pa : plainA A = true) : PE X (.Call (.Name x po) [A] [] pos) (tE p n W (.un .listD a)) := by
  subst hx
  refine s_callTy o (call_listD o.calm) (by decide +kernel) hg hm ha pa fun g c sl mm σ H d v Q r rv h => ?_
  simp only [unS] at h
  split at h
  · rename_i ks vs e
    obtain ⟨q, kvs, rfl, t, hk, _, _, r1⟩ := r.rdD rv e
    exact ⟨q, kvs, rfl, t, fun w hw => PostE.newL h r r1 hw⟩
  · exact h.elim
theorem ltCps_eq : ∀ a b : List Nat, ltCps a b = decide (a < b)
  | [], [] => rfl
  | [], _ :: _ => rfl
  | _ :: _, [] => rfl
  | x :: xs, y :: ys => by
    simp only [ltCps, ltCps_eq xs ys]
    by_cases h : x < y
    · simp [h, List.cons_lt_cons_iff]
    · by_cases e : x = y
      · subst e; simp [List.cons_lt_cons_iff]
      · simp [h, e, List.cons_lt_cons_iff]
theorem rising_pw : ∀ (p : Str) (l : List Str), risingS p l = true → List.Pairwise (fun a b : Str => ltCps b.cps.toList a.cps.toList = false) (p :: l)
  | p, [], _ => by simp
  | p, x :: r, h => by
    simp only [risingS, Bool.and_eq_true, Bool.not_eq_true'] at h
    have ih := rising_pw x r h.2
    refine List.pairwise_cons.mpr ⟨fun y hy => ?_, ih⟩
    rcases List.mem_cons.mp hy with rfl | hy
    · exact h.1
    · have h2 := (List.pairwise_cons.mp ih).1 y hy
      rw [ltCps_eq, decide_eq_false_iff_not] at h2 ⊢
      have h1 := h.1
      rw [ltCps_eq, decide_eq_false_iff_not] at h1
      exact List.le_trans (l₁ := p.cps.toList) (l₂ := x.cps.toList) (l₃ := y.cps.toList) h1 h2
theorem pw_uniq {l m : List Tx} (p : l.Perm m) (h1 : l.Pairwise fun a b => ltT b a = false) (h2 : m.Pairwise fun a b => ltT b a = false) : l = m := by
  refine List.Perm.eq_of_pairwise (le := fun a b => ltT b a = false) (fun a b _ _ x y => ?_) h1 h2 p
  have x : ¬ b < a := of_decide_eq_false x
  have y : ¬ a < b := of_decide_eq_false y
  exact List.le_antisymm x y
theorem s_sortD (o : XOk p n N sc W X) {po : Pos} {x : Str} (hx : x = "sorted") (hg : glB sc x = true) (hm : p.mg x = none) (ha : PE X A (tE p n W a)) (pa : plainA A = true) : PE X (.Call (.Name x po) [A] [] pos) (tE p n W (.un .sortD a)) := by
  subst hx
  refine s_callB o (call_sortedD o.calm) (by decide +kernel) hg hm ha pa fun g c sl mm σ H d v Q r rv h => ?_
  simp only [unS] at h
  split at h
  · rename_i ks vs e
    obtain ⟨q, kvs, rfl, t, hk, _, hd, r1⟩ := r.rdD rv e
    cases es : allStr ks with
    | none => simp only [es] at h; exact h.elim
    | some ts =>
      simp only [es] at h
      cases z : decide (ts.length < 64) with
      | false => simp only [z] at h; exact h.elim
      | true =>
        simp only [z, if_true] at h
        have ek := allStr_map es
        subst ek
        refine ⟨q, kvs, ts.map toS, rfl, t, by rw [hk, List.map_map, List.map_map]; rfl, by rw [List.length_map]; exact of_decide_eq_true z, fun ys w hp hs hw => ?_⟩
        have hperm : (ys.map fun y => y.cps.toList).Perm ts := by
          have := hp.map (fun y : Str => y.cps.toList)
          rw [List.map_map] at this
          have e2 : ts.map ((fun y : Str => y.cps.toList) ∘ toS) = ts := by
            rw [show ((fun y : Str => y.cps.toList) ∘ toS) = id from funext fun t => by simp [toS]]; simp
          rw [e2] at this; exact this
        have hpw : (ys.map fun y => y.cps.toList).Pairwise fun a b => ltT b a = false := by
          rw [List.pairwise_map]
          have : ys.Pairwise fun a b : Str => ltCps b.cps.toList a.cps.toList = false := by
            cases ys with
            | nil => simp
            | cons y ys => exact rising_pw y ys hs
          exact this.imp fun {a b} h => by rw [ltCps_eq] at h; exact h
        have hm2 : (ts.mergeSort fun x y => !ltT y x).Pairwise fun a b => ltT b a = false := by
          have := List.pairwise_mergeSort (le := fun x y : Tx => !ltT y x) (fun a b c h1 h2 => by
            simp only [ltT, Bool.not_eq_true', decide_eq_false_iff_not] at h1 h2 ⊢
            exact List.le_trans (l₁ := a) (l₂ := b) (l₃ := c) h1 h2) (fun a b => by
            simp only [ltT, Bool.or_eq_true, Bool.not_eq_true', decide_eq_false_iff_not]
            exact List.le_total a b) ts
          exact this.imp fun {a b} h => by simpa using h
        have eq := pw_uniq (hperm.trans (List.mergeSort_perm ts fun x y => !ltT y x).symm) hpw hm2
        have eys : ys = (ts.mergeSort fun x y => !ltT y x).map toS := by
          rw [← eq, List.map_map]
          rw [show (toS ∘ fun y : Str => y.cps.toList) = id from funext fun t => toS_list t]; simp
        rw [eys]
        refine PostE.newL h r ?_ hw
        have hall : ∀ t ∈ ts, okT t = true := fun t ht => by
          have hm : Mp.D.str t ∈ ts.map Mp.D.str := List.mem_map_of_mem ht
          obtain ⟨j, hj⟩ := List.mem_iff_getElem?.mp hm
          obtain ⟨w', _, rw'⟩ := r1.get hj
          simp only [RepV] at rw'
          exact rw'.2
        exact repL_new (List.all_eq_true.mpr fun t ht => hall t ((List.mergeSort_perm ts fun x y => !ltT y x).mem_iff.mp ht))
  · exact h.elim
theorem s_rep (ha : PE X A (tE p n W a)) (hb : PE X B (tE p n W b)) : PE X (.BinOp A .Mult B pos) (tE p n W (.bin .rep a b)) :=
  s_bin (pe_op op_rep ha hb) fun g c sl mm σ H d f v u Q r rv ru h => by
    simp only [binS] at h
    split at h
    · split at h
      · rename_i k _ xs e
        split at h
        · rename_i j
          cases z : (decide (0 ≤ j) && decide (j ≤ 1000) && decide (xs.length ≤ 1000)) with
          | false => simp only [z] at h; exact h.elim
          | true =>
            simp only [z, if_true] at h
            simp only [Bool.and_eq_true, decide_eq_true_eq] at z
            obtain ⟨q, vs, hq, rfl, hH, rl, pl⟩ := r.own_at rv e
            rw [repV_int ru]
            have hl : vs.length * j.toNat ≤ 1000 * 1000 := Nat.mul_le_mul (by rw [rl.len]; exact z.2) (by omega)
            exact ⟨q, j, vs, rfl, rfl, hH, by omega, by omega, by rw [sizeLine_eq]; omega, fun w hw => PostE.newL h r (rl.rep _) hw⟩
        · exact h.elim
      · exact h.elim
    · exact h.elim
/-! ### statements -/
theorem s_dead {st : Stmt} : PS X st (tS p n W .dead) := ⟨fun pins s σ H D I ⟨g, c, sl, mm, r, h⟩ => by
  simp only [semS] at h
  exact h.elim⟩
theorem s_std (o : SOk p n N sc W X) {i : Nat} {x : Str} {p1 p2 : Pos} {I A : Expr} {ix a : E} (hi : N[i]? = some x) (hv : visB sc x = true) (hn : nmB x = true) (hI : PE X I (tE p n W ix)) (ha : PE X A (tE p n W a)) (pa : plainA A = true) (nc : isComp A = false) :
    PS X (.Assign [.Subscript (.Name x p1) I p2] A pos) (tS p n W (.std i ix a)) := by
  have hx : PE X (.Name x p1) (tE p n W (.var i)) := s_var o.toXOk hi hv hn
  refine PSimp (ps_st (room_u9 o.room) hx hI ha (by exact swap_plain pa nc (some (.Subscript (.Name x p1) I p2)) pos.line X.env)) fun D σ H ⟨g, c, sl, mm, r, h⟩ => ?_
  have h' : PostS p g c H D W (exprS (semE p.gv (p.cf n) a sl mm) sl fun d mm1 => (match sl[i]? with
      | some (some (.m k)) => (match semE p.gv (p.cf n) ix sl mm1 with
        | some (.ok y mm2) => (match mm2[k]? with
          | some (.mu c) => if pureD d then (match putD c y d with
            | some c' => some (.nx sl (mm2.set k (.mu c')))
            | none => none) else none
          | _ => none)
        | some (.ex x mm1) => some (.ex x sl mm1)
        | none => none)
      | _ => none)) := by
    simp only [semS] at h; exact h
  refine ⟨g, c, sl, mm, r, PostS.expr h' fun c1 d mm1 v H1 l1 r1 rv h1 => ?_⟩
  refine ⟨g, c1, sl, mm1, r1, ?_⟩
  simp only [semE]
  cases e1 : sl[i]? with
  | none => simp only [e1] at h1; exact h1.elim
  | some ov =>
    cases ov with
    | none => simp only [e1] at h1; exact h1.elim
    | some dv =>
      cases dv with
      | m k =>
        simp only [e1] at h1
        intro c2 w H2 l2 r2 rw'
        refine ⟨g, c2, sl, mm1, r2, ?_⟩
        have h2 := PostS.from h1 l2
        cases e2 : semE p.gv (p.cf n) ix sl mm1 with
        | none => simp only [e2] at h2; exact h2.elim
        | some y =>
          cases y with
          | ex x mm2 =>
            simp only [e2] at h2
            exact fun c3 dd H3 l3 r3 rx => h2 c3 dd σ H3 l3 r3 rx
          | ok y mm2 =>
            simp only [e2] at h2
            intro c3 u H3 l3 r3 ru
            have h3 := PostS.from h2 l3
            have rw3 := RepV.le l3 _ _ rw'
            have rv3 := RepV.le (l2.trans l3) _ _ rv
            split at h3
            · rename_i cc e3
              cases zp : pureD d with
              | false => simp only [zp] at h3; exact h3.elim
              | true =>
                simp only [zp, if_true] at h3
                split at h3
                · rename_i c' e4
                  simp only [RepV] at rw3
                  obtain ⟨q, hq, rfl⟩ := rw3
                  have ob := r3.obj k q _ hq e3
                  have nz : ¬ c3.Z q := ob.1
                  have pc := ob.2.1
                  have lw : ∀ o, c3.Le H3 c3 (upd H3 q o) := fun o => ⟨⟨[], by simp⟩, fun _ z => z, fun b u z w => rd_upd (fun e => nz (e ▸ z)) w⟩
                  refine ⟨q, rfl, ?_⟩
                  unfold putD at e4
                  split at e4
                  · rename_i ks vs
                    have om := ob.2.2
                    simp only [RepM] at om
                    obtain ⟨kvs, hH, hk, hd, rk, rl, nd⟩ := om
                    simp only [pureD, Bool.and_eq_true] at pc
                    split at e4
                    · rename_i z
                      simp only [Bool.and_eq_true, decide_eq_true_eq] at z
                      have hl : kvs.length = ks.length := by have := congrArg List.length hk; simpa using this
                      obtain ⟨s1, s2⟩ := putK_spec (v := v) z.1.1 hd hk nd
                      have ey := repV_key ru z.1.1
                      left
                      refine ⟨upd H3 q (.dK (putK kvs (keyT y) v)), .inl ⟨kvs, keyT y, hH, ey, by rw [hl, sizeLine_eq]; have := z.2; unfold szl at this; omega, rfl⟩, ?_⟩
                      cases ej : idxOfD y ks with
                      | some j =>
                        simp only [ej, Option.some.injEq] at e4
                        subst e4
                        obtain ⟨t1, t2⟩ := s1 j ej
                        obtain ⟨l4, r4⟩ := r3.writeG (e := .dct ks (vs.set j d)) (u0 := .dK (putK kvs (keyT y) v)) hq e3 (by simp only [pureD, pc.1, pureDs_set j pc.2 zp, Bool.and_self]) (by
                          simp only [RepM]
                          refine ⟨_, upd_same, t1, hd, ?_, by rw [t2]; exact (RepL.le (lw _) _ _ rl).set j (RepV.le (lw _) _ _ rv3), nd⟩
                          rw [keys_kV t1, ← keys_kV hk]; exact RepL.le (lw _) _ _ rk)
                        exact h3 c3 σ _ l4 r4
                      | none =>
                        simp only [ej, Option.some.injEq] at e4
                        subst e4
                        obtain ⟨t1, t2⟩ := s2 ej
                        have ry : RepV p.K c3.ad c3.Z H3 y (kV (keyT y)) := by rw [← ey]; exact ru
                        have py : pureD y = true := by
                          have := z.1.1
                          cases y <;> simp only [isKT, Bool.false_eq_true] at this <;> rfl
                        obtain ⟨l4, r4⟩ := r3.writeG (e := .dct (ks ++ [y]) (vs ++ [d])) (u0 := .dK (putK kvs (keyT y) v)) hq e3 (by
                          simp only [pureD, pureDs_app pc.1 (pureDs_one py), pureDs_app pc.2 (pureDs_one zp), Bool.and_self]) (by
                          simp only [RepM]
                          refine ⟨_, upd_same, by rw [t1]; simp [hk], by rw [List.all_append, hd]; simp [z.1.1], ?_, ?_, ?_⟩
                          · rw [t1, List.map_append]
                            exact (RepL.le (lw _) _ _ rk).app (RepL.one (RepV.le (lw _) _ _ ry))
                          · rw [t1, List.map_append]
                            exact (RepL.le (lw _) _ _ rl).app (RepL.one (RepV.le (lw _) _ _ rv3))
                          · rw [List.map_append, List.nodup_append]
                            exact ⟨nd, by simp, fun a ha b hb => by simp at hb; subst hb; exact fun e => t2 (e ▸ ha)⟩)
                        exact h3 c3 σ _ l4 r4
                    · cases e4
                  · rename_i ks vs
                    have om := ob.2.2
                    simp only [RepM] at om
                    obtain ⟨oo, kvs, hH, hk, hd, rk, rl, nd⟩ := om
                    simp only [pureD, Bool.and_eq_true] at pc
                    split at e4
                    · rename_i z
                      simp only [Bool.and_eq_true, decide_eq_true_eq] at z
                      have hl : kvs.length = ks.length := by have := congrArg List.length hk; simpa using this
                      obtain ⟨b', rfl⟩ := repV_kd z.1.1 ru
                      obtain ⟨s1, s2⟩ := putN_spec (p := b') (v := v) z.1.1 hd hk nd
                      right
                      refine ⟨oo, kvs, nkT y, b', by rw [← o.dn]; exact hH, by rw [o.K]; exact keysA hd hk rk, by rw [hl, sizeLine_eq]; have := z.2; unfold szl at this; omega, rfl, by rw [o.K]; exact keyA_of z.1.1 ru, fun o' => ?_⟩
                      rw [← o.dn]
                      cases ej : idxOfD y ks with
                      | some j =>
                        simp only [ej, Option.some.injEq] at e4
                        subst e4
                        obtain ⟨t1, t3, t2⟩ := s1 j ej
                        obtain ⟨l4, r4⟩ := r3.writeG (e := .dtu ks (vs.set j d)) (u0 := p.K.dn q o' (putN kvs (nkT y) b' v)) hq e3 (by simp only [pureD, pc.1, pureDs_set j pc.2 zp, Bool.and_self]) (by
                          simp only [RepM]
                          refine ⟨_, _, upd_same, t1, hd, ?_, by rw [t2]; exact (RepL.le (lw _) _ _ rl).set j (RepV.le (lw _) _ _ rv3), nd⟩
                          have t4 : ((putN kvs (nkT y) b' v).map fun q => V.ref q.2.1) = kvs.map fun q => V.ref q.2.1 := by
                            have := congrArg (List.map V.ref) t3
                            simpa [List.map_map, Function.comp_def] using this
                          rw [t4]; exact RepL.le (lw _) _ _ rk)
                        exact h3 c3 σ _ l4 r4
                      | none =>
                        simp only [ej, Option.some.injEq] at e4
                        subst e4
                        obtain ⟨t1, t2⟩ := s2 ej
                        obtain ⟨l4, r4⟩ := r3.writeG (e := .dtu (ks ++ [y]) (vs ++ [d])) (u0 := p.K.dn q o' (putN kvs (nkT y) b' v)) hq e3 (by
                          simp only [pureD, pureDs_app pc.1 (pureDs_one (isKD_pure z.1.1)), pureDs_app pc.2 (pureDs_one zp), Bool.and_self]) (by
                          simp only [RepM]
                          refine ⟨_, _, upd_same, by rw [t1]; simp [hk], by rw [List.all_append, hd]; simp [z.1.1], ?_, ?_, ?_⟩
                          · rw [t1, List.map_append]
                            exact (RepL.le (lw _) _ _ rk).app (RepL.one (RepV.le (lw _) _ _ ru))
                          · rw [t1, List.map_append]
                            exact (RepL.le (lw _) _ _ rl).app (RepL.one (RepV.le (lw _) _ _ rv3))
                          · rw [List.map_append, List.nodup_append]
                            exact ⟨nd, by simp, fun a ha b hb => by simp at hb; subst hb; exact fun e => t2 (e ▸ ha)⟩)
                        exact h3 c3 σ _ l4 r4
                    · cases e4
                  · cases e4
                · exact h3.elim
            · exact h3.elim
      | _ => simp only [e1] at h1; exact h1.elim
end
end Mp
/-! Mp10c: three names at once. -/
namespace Mp
open PySem PySem.Spec
open PyProof.Rows L2
section
variable {p : Pg} {n : Nat} {N : List Str} {sc : Scope} {W : WX} {X : Cx} {pos : Pos}
theorem swap_par3 {x y z : Str} {px py pz pt pt2 : Pos} {kt k2 : Nat} {A B C : Expr} {env : Env} (hk : env.scope.kind = .function) (hx : env.scope.names.lookup x = some .local) (hy : env.scope.names.lookup y = some .local) (hz : env.scope.names.lookup z = some .local)
    (hl : (py.line == px.line) = true) (hl2 : (pz.line == px.line) = true) (h1 : (x == y) = false) (h2 : (x == z) = false) (h3 : (y == z) = false)
    (pa : plainA A = true) (pb : plainA B = true) (pc : plainA C = true) (hf : (foldedForSure 8 A && (foldedForSure 8 B && foldedForSure 8 C)) = false) (hc : (constantsAlone 8 A && (constantsAlone 8 B && constantsAlone 8 C)) = false) :
    swappedStores [.Tuple [.Name x px, .Name y py, .Name z pz] kt pt] (.Tuple [A, B, C] k2 pt2) env = pure (some [x, y, z]) := by
  have hb : env.blockKind = .function := by unfold Env.blockKind; rw [hk]; rfl
  have kx : env.kindOf x = some .local := hx
  have ky : env.kindOf y = some .local := hy
  have kz : env.kindOf z = some .local := hz
  have sy : ∀ {a b : Str}, (a == b) = false → (b == a) = false := fun {a b} h => by
    rw [beq_eq_false_iff_ne] at h ⊢
    exact fun e => h e.symm
  have h1' := sy h1
  have h2' := sy h2
  have h3' := sy h3
  have ns : ∀ e : Expr, plainA e = true → (match e with | .Starred .. => true | _ => false) = false := fun e he => by
    cases e <;> first | rfl | cases he
  have hs : ([A, B, C].any fun | .Starred .. => true | _ => false) = false := by
    rw [List.any_eq_false]
    intro e he
    have pe : plainA e = true := by
      simp only [List.mem_cons, List.not_mem_nil, or_false] at he
      rcases he with rfl | rfl | rfl
      · exact pa
      · exact pb
      · exact pc
    rw [ns e pe]; exact Bool.false_ne_true
  unfold swappedStores
  simp only [hb, hs, kx, ky, kz, List.filterMap_cons, List.filterMap_nil, List.head?_cons, Option.map_some, Option.getD_some, Expr.pos, hl, hl2, List.all_cons, List.all_nil, Bool.and_true, hf, hc, List.length_cons, List.length_nil]
  simp [List.eraseDups_cons, h1', h2', h3', hf, hc]
  intro h
  exfalso
  rcases h with h | h | h
  · cases A <;> first | (cases pa; done) | (cases h; done)
  · cases B <;> first | (cases pb; done) | (cases h; done)
  · cases C <;> first | (cases pc; done) | (cases h; done)
theorem s_par3 (o : SOk p n N sc W X) {x y z : Str} {i j l : Nat} {A B C : Expr} {a b c : E} {px py pz pt pt2 : Pos} {kt k2 : Nat} (hi : N[i]? = some x) (hj : N[j]? = some y) (hl : N[l]? = some z) (hij : i ≠ j) (hil : i ≠ l) (hjl : j ≠ l)
    (hx : sc.names.lookup x = some .local) (hy : sc.names.lookup y = some .local) (hz : sc.names.lookup z = some .local) (ha : PA X [A, B, C] (tEs p n W (.cons a (.cons b (.cons c .nil)))))
    (hw : swappedStores [.Tuple [.Name x px, .Name y py, .Name z pz] kt pt] (.Tuple [A, B, C] k2 pt2) X.env = pure (some [x, y, z])) :
    PS X (.Assign [.Tuple [.Name x px, .Name y py, .Name z pz] kt pt] (.Tuple [A, B, C] k2 pt2) pos) (tS p n W (.par3 i j l a b c)) :=
  PSimp (ps_par3 o.calm (by rw [o.nm]; exact o.nd) (by rw [o.nm]; exact hi) (by rw [o.nm]; exact hj) (by rw [o.nm]; exact hl) hij hil hjl (by rw [o.sc]; exact hx) (by rw [o.sc]; exact hy) (by rw [o.sc]; exact hz) ha hw) fun D σ H ⟨g, cc, sl, mm, r, h⟩ => by
    simp only [semS] at h
    refine ⟨g, cc, sl, mm, r, ?_⟩
    cases q : semEs p.gv (p.cf n) (.cons a (.cons b (.cons c .nil))) sl mm with
    | none => rw [q] at h; exact h.elim
    | some y =>
      rw [q] at h
      cases y with
      | ex x mm1 => exact fun c2 dd H2 l2 r2 rx => h c2 dd σ H2 l2 r2 rx
      | ok ds mm1 =>
        intro c2 vs H2 l2 r2 rl
        match ds, rl, h with
        | [u, v, w], rl, h =>
          simp only [RepL] at rl
          obtain ⟨v1, t1, rfl, q1, v2, t2, rfl, q2, v3, t3, rfl, q3, rfl⟩ := rl
          exact ⟨v1, v2, v3, rfl, h c2 _ H2 l2 (((r2.set q1).set q2).set q3)⟩
        | [], _, h => exact h.elim
        | [_], _, h => exact h.elim
        | [_, _], _, h => exact h.elim
        | _ :: _ :: _ :: _ :: _, _, h => exact h.elim
end
end Mp
/-! Mp11: a text is looked at beside the small language. -/
namespace Mp
open PySem PySem.Spec
open PyProof.Rows L2
/-- the names -/
structure Nm where
  fn : Nat → Str
  gn : Nat → Str
  en : Nat → Str
  dom : Nat → Bool
  gdom : Nat → Bool
  edom : Nat → Bool
  bdom : Str → Bool
  np : Nat → Nat
  gs : Nat → Option (List Tx)
  gdf : Nat → Bool
  kbs : Nat → List (Nat × List Str × List (Option D))
  cn : Nat → Str
  cdom : Nat → Bool
  ini : Nat → Option Nat
  mt : Nat → Option (Nat × MK)
  con : Nat → Option (Nat × Str)
  xvd : Nat → Bool
  xid : Nat → Bool
  hdm : Nat → Bool
  ist : Option Nat → List (Nat × Bool)
  cf : Nat → List Str
  xk : Nat → Option Str
def Pg.nm (p : Pg) : Nm := ⟨p.fn, p.gn, p.en, p.dom, p.gdom, p.edom, p.bdom, fun f => (p.T f).np, fun g => strsG (p.gv g), p.gdf, p.kbs, p.cn, p.cdom, p.ini, p.mt, p.con, p.xvd, p.xid, p.hdm, p.ist, p.K.cf, p.K.xk⟩
/-- the same constants -/
def sameL1 : Option D → Option D → Bool
  | none, y => (match y with | none => true | _ => false)
  | some .non, y => (match y with | some .non => true | _ => false)
  | some (.bl a), y => (match y with | some (.bl b) => decide (a = b) | _ => false)
  | some (.int a), y => (match y with | some (.int b) => decide (a = b) | _ => false)
  | some (.str a), y => (match y with | some (.str b) => decide (a = b) | _ => false)
  | some _, _ => false
theorem sameL1_eq {x y : Option D} (h : sameL1 x y = true) : x = y := by
  unfold sameL1 at h
  split at h
  · split at h <;> first | rfl | cases h
  · split at h <;> first | rfl | cases h
  · split at h <;> first | (rw [of_decide_eq_true h]; done) | cases h
  · split at h <;> first | (rw [of_decide_eq_true h]; done) | cases h
  · split at h <;> first | (rw [of_decide_eq_true h]; done) | cases h
  · cases h
def sameL : List (Option D) → List (Option D) → Bool
  | [], ys => (match ys with | [] => true | _ :: _ => false)
  | x :: xs, ys => (match ys with | y :: ys => sameL1 x y && sameL xs ys | [] => false)
theorem sameL_eq : ∀ {xs ys : List (Option D)}, sameL xs ys = true → xs = ys
  | [], [], _ => rfl
  | [], _ :: _, h => by simp only [sameL] at h; cases h
  | x :: xs, [], h => by simp only [sameL] at h; cases h
  | x :: xs, y :: ys, h => by
    simp only [sameL, Bool.and_eq_true] at h
    rw [sameL1_eq h.1, sameL_eq h.2]
def inK (q : Nat × List Str × List (Option D)) (l : List (Nat × List Str × List (Option D))) : Bool := l.any fun z => decide (z.1 = q.1) && decide (z.2.1 = q.2.1) && sameL z.2.2 q.2.2
theorem inK_mem {q : Nat × List Str × List (Option D)} {l : List (Nat × List Str × List (Option D))} (h : inK q l = true) : q ∈ l := by
  unfold inK at h
  obtain ⟨z, hz, e⟩ := List.any_eq_true.mp h
  simp only [Bool.and_eq_true, decide_eq_true_eq] at e
  obtain ⟨z1, z2, z3⟩ := z
  obtain ⟨q1, q2, q3⟩ := q
  obtain ⟨⟨rfl, rfl⟩, e3⟩ := e
  have e4 : z3 = q3 := sameL_eq e3
  subst e4
  exact hz
/-- the keywords' names -/
def kwN : List Keyword → Option (List Str)
  | [] => some []
  | ⟨some n, _, _⟩ :: r => (kwN r).map (n :: ·)
  | ⟨none, _, _⟩ :: _ => none
theorem kwN_ok {pos : Pos} {env : Env} : ∀ {kws : List Keyword} {ks : List Str}, kwN kws = some ks → (backToKw pos (keywordEach kws env)).all (·.1.isSome) = true ∧ (backToKw pos (keywordEach kws env)).filterMap (·.1) = ks ∧ (backToKw pos (keywordEach kws env)).any (·.1.isNone) = false ∧ ks.length = kws.length
  | [], ks, h => by simp only [kwN, Option.some.injEq] at h; subst h; exact ⟨rfl, rfl, rfl, rfl⟩
  | ⟨some n, e, p⟩ :: r, ks, h => by
    simp only [kwN] at h
    cases q : kwN r with
    | none => rw [q] at h; simp at h
    | some ks' =>
      rw [q] at h
      simp only [Option.map_some, Option.some.injEq] at h
      subst h
      obtain ⟨h1, h2, h3, h4⟩ := kwN_ok (pos := pos) (env := env) q
      have e0 : backToKw pos (keywordEach (⟨some n, e, p⟩ :: r) env) = (some n, do let v ← eval e env; standAt pos; pure v) :: backToKw pos (keywordEach r env) := rfl
      rw [e0]
      refine ⟨by simp [h1], by simp [h2], by simp [h3], by simp [h4]⟩
  | ⟨none, e, p⟩ :: r, ks, h => by simp only [kwN] at h; cases h
def tstA : Expr → Bool
  | .IfExp _ _ _ _ => false
  | .Dict _ _ _ => false
  | _ => true
def isBO : Expr → Bool
  | .BoolOp _ _ _ => true
  | _ => false
/-- a built-in's name -/
def bB (m : Nm) (sc : Scope) (x y : Str) : Bool := decide (x = y) && glB sc x && m.bdom x
def u1N : U1 → Option Str
  | .len => some "len"
  | .int => some "int"
  | .any => some "any"
  | .all => some "all"
  | .sorted => some "sorted"
  | .list => some "list"
  | .tuple => some "tuple"
  | .str => some "str"
  | .minl => some "min"
  | .maxl => some "max"
  | .lenD => some "len"
  | .listD => some "list"
  | .sortD => some "sorted"
  | _ => none
def tyS : Ty → Option Str
  | .bool => some "bool"
  | .int => some "int"
  | .str => some "str"
  | .tuple => some "tuple"
  | .list => some "list"
  | .dict => some "dict"
  | .cls _ => none
/-- a value that is no test of its own kind -/
def val2 : Expr → Bool
  | .Tuple _ _ _ => true
  | .List _ _ => true
  | .BinOp _ _ _ _ => true
  | .ListComp _ _ _ _ => true
  | .UnaryOp .USub _ _ => true
  | .Attribute _ _ _ => true
  | _ => false
/-- the class that isinstance is asked of -/
def isxN (m : Nm) (t : Option Nat) (y : Str) : Bool := match t with
  | none => decide (y = ("ValueError" : Str)) && m.bdom y
  | some k => decide (y = m.en k) && m.hdm k
/-- the operand of a one-place operator -/
def vUn (m : Nm) (sc : Scope) : U1 → Expr → Option Expr
  | .neg, A => (match A with | .UnaryOp .USub B _ => some B | _ => none)
  | .frz, A => if valA A || val2 A then some A else none
  | .isN, A => (match A with | .Compare B [.Is] [.Constant .none _ _] _ => some B | _ => none)
  | .notN, A => (match A with | .Compare B [.IsNot] [.Constant .none _ _] _ => some B | _ => none)
  | .pop, A => (match A with | .Call (.Attribute B nm ap) [] [] ps => if decide (nm = ("pop" : Str)) && (ap.endLine == ps.line) && notSuper B then some B else none | _ => none)
  | .isi t, A => (match A with | .Call (.Name x _) [B, .Name y _] [] _ => (match tyS t with | some z => if bB m sc x "isinstance" && bB m sc y z then some B else none | none => none) | _ => none)
  | .tix g xs, A => (match A with | .Call (.Attribute (.Name x _) nm ap) [B] [] ps => if decide (nm = ("index" : Str)) && (ap.endLine == ps.line) && m.gdom g && decide (x = m.gn g) && glB sc x && decide (m.gs g = some xs) then some B else none | _ => none)
  | .exv c, A => (match A with | .Call (.Name x _) [B] [] _ => if decide (x = m.en c) && m.xvd c && glB sc x then some B else none | _ => none)
  | .exi c, A => (match A with | .Call (.Name x _) [B] [] _ => if decide (x = m.en c) && m.xid c && glB sc x then some B else none | _ => none)
  | .isx t bs, A => (match A with | .Call (.Name x _) [B, .Name y _] [] _ => if bB m sc x "isinstance" && decide (bs = m.ist t) && glB sc y && isxN m t y then some B else none | _ => none)
  | .strx cs, A => (match A with | .Call (.Name x _) [B] [] _ => if bB m sc x "str" && cs.all m.xvd then some B else none | _ => none)
  | .fld c, A => (match A with | .Attribute B nm _ => if m.xid c && decide (m.xk c = some nm) && notSuper B then some B else none | _ => none)
  | .ifl c j, A => (match A with | .Attribute B nm _ => if m.cdom c && decide ((m.cf c)[j]? = some nm) && notSuper B then some B else none | _ => none)
  | .isc c, A => (match A with | .Call (.Name x _) [B, .Name y _] [] _ => if bB m sc x "isinstance" && decide (y = m.cn c) && m.cdom c && glB sc y then some B else none | _ => none)
  | o, A => (match u1N o with
    | none => none
    | some z => (match A with | .Call (.Name x _) [B] [] _ => if bB m sc x z then some B else none | _ => none))
def vBin (m : Nm) (sc : Scope) : B2 → Expr → Option (Expr × Expr)
  | .add, A => (match A with | .BinOp L .Add R _ => some (L, R) | _ => none)
  | .sub, A => (match A with | .BinOp L .Sub R _ => some (L, R) | _ => none)
  | .mul, A => (match A with | .BinOp L .Mult R _ => some (L, R) | _ => none)
  | .rep, A => (match A with | .BinOp L .Mult R _ => some (L, R) | _ => none)
  | .fdiv, A => (match A with | .BinOp L .FloorDiv R _ => some (L, R) | _ => none)
  | .mod, A => (match A with | .BinOp L .Mod R _ => some (L, R) | _ => none)
  | .pow, A => (match A with | .BinOp L .Pow R _ => some (L, R) | _ => none)
  | .eq, A => (match A with | .Compare L [.Eq] [R] _ => some (L, R) | _ => none)
  | .ne, A => (match A with | .Compare L [.NotEq] [R] _ => some (L, R) | _ => none)
  | .lt, A => (match A with | .Compare L [.Lt] [R] _ => some (L, R) | _ => none)
  | .le, A => (match A with | .Compare L [.LtE] [R] _ => some (L, R) | _ => none)
  | .gt, A => (match A with | .Compare L [.Gt] [R] _ => some (L, R) | _ => none)
  | .ge, A => (match A with | .Compare L [.GtE] [R] _ => some (L, R) | _ => none)
  | .mem, A => (match A with | .Compare L [.In] [R] _ => some (L, R) | _ => none)
  | .nmem, A => (match A with | .Compare L [.NotIn] [R] _ => some (L, R) | _ => none)
  | .idx, A => (match A with | .Subscript L R _ => some (L, R) | _ => none)
  | .min2, A => (match A with | .Call (.Name x _) [L, R] [] _ => if bB m sc x "min" then some (L, R) else none | _ => none)
  | .max2, A => (match A with | .Call (.Name x _) [L, R] [] _ => if bB m sc x "max" then some (L, R) else none | _ => none)
  | .lrng, A => (match A with | .Call (.Name x _) [.Call (.Name y _) [L, R] [] _] [] _ => if bB m sc x "list" && bB m sc y "range" then some (L, R) else none | _ => none)
  | _, _ => none
def mthN : B2 → Option Str
  | .app => some "append"
  | .popat => some "pop"
  | .index => some "index"
  | .split => some "split"
  | .join => some "join"
  | _ => none
def vMth (o : B2) (A : Expr) : Option (Expr × Expr) := match mthN o with
  | none => none
  | some z => (match A with | .Call (.Attribute B nm ap) [C] [] ps => if decide (nm = z) && (ap.endLine == ps.line) && notSuper B then some (B, C) else none | _ => none)
def vGet1 : Expr → Option (Expr × Expr)
  | .Call (.Attribute B nm ap) [C] [] ps => if decide (nm = ("get" : Str)) && (ap.endLine == ps.line) && notSuper B then some (B, C) else none
  | _ => none
def vGet2 : Expr → Option (Expr × Expr × Expr)
  | .Call (.Attribute B nm ap) [C, D] [] ps => if decide (nm = ("get" : Str)) && (ap.endLine == ps.line) && notSuper B then some (B, C, D) else none
  | _ => none
def vD1 : Expr → Option (Expr × Expr)
  | .Dict [some K] [V] _ => some (K, V)
  | _ => none
def vNot : Expr → Option Expr
  | .UnaryOp .Not B _ => some B
  | _ => none
/-- a and b and ..: the first, and what is left as one -/
def vAnd : Expr → Option (Expr × Expr)
  | .BoolOp .And (x :: y :: r) p => some (x, match r with | [] => y | _ :: _ => .BoolOp .And (y :: r) p)
  | _ => none
def vOr : Expr → Option (Expr × Expr)
  | .BoolOp .Or (x :: y :: r) p => some (x, match r with | [] => y | _ :: _ => .BoolOp .Or (y :: r) p)
  | _ => none
def vIte : Expr → Option (Expr × Expr × Expr)
  | .IfExp c a b _ => some (c, a, b)
  | _ => none
def vChn (o p : B2) : Expr → Option (Expr × Expr × Expr)
  | .Compare a [x, y] [b, c] _ => if decide (cmpO o = some x) && decide (cmpO p = some y) then some (a, b, c) else none
  | _ => none
def vCall (m : Nm) (sc : Scope) (f : Nat) : Expr → Option (List Expr)
  | .Call (.Name x _) as [] _ => if decide (x = m.fn f) && (m.dom f && m.gdf f) && glB sc x then some as else none
  | _ => none
/-- an own method by a call, by an attribute: receiver, arguments -/
def vOpc (m : Nm) (sc : Scope) (f : Nat) : Op → Expr → Option (Expr × List Expr)
  | .meth, A => (match A with | .Call (.Attribute B nm ap) as [] ps => if decide (nm = m.fn f) && (ap.endLine == ps.line) && notSuper B && decide (as.length < 30) then some (B, as) else none | _ => none)
  | .prop, A => (match A with | .Attribute B nm _ => if decide (nm = m.fn f) && notSuper B then some (B, []) else none | _ => none)
  | .call, A => (match A with | .Call (.Name x p1) as [] _ => if decide (m.fn f = ("__call__" : Str)) && !as.isEmpty then some (.Name x p1, as) else none | _ => none)
  | .len, A => (match A with | .Call (.Name x _) [B] [] _ => if bB m sc x "len" && decide (m.fn f = ("__len__" : Str)) then some (B, []) else none | _ => none)
  | .strO, A => (match A with | .Call (.Name x _) [B] [] _ => if bB m sc x "str" && decide (m.fn f = ("__str__" : Str)) then some (B, []) else none | _ => none)
  | _, _ => none
/-- .. of a class -/
def vCm (m : Nm) (sc : Scope) (c f : Nat) : Expr → Option (List Expr)
  | .Call (.Attribute (.Name y _) nm ap) as [] ps => if decide (nm = m.fn f) && decide (y = m.cn c) && glB sc y && (ap.endLine == ps.line) && decide (as.length < 30) && !as.isEmpty then some as else none
  | _ => none
/-- .. by an operator -/
def vOp2 (m : Nm) (f : Nat) : Op → Expr → Option (Expr × Expr)
  | .shr, A => (match A with | .BinOp L .RShift R _ => if decide (m.fn f = ("__rshift__" : Str)) then some (L, R) else none | _ => none)
  | .item, A => (match A with | .Subscript L R _ => if decide (m.fn f = ("__getitem__" : Str)) then some (L, R) else none | _ => none)
  | .eq, A => (match A with | .Compare L [.Eq] [R] _ => if decide (m.fn f = ("__eq__" : Str)) then some (L, R) else none | _ => none)
  | .inn, A => (match A with | .Compare L [.In] [R] _ => if decide (m.fn f = ("__contains__" : Str)) then some (L, R) else none | _ => none)
  | _, _ => none
/-- a class called -/
def vMk (m : Nm) (sc : Scope) (c f : Nat) : Expr → Option (List Expr × List Keyword)
  | .Call (.Name x _) as kws _ => if decide (x = m.cn c) && glB sc x && decide (m.ini c = some f) && !as.isEmpty then some (as, kws) else none
  | _ => none
def Op.kind : Op → Option MK
  | .prop => some .prop
  | .clsm => some .cm
  | .lgen => none
  | .iadd => none
  | _ => some .fn
def isNil : Es → Bool
  | .nil => true
  | _ => false
def isClsm : Op → Bool
  | .clsm => true
  | _ => false
def isNon : E → Bool
  | .cst .non => true
  | _ => false
def vSlc : Expr → Option (Expr × Option Expr × Option Expr)
  | .Subscript a (.Slice lo hi none _) _ => some (a, lo, hi)
  | _ => none
/-- a comprehension: target, source, tests, element, its scope -/
def vLc : Expr → Option (Expr × Expr × List Expr × Expr × Scope)
  | .ListComp e [⟨t, i, ifs, z⟩] sc _ => if z == 0 then some (t, i, ifs, e, sc) else none
  | _ => none
def tgXs (A : Expr) (tg : Tg) : Option (List Str) := match tg with
  | .nm _ => (match A with | .Name x _ => some [x] | _ => none)
  | .tp _ => (match A with | .Tuple es _ _ => tgNames es | _ => none)
def chkTg (N : List Str) (sc : Scope) (A : Expr) (tg : Tg) : Bool := match tgXs A tg with
  | some xs => xs.length == (tgIx tg).length && (xs.zip (tgIx tg)).all fun q => decide (N[q.2]? = some q.1) && locB sc q.1
  | none => false
def isTupA : Expr → Bool
  | .Tuple _ _ _ => true
  | _ => false
def isYes : E → Bool
  | .cst (.bl true) => true
  | _ => false
section
variable (m : Nm) (N : List Str)
mutual
def chkE : E → Scope → Expr → Bool
  | .var i, sc, A => plainA A && (match A with | .Name x _ => decide (N[i]? = some x) && visB sc x && nmB x | _ => false)
  | .cst d, _, A => plainA A && litB A d
  | .glb g, sc, A => plainA A && (match A with | .Name x _ => m.gdom g && decide (x = m.gn g) && glB sc x | _ => false)
  | .tup es, sc, A => plainA A && (match A with | .Tuple as _ _ => chkEs es sc as | _ => false)
  | .lst es, sc, A => plainA A && (match A with | .List as _ => chkEs es sc as | _ => false)
  | .nls es, sc, A => plainA A && (match A with | .List as _ => chkEs es sc as | _ => false)
  | .un o a, sc, A => plainA A && (match vUn m sc o A with | some B => chkE a sc B | none => false)
  | .bin o a b, sc, A => plainA A && (match vBin m sc o A with | some (L, R) => chkE a sc L && chkE b sc R | none => false)
  | .mth o a b, sc, A => plainA A && (match vMth o A with | some (L, R) => chkE a sc L && chkE b sc R | none => false)
  | .not a, sc, A => plainA A && (match vNot A with | some B => tstA B && chkE a sc B | none => false)
  | .and a b, sc, A => plainA A && (match vAnd A with | some (L, R) => tstA L && tstA R && chkE a sc L && chkE b sc R | none => false)
  | .or a b, sc, A => plainA A && (match vOr A with | some (L, R) => tstA L && tstA R && chkE a sc L && chkE b sc R | none => false)
  | .ite c a b, sc, A => plainA A && (match vIte A with | some (C, L, R) => tstA C && chkE c sc C && chkE a sc L && chkE b sc R | none => false)
  | .chn o p a b c, sc, A => plainA A && (match vChn o p A with | some (L, M, R) => chkE a sc L && chkE b sc M && chkE c sc R | none => false)
  | .call f es, sc, A => plainA A && (match vCall m sc f A with | some as => (match as with | [] => false | _ :: _ => true) && decide (es.len = m.np f) && chkEs es sc as | none => false)
  | .call0 f, sc, A => plainA A && (match vCall m sc f A with | some as => (match as with | [] => true | _ :: _ => false) && decide (m.np f = 0) | none => false)
  | .slc a lo hi, sc, A => plainA A && (match vSlc A with
    | some (B, l, h) => chkE a sc B && (match l with | none => isNo lo | some L => !isNo lo && chkE lo sc L) && (match h with | none => isNo hi | some L => !isNo hi && chkE hi sc L)
    | none => false)
  | .no, _, _ => false
  | .dsp ks es, sc, A => plainA A && (match A with | .Dict keys vals _ => decide (0 < keys.length) && decide (keys.length ≤ 15) && chkP es ks sc keys vals | _ => false)
  | .dn _, _, A => plainA A && (match A with | .Dict [] [] _ => true | _ => false)
  | .d1 k v, sc, A => plainA A && (match vD1 A with | some (K, V) => chkE k sc K && chkE v sc V | none => false)
  | .get1 a k, sc, A => plainA A && (match vGet1 A with | some (L, R) => chkE a sc L && chkE k sc R | none => false)
  | .get2 a k x, sc, A => plainA A && (match vGet2 A with | some (L, M, R) => chkE a sc L && chkE k sc M && chkE x sc R | none => false)
  | .mk c f es es2 fl, sc, A => plainA A && (match vMk m sc c f A with
    | some (as, kws) => chkEs es sc as && (if fl.isEmpty then kws.isEmpty && isNil es2 && (m.kbs f).isEmpty && decide (es.len + 1 = m.np f) && decide (as.length = es.len)
        else chkKw es2 sc kws && (match kwN kws with | some ks => inK (es.len, ks, fl) (m.kbs f) && decide (es2.len = ks.length) && fl.all litOk && decide (noneN fl = es.len + ks.length) && decide (fl.length + 1 = m.np f) | none => false))
    | none => false)
  | .opc o c f a es, sc, A => plainA A && (if isClsm o then isNon a && decide (m.mt f = some (c, .cm)) && decide (es.len + 1 = m.np f) && (match vCm m sc c f A with | some as => chkEs es sc as | none => false)
      else (match o.kind with | some k => decide (m.mt f = some (c, k)) | none => false) && decide (es.len + 1 = m.np f) && (match vOpc m sc f o A with | some (B, as) => chkE a sc B && chkEs es sc as | none => false))
  | .op2 o c f a b, sc, A => plainA A && decide (m.mt f = some (c, .fn)) && decide (2 = m.np f) && (match vOp2 m f o A with | some (L, R) => chkE a sc L && chkE b sc R | none => false)
  | .ccn g, sc, A => plainA A && (match m.con g with | some (c, x) => (match A with | .Attribute (.Name y _) nm _ => decide (y = m.cn c) && glB sc y && decide (nm = x) | _ => false) | none => false)
  | .lc _ tg elt it cnd, sc, A => plainA A && (match vLc A with
    | some (t, i, ifs, e, s2) => (match tgXs t tg with | some xs => blkC N sc s2 (xs.zip (tgIx tg)) | none => false) && chkTg N s2 t tg && plainA i && chkI it sc t i && (match ifs with | [] => isYes cnd | [C] => tstA C && chkE cnd (relS s2 sc) C | _ => false) && chkE elt (relS s2 sc) e
    | none => false)
def chkEs : Es → Scope → List Expr → Bool
  | .nil, _, as => (match as with | [] => true | _ => false)
  | .cons e es, sc, as => (match as with | A :: r => chkE e sc A && chkEs es sc r | _ => false)
def chkKw : Es → Scope → List Keyword → Bool
  | .nil, _, kws => (match kws with | [] => true | _ => false)
  | .cons e es, sc, kws => (match kws with | ⟨_, A, _⟩ :: r => chkE e sc A && chkKw es sc r | _ => false)
def chkP : Es → List D → Scope → List (Option Expr) → List Expr → Bool
  | .nil, ks, _, keys, vals => (match ks, keys, vals with | [], [], [] => true | _, _, _ => false)
  | .cons e es, ks, sc, keys, vals => (match ks, keys, vals with | k :: ks, some K :: keys, V :: vals => isKT k && litB K k && chkE e sc V && chkP es ks sc keys vals | _, _, _ => false)
def chkI : It → Scope → Expr → Expr → Bool
  | .seq a, sc, _, A => chkE a sc A
  | .rng a, sc, _, A => (match A with | .Call (.Name x _) [B] [] _ => bB m sc x "range" && chkE a sc B | _ => false)
  | .rng2 a b, sc, _, A => (match A with | .Call (.Name x _) [B, C] [] _ => bB m sc x "range" && chkE a sc B && chkE b sc C | _ => false)
  | .zip a b, sc, t, A => isTupA t && (match A with | .Call (.Name x _) [B, C] [] _ => bB m sc x "zip" && chkE a sc B && chkE b sc C | _ => false)
  | .enm a, sc, t, A => isTupA t && (match A with | .Call (.Name x _) [B] [] _ => bB m sc x "enumerate" && chkE a sc B | _ => false)
end
end

section
variable {p : Pg} {n : Nat} {N : List Str} {sc : Scope} {W : WX} {X : Cx}
theorem bB_of (o : XOk p n N sc W X) {x y : Str} (h : bB p.nm sc x y = true) : x = y ∧ glB sc x = true ∧ p.mg x = none := by
  unfold bB at h
  simp only [Bool.and_eq_true, decide_eq_true_eq] at h
  exact ⟨h.1.1, h.1.2, o.blt x h.2⟩
/-- what is shown of an expression -/
structure Ok (p : Pg) (n : Nat) (W : WX) (X : Cx) (e : E) (A : Expr) : Prop where
  pe : PE X A (tE p n W e)
  pt : tstA A = true → PT X A (tB p n W e)
  pw : isBO A = true → PW X A (tB p n W e)
theorem Ok.val {e : E} {A : Expr} (h : PE X A (tE p n W e)) (v : valA A = true) : Ok p n W X e A := ⟨h, fun _ => t_val h v, fun b => by cases A <;> first | (cases b; done) | (cases v; done)⟩
theorem Ok.cmp {e : E} {L R : Expr} {op : CmpOp} {pos : Pos} (h : PC X op L R (tE p n W e)) (pb : plainA R = true) : Ok p n W X e (.Compare L [op] [R] pos) := ⟨s_cmp h pb, fun _ => t_cmp h pb, fun b => by cases b⟩
theorem truth2 {A : Expr} (h : val2 A = true) (env : Env) : ∀ whole, isTrue A env whole = (do let v ← whole; standAt A.pos; holding [v] (truthy v)) := by
  intro whole
  unfold val2 at h
  split at h <;> first | rfl | (cases h; done)
theorem Ok.val2 {e : E} {A : Expr} (h : PE X A (tE p n W e)) (v : val2 A = true) : Ok p n W X e A :=
  ⟨h, fun _ => PTimp (pt_val h (truth2 v X.env)) fun σ H Q ⟨g, c, sl, mm, r, h⟩ => ⟨g, c, sl, mm, r, h.val⟩, fun b => by cases A <;> first | (cases b; done) | (cases v; done)⟩
theorem ok_un (o : XOk p n N sc W X) {u : U1} {a : E} {A B : Expr} (hv : vUn p.nm sc u A = some B) (pB : plainA B = true) (hB : Ok p n W X a B) : Ok p n W X (.un u a) A := by
  cases u with
  | neg =>
    simp only [vUn] at hv
    split at hv
    · simp only [Option.some.injEq] at hv; subst hv
      exact .val2 (s_neg hB.pe) rfl
    · cases hv
  | frz =>
    simp only [vUn] at hv
    split at hv
    · rename_i h
      simp only [Option.some.injEq] at hv; subst hv
      rw [Bool.or_eq_true] at h
      exact h.elim (fun h => .val (s_frz hB.pe) h) fun h => .val2 (s_frz hB.pe) h
    · cases hv
  | isN =>
    simp only [vUn] at hv
    split at hv
    · simp only [Option.some.injEq] at hv; subst hv
      exact .cmp (s_isN hB.pe) rfl
    · cases hv
  | notN =>
    simp only [vUn] at hv
    split at hv
    · simp only [Option.some.injEq] at hv; subst hv
      exact .cmp (s_notN hB.pe) rfl
    · cases hv
  | pop =>
    simp only [vUn] at hv
    split at hv
    · split at hv
      · rename_i h
        simp only [Option.some.injEq] at hv; subst hv
        simp only [Bool.and_eq_true, decide_eq_true_eq] at h
        obtain ⟨⟨rfl, h2⟩, h3⟩ := h
        exact .val (s_pop o h2 hB.pe pB h3) rfl
      · cases hv
    · cases hv
  | isi t =>
    simp only [vUn] at hv
    split at hv
    · split at hv
      · rename_i z hz
        split at hv
        · rename_i h
          simp only [Option.some.injEq] at hv; subst hv
          rw [Bool.and_eq_true] at h
          obtain ⟨e1, g1, m1⟩ := bB_of o h.1
          obtain ⟨e2, g2, m2⟩ := bB_of o h.2
          subst e1; subst e2
          cases t <;> simp only [tyS, Option.some.injEq, reduceCtorEq] at hz <;> subst hz <;> exact .val (s_isi o rfl rfl g1 m1 g2 m2 (by decide +kernel) hB.pe pB) rfl
        · cases hv
      · cases hv
    · cases hv
  | tix g xs =>
    simp only [vUn] at hv
    split at hv
    · split at hv
      · rename_i h
        simp only [Option.some.injEq] at hv; subst hv
        simp only [Bool.and_eq_true, decide_eq_true_eq] at h
        obtain ⟨⟨⟨⟨⟨rfl, h2⟩, h3⟩, rfl⟩, h5⟩, h6⟩ := h
        exact .val (s_tix o h2 h3 h6 h5 hB.pe pB) rfl
      · cases hv
    · cases hv
  | listM => simp only [vUn, u1N] at hv; cases hv
  | exv c =>
    simp only [vUn] at hv
    split at hv
    · split at hv
      · rename_i h
        simp only [Option.some.injEq] at hv; subst hv
        simp only [Bool.and_eq_true, decide_eq_true_eq] at h
        obtain ⟨⟨rfl, h2⟩, h3⟩ := h
        exact .val (s_exv o h2 h3 hB.pe pB) rfl
      · cases hv
    · cases hv
  | exi c =>
    simp only [vUn] at hv
    split at hv
    · split at hv
      · rename_i h
        simp only [Option.some.injEq] at hv; subst hv
        simp only [Bool.and_eq_true, decide_eq_true_eq] at h
        obtain ⟨⟨rfl, h2⟩, h3⟩ := h
        exact .val (s_exi o h2 h3 hB.pe pB) rfl
      · cases hv
    · cases hv
  | isx t bs =>
    simp only [vUn] at hv
    split at hv
    · split at hv
      · rename_i h
        simp only [Option.some.injEq] at hv; subst hv
        simp only [Bool.and_eq_true, decide_eq_true_eq] at h
        obtain ⟨⟨⟨h1, h2⟩, h3⟩, h4⟩ := h
        obtain ⟨e1, g1, m1⟩ := bB_of o h1
        refine .val (s_isx o e1 g1 m1 h2 h3 ?_ hB.pe pB) rfl
        unfold isxN at h4
        cases t with
        | none =>
          simp only [Bool.and_eq_true, decide_eq_true_eq] at h4
          exact .inl ⟨rfl, h4.1, o.blt _ h4.2⟩
        | some k =>
          simp only [Bool.and_eq_true, decide_eq_true_eq] at h4
          exact .inr ⟨k, rfl, h4.1, h4.2⟩
      · cases hv
    · cases hv
  | strx cs =>
    simp only [vUn] at hv
    split at hv
    · split at hv
      · rename_i h
        simp only [Option.some.injEq] at hv; subst hv
        rw [Bool.and_eq_true] at h
        obtain ⟨e1, g1, m1⟩ := bB_of o h.1
        exact .val (s_strx o e1 g1 m1 (fun c hc => List.all_eq_true.mp h.2 c hc) hB.pe pB) rfl
      · cases hv
    · cases hv
  | fld c =>
    simp only [vUn] at hv
    split at hv
    · split at hv
      · rename_i h
        simp only [Option.some.injEq] at hv; subst hv
        simp only [Bool.and_eq_true, decide_eq_true_eq] at h
        obtain ⟨⟨h1, h2⟩, h3⟩ := h
        exact .val2 (s_fld o h1 h2 hB.pe pB h3) rfl
      · cases hv
    · cases hv
  | ifl c j =>
    simp only [vUn] at hv
    split at hv
    · split at hv
      · rename_i h
        simp only [Option.some.injEq] at hv; subst hv
        simp only [Bool.and_eq_true, decide_eq_true_eq] at h
        obtain ⟨⟨h1, h2⟩, h3⟩ := h
        exact .val2 (s_ifl o h1 h2 hB.pe pB h3) rfl
      · cases hv
    · cases hv
  | isc c =>
    simp only [vUn] at hv
    split at hv
    · split at hv
      · rename_i h
        simp only [Option.some.injEq] at hv; subst hv
        simp only [Bool.and_eq_true, decide_eq_true_eq] at h
        obtain ⟨⟨⟨h1, rfl⟩, h3⟩, h4⟩ := h
        obtain ⟨e1, g1, m1⟩ := bB_of o h1
        exact .val (s_isc o e1 g1 m1 h3 h4 hB.pe pB) rfl
      · cases hv
    · cases hv
  | _ =>
    simp only [vUn, u1N] at hv
    split at hv
    · split at hv
      · rename_i h
        simp only [Option.some.injEq] at hv; subst hv
        obtain ⟨e1, g1, m1⟩ := bB_of o h
        first
          | exact .val (s_len o e1 g1 m1 hB.pe pB) rfl
          | exact .val (s_int o e1 g1 m1 hB.pe pB) rfl
          | exact .val (s_any o e1 g1 m1 hB.pe pB) rfl
          | exact .val (s_all o e1 g1 m1 hB.pe pB) rfl
          | exact .val (s_sorted o e1 g1 m1 hB.pe pB) rfl
          | exact .val (s_list o e1 g1 m1 hB.pe pB) rfl
          | exact .val (s_tuple o e1 g1 m1 hB.pe pB) rfl
          | exact .val (s_str o e1 g1 m1 hB.pe pB) rfl
          | exact .val (s_minl o e1 g1 m1 hB.pe pB) rfl
          | exact .val (s_maxl o e1 g1 m1 hB.pe pB) rfl
          | exact .val (s_lenD o e1 g1 m1 hB.pe pB) rfl
          | exact .val (s_listD o e1 g1 m1 hB.pe pB) rfl
          | exact .val (s_sortD o e1 g1 m1 hB.pe pB) rfl
      · cases hv
    · cases hv
theorem ok_bin (o : XOk p n N sc W X) {u : B2} {a b : E} {A L R : Expr} (hv : vBin p.nm sc u A = some (L, R)) (pL : plainA L = true) (pR : plainA R = true) (hL : Ok p n W X a L) (hR : Ok p n W X b R) : Ok p n W X (.bin u a b) A := by
  cases u <;> simp only [vBin] at hv <;> (try (cases hv; done)) <;> split at hv <;> (try (cases hv; done))
  all_goals first
    | (split at hv
       · rename_i h
         simp only [Option.some.injEq, Prod.mk.injEq] at hv; obtain ⟨rfl, rfl⟩ := hv
         first
           | (obtain ⟨e1, g1, m1⟩ := bB_of o h
              first
                | exact .val (s_min2 o e1 g1 m1 hL.pe hR.pe pL pR) rfl
                | exact .val (s_max2 o e1 g1 m1 hL.pe hR.pe pL pR) rfl)
           | (rw [Bool.and_eq_true] at h
              obtain ⟨e1, g1, m1⟩ := bB_of o h.1
              obtain ⟨e2, g2, m2⟩ := bB_of o h.2
              exact .val (s_lrng o e1 e2 g1 m1 g2 m2 hL.pe hR.pe pL pR) rfl)
       · cases hv)
    | (simp only [Option.some.injEq, Prod.mk.injEq] at hv
       obtain ⟨rfl, rfl⟩ := hv
       first
         | exact .val2 (s_add o hL.pe hR.pe) rfl
         | exact .val2 (s_sub hL.pe hR.pe) rfl
         | exact .val2 (s_mul o hL.pe hR.pe) rfl
         | exact .val2 (s_rep hL.pe hR.pe) rfl
         | exact .val2 (s_fdiv hL.pe hR.pe) rfl
         | exact .val2 (s_mod hL.pe hR.pe) rfl
         | exact .val2 (s_pow hL.pe hR.pe) rfl
         | exact .cmp (s_eq o hL.pe hR.pe) pR
         | exact .cmp (s_ne o hL.pe hR.pe) pR
         | exact .cmp (s_cmpI op_lt (fun _ _ _ => rfl) hL.pe hR.pe) pR
         | exact .cmp (s_cmpI op_le (fun _ _ _ => rfl) hL.pe hR.pe) pR
         | exact .cmp (s_cmpI op_gt (fun _ _ _ => rfl) hL.pe hR.pe) pR
         | exact .cmp (s_cmpI op_ge (fun _ _ _ => rfl) hL.pe hR.pe) pR
         | exact .cmp (s_mem o hL.pe hR.pe) pR
         | exact .cmp (s_nmem o hL.pe hR.pe) pR
         | exact .val (s_idx o hL.pe hR.pe pR) rfl)
theorem ok_mth (o : XOk p n N sc W X) {u : B2} {a b : E} {A L R : Expr} (hv : vMth u A = some (L, R)) (pL : plainA L = true) (pR : plainA R = true) (hL : Ok p n W X a L) (hR : Ok p n W X b R) : Ok p n W X (.mth u a b) A := by
  unfold vMth at hv
  cases u <;> simp only [mthN] at hv <;> (try (cases hv; done)) <;> split at hv <;> (try (cases hv; done)) <;> split at hv <;> (try (cases hv; done))
  all_goals
    rename_i h
    simp only [Option.some.injEq, Prod.mk.injEq] at hv
    obtain ⟨rfl, rfl⟩ := hv
    simp only [Bool.and_eq_true, decide_eq_true_eq] at h
    obtain ⟨⟨rfl, h2⟩, h3⟩ := h
    first
      | exact .val (s_app o h2 hL.pe hR.pe pL h3 pR) rfl
      | exact .val (s_popat o h2 hL.pe hR.pe pL h3 pR) rfl
      | exact .val (s_split o h2 hL.pe hR.pe pL h3 pR) rfl
      | exact .val (s_join o h2 hL.pe hR.pe pL h3 pR) rfl
      | exact .val (s_index o h2 hL.pe hR.pe pL h3 pR) rfl
end
end Mp
/-! Mp12: every expression that is checked is read. -/
namespace Mp
open PySem PySem.Spec
open PyProof.Rows L2
theorem chk_plain {m : Nm} {N : List Str} {e : E} {sc : Scope} {A : Expr} (h : chkE m N e sc A = true) : plainA A = true := by
  cases e <;> simp only [chkE, Bool.and_eq_true] at h <;> first | exact h.1 | exact h.1.1.1 | (cases h; done)
theorem chks_plain {m : Nm} {N : List Str} {sc : Scope} : ∀ {es : Es} {as : List Expr}, chkEs m N es sc as = true → as.all plainA = true
  | .nil, [], _ => rfl
  | .nil, _ :: _, h => by simp only [chkEs] at h; cases h
  | .cons _ _, [], h => by simp only [chkEs] at h; cases h
  | .cons e es, a :: as, h => by
    simp only [chkEs, Bool.and_eq_true] at h
    rw [List.all_cons, chk_plain h.1, chks_plain h.2]; rfl
theorem isYes_eq {e : E} (h : isYes e = true) : e = .cst (.bl true) := by
  unfold isYes at h
  split at h
  · rfl
  · cases h
section
variable {p : Pg} {n : Nat} {N : List Str} {sc : Scope} {W : WX} {X : Cx} {pos : Pos}
theorem tg_ok {Y : Cx} {A : Expr} {tg : Tg} (hK : Y.K = p.K) (hc : Y.calm = true) (hN : Y.N = N) (nd : N.Nodup) (hl : ∀ x, locB sc x = true → L2.Loc Y.env.scope x ∧ (Y.fn x = true ∨ Y.env.scope.names.lookup x = some .local)) (h : chkTg N sc A tg = true) : PG Y A (tG p tg) := by
  unfold chkTg at h
  split at h
  · rename_i xs ht
    rw [Bool.and_eq_true] at h
    have ok : NamesOk Y xs (tgIx tg) := by
      refine ⟨by simpa using h.1, fun k x i e1 e2 => ?_⟩
      have hm : (x, i) ∈ xs.zip (tgIx tg) := List.mem_iff_getElem?.mpr ⟨k, by rw [List.getElem?_zip_eq_some]; exact ⟨e1, e2⟩⟩
      have := List.all_eq_true.mp h.2 _ hm
      simp only [Bool.and_eq_true, decide_eq_true_eq] at this
      exact ⟨by rw [hN]; exact this.1, hl _ this.2⟩
    cases tg with
    | nm i =>
      unfold tgXs at ht
      simp only [] at ht
      split at ht
      · cases ht
        obtain ⟨h1, h2, h3⟩ := ok.2 0 _ i rfl rfl
        exact g_nm (by rw [hN]; exact nd) h1 h2 h3
      · cases ht
    | tp is =>
      unfold tgXs at ht
      simp only [] at ht
      split at ht
      · exact g_tp hK hc (by rw [hN]; exact nd) ht ok
      · cases ht
  · cases h
theorem blk_loc {s : Shared} {H : Hp} {C : Addr} {cl : List (Str × Addr)} {fp : List Addr} {s2 : Scope} {x : Str} (h : locB s2 x = true) :
    L2.Loc (X.blk s H s2 (compEnvC s2 cl C X.env) fp).env.scope x ∧ ((X.blk s H s2 (compEnvC s2 cl C X.env) fp).fn x = true ∨ (X.blk s H s2 (compEnvC s2 cl C X.env) fp).env.scope.names.lookup x = some .local) := by
  have e : (X.blk s H s2 (compEnvC s2 cl C X.env) fp).env.scope = relS s2 X.env.scope := rfl
  rw [e]
  unfold locB at h
  split at h
  · rename_i q
    have q2 : (relS s2 X.env.scope).names.lookup x = some .local := lookup_relS_keep (by intro z; cases z) q
    exact ⟨.inl q2, .inr q2⟩
  · rename_i q
    have q2 : (relS s2 X.env.scope).names.lookup x = some .cell := lookup_relS_keep (by intro z; cases z) q
    refine ⟨.inr q2, .inl ?_⟩
    show (s2.names.lookup x == some .cell) = true
    rw [q]; rfl
  · cases h
theorem blk_ok (o : XOk p n N sc W X) {s : Shared} {H : Hp} {C : Addr} {cl : List (Str × Addr)} {fp : List Addr} {s2 : Scope} : XOk p n N (relS s2 sc) W0 (X.blk s H s2 (compEnvC s2 cl C X.env) fp) where
  K := o.K
  dn := o.dn
  mg := o.mg
  nm := o.nm
  sc := by
    show relS s2 X.env.scope = _
    rw [o.sc]
  nd := o.nd
  calm := o.calm
  room := o.room
  takes := takes_none5
  fns := o.fns
  fng := o.fng
  own := o.own
  exq := o.exq
  blt := o.blt
  gls := o.gls
theorem pts_yes {Y : Cx} : PTs Y [] (tB p n W0 (.cst (.bl true))) := ⟨fun pins s σ H Q I ⟨g, c, sl, mm, r, h⟩ => pts_nil.run pins s σ H Q I (by
  simp only [semE] at h
  exact h c H .refl r)⟩
theorem i_enm (o : XOk p n N sc W X) {A : Expr} {a : E} {p0 tpos : Pos} {x : Str} {elts : List Expr} {kk : Nat} (hx : x = "enumerate") (hg : glB sc x = true) (hm : p.mg x = none) (ha : PE X A (tE p n W a)) (pa : plainA A = true) : PI X (.Tuple elts kk tpos) (.Call (.Name x p0) [A] [] pos) (tI p n W (.enm a)) := by
  subst hx
  have fa := s_frz ha
  refine PIimp (pi_enum (o.gl hg) (by rw [o.mg]; exact hm) (pa_cons fa pa_nil (star_plain pa _ _)) (star_plain pa _ _)) fun σ H R ⟨g, c, sl, mm, r, h⟩ => ?_
  simp only [semI] at h
  have eqa : semE p.gv (p.cf n) (.un .frz a) sl mm = bindE (semE p.gv (p.cf n) a sl mm) frzS := by simp only [semE]; rfl
  refine ⟨g, c, sl, mm, r, ?_⟩
  rw [eqa]
  cases q : bindE (semE p.gv (p.cf n) a sl mm) frzS with
  | none => rw [q] at h; exact h.elim
  | some y =>
    rw [q] at h
    cases y with
    | ex x mm1 => exact h
    | ok d mm1 =>
      intro c1 v H1 l1 r1 rv
      simp only [] at h
      cases d <;> (try exact h.elim)
      obtain ⟨q1, vs, rfl, z1, t1, rl1⟩ := lst_ref rv
      rw [o.K]
      exact ⟨q1, vs, rfl, .inl t1, h c1 H1 _ l1 r1 (walks_enm z1 t1 rl1)⟩
theorem s_call2 (o : XOk p n N sc W X) : ∀ {as : List Expr} {f : Nat} {es : Es} {p0 : Pos}, as ≠ [] → (p.dom f && p.gdf f) = true → glB sc (p.fn f) = true → es.len = (p.T f).np → PA X as (tEs p n W es) → as.all plainA = true → PE X (.Call (.Name (p.fn f) p0) as [] pos) (tE p n W (.call f es))
  | [], _, _, _, h, _, _, _, _, _ => (h rfl).elim
  | a :: as, f, es, p0, _, hd, hg, hl, ha, pl => s_call o hd hg hl ha pl
theorem call_nonempty {f : Nat} {es : Es} {A : Expr} {as : List Expr} (o : XOk p n N sc W X) (hv : vCall p.nm sc f A = some as) (hn : as ≠ []) (hl : es.len = (p.T f).np) (ha : PA X as (tEs p n W es)) (pl : as.all plainA = true) : Ok p n W X (.call f es) A := by
  unfold vCall at hv
  split at hv
  · split at hv
    · rename_i h
      simp only [Option.some.injEq] at hv; subst hv
      simp only [Bool.and_eq_true, decide_eq_true_eq] at h
      obtain ⟨⟨rfl, h2⟩, h3⟩ := h
      exact .val (s_call2 o hn (by rw [Bool.and_eq_true]; exact h2) h3 hl ha pl) rfl
    · cases hv
  · cases hv
theorem po_ok (L : Option Expr) (lo : E) {m : Nm} {N : List Str} {sc : Scope} (h : (match L with | none => isNo lo | some L => !isNo lo && chkE m N lo sc L) = true) (k : ∀ A, chkE m N lo sc A = true → PE X A (tE p n W lo)) : PO X L (tO p n W lo) := by
  cases L with
  | none =>
    simp only [] at h
    unfold isNo at h
    split at h
    · exact o_no
    · cases h
  | some L =>
    simp only [Bool.and_eq_true] at h
    exact o_some (k _ h.2) (by simpa using h.1)
theorem call_empty {f : Nat} {A : Expr} (o : XOk p n N sc W X) (hv : vCall p.nm sc f A = some []) (hl : (p.T f).np = 0) : Ok p n W X (.call0 f) A := by
  unfold vCall at hv
  split at hv
  · split at hv
    · rename_i h
      simp only [Option.some.injEq] at hv; subst hv
      simp only [Bool.and_eq_true, decide_eq_true_eq] at h
      obtain ⟨⟨rfl, h2⟩, h3⟩ := h
      exact .val (s_call0 o (by rw [Bool.and_eq_true]; exact h2) h3 hl) rfl
    · cases hv
  · cases hv
/-- the parts of an and, an or -/
theorem ok_and {a b : E} {A L R : Expr} (hv : vAnd A = some (L, R)) (tL : tstA L = true) (tR : tstA R = true) (hL : Ok p n W X a L) (hR : Ok p n W X b R) : Ok p n W X (.and a b) A := by
  unfold vAnd at hv
  split at hv
  · rename_i x y r ps
    simp only [Option.some.injEq, Prod.mk.injEq] at hv
    obtain ⟨rfl, rfl⟩ := hv
    have key : PE X (.BoolOp .And (y :: r) ps) (tE p n W b) ∧ PW X (.BoolOp .And (y :: r) ps) (tB p n W b) := by
      cases r with
      | nil => exact ⟨s_one hR.pe, pw_and1 (hR.pt tR)⟩
      | cons z r => exact ⟨hR.pe, hR.pw rfl⟩
    have w := w_and (hL.pt tL) key.2
    exact ⟨s_and hL.pe key.1, fun _ => PW.pt w, fun _ => w⟩
  · cases hv
theorem ok_or {a b : E} {A L R : Expr} (hv : vOr A = some (L, R)) (tL : tstA L = true) (tR : tstA R = true) (hL : Ok p n W X a L) (hR : Ok p n W X b R) : Ok p n W X (.or a b) A := by
  unfold vOr at hv
  split at hv
  · rename_i x y r ps
    simp only [Option.some.injEq, Prod.mk.injEq] at hv
    obtain ⟨rfl, rfl⟩ := hv
    have key : PE X (.BoolOp .Or (y :: r) ps) (tE p n W b) ∧ PW X (.BoolOp .Or (y :: r) ps) (tB p n W b) := by
      cases r with
      | nil => exact ⟨s_one hR.pe, pw_or1 (hR.pt tR)⟩
      | cons z r => exact ⟨hR.pe, hR.pw rfl⟩
    have w := w_or (hL.pt tL) key.2
    exact ⟨s_or hL.pe key.1, fun _ => PW.pt w, fun _ => w⟩
  · cases hv
/-- what a comprehension's parts give -/
structure LcOk (p : Pg) (n : Nat) (W : WX) (X : Cx) (s2 : Scope) (tg : Tg) (elt : E) (it : It) (cnd : E) (t i : Expr) (ifs : List Expr) (e : Expr) : Prop where
  xs : ∃ own : List (Str × Nat), BlkOk X.N X.env.scope s2 own ∧ own.map (·.2) = tgIx tg
  pi : PI X t i (tI p n W it)
  hg : ∀ (s : Shared) (H : Hp) (C : Addr) (cl : List (Str × Addr)) (fp : List Addr), PG (X.blk s H s2 (compEnvC s2 cl C X.env) fp) t (tG p tg)
  ht : ∀ (s : Shared) (H : Hp) (C : Addr) (cl : List (Str × Addr)) (fp : List Addr), PTs (X.blk s H s2 (compEnvC s2 cl C X.env) fp) ifs (tB p n W0 cnd)
  he : ∀ (s : Shared) (H : Hp) (C : Addr) (cl : List (Str × Addr)) (fp : List Addr), PE (X.blk s H s2 (compEnvC s2 cl C X.env) fp) e (tE p n W0 elt)
  pl : plainA i = true
theorem zip_snd {α β : Type} : ∀ {xs : List α} {ys : List β}, xs.length = ys.length → (xs.zip ys).map (·.2) = ys
  | [], [], _ => rfl
  | x :: xs, y :: ys, h => by
    simp only [List.zip_cons_cons, List.map_cons]
    rw [zip_snd (by simpa using h)]
theorem tgXs_len {A : Expr} {tg : Tg} {xs : List Str} (h : chkTg N sc A tg = true) (e : tgXs A tg = some xs) : xs.length = (tgIx tg).length := by
  unfold chkTg at h
  rw [e] at h
  simp only [Bool.and_eq_true] at h
  simpa using h.1
theorem vLc_eq {A t i e : Expr} {ifs : List Expr} {s2 : Scope} (h : vLc A = some (t, i, ifs, e, s2)) : ∃ ps, A = .ListComp e [⟨t, i, ifs, 0⟩] s2 ps := by
  unfold vLc at h
  split at h
  · split at h
    · rename_i z
      simp only [Option.some.injEq, Prod.mk.injEq] at h
      obtain ⟨rfl, rfl, rfl, rfl, rfl⟩ := h
      have z' := eq_of_beq z
      subst z'
      exact ⟨_, rfl⟩
    · cases h
  · cases h
theorem chks_nil {m : Nm} {es : Es} {as : List Expr} (h : chkEs m N es sc as = true) : as = [] → es = .nil := fun e => by
  subst e
  cases es with
  | nil => rfl
  | cons e es => simp only [chkEs] at h; cases h
theorem mk_ok (o : XOk p n N sc W X) {c f : Nat} {es es2 : Es} {fl : List (Option D)} {A : Expr} {as : List Expr} {kws : List Keyword} (hv : vMk p.nm sc c f A = some (as, kws)) (ha : PA X as (tEs p n W es)) (pl : as.all plainA = true)
    (h : (if fl.isEmpty then kws.isEmpty && isNil es2 && (p.nm.kbs f).isEmpty && decide (es.len + 1 = p.nm.np f) && decide (as.length = es.len)
        else chkKw p.nm N es2 sc kws && (match kwN kws with | some ks => inK (es.len, ks, fl) (p.nm.kbs f) && decide (es2.len = ks.length) && fl.all litOk && decide (noneN fl = es.len + ks.length) && decide (fl.length + 1 = p.nm.np f) | none => false)) = true)
    (hk : chkKw p.nm N es2 sc kws = true → PK X kws (tEs p n W es2)) : Ok p n W X (.mk c f es es2 fl) A := by
  unfold vMk at hv
  split at hv
  · split at hv
    · rename_i x p1 as' kws' ps hc
      simp only [Option.some.injEq, Prod.mk.injEq] at hv
      obtain ⟨rfl, rfl⟩ := hv
      simp only [Bool.and_eq_true, decide_eq_true_eq, Bool.not_eq_true'] at hc
      obtain ⟨⟨⟨rfl, h2⟩, h3⟩, h4⟩ := hc
      cases as' with
      | nil => cases h4
      | cons e0 as =>
        split at h
        · rename_i hfl
          have hfl : fl = [] := by simpa using hfl
          subst hfl
          simp only [Bool.and_eq_true, decide_eq_true_eq] at h
          obtain ⟨⟨⟨⟨k1, k2⟩, k3⟩, k4⟩, k5⟩ := h
          have e1 : kws' = [] := by simpa using k1
          subst e1
          have e2 : es2 = .nil := by cases es2 <;> first | rfl | cases k2
          subst e2
          exact .val (s_mk o h3 (List.isEmpty_iff.mp k3) h2 ha pl k4 k5) rfl
        · rename_i hfl
          have hfl : fl ≠ [] := by simpa using hfl
          rw [Bool.and_eq_true] at h
          obtain ⟨k1, k2⟩ := h
          split at k2
          · rename_i ks hks
            simp only [Bool.and_eq_true, decide_eq_true_eq] at k2
            obtain ⟨⟨⟨⟨m1, m2⟩, m3⟩, m4⟩, m5⟩ := k2
            obtain ⟨q1, q2, q3, q4⟩ := kwN_ok (pos := ps) (env := X.env) hks
            exact .val (s_mkK o h3 (inK_mem m1) h2 ha pl (hk k1) q1 q2 q3 rfl m2 m3 m4 hfl m5) rfl
          · cases k2
    · cases hv
  · cases hv
theorem cm_ok (o : XOk p n N sc W X) {u : Op} {c f : Nat} {a : E} {es : Es} {A : Expr} {as : List Expr} (hcm : isClsm u = true) (h1 : isNon a = true) (h2 : p.mt f = some (c, .cm)) (h3 : es.len + 1 = (p.T f).np) (hv : vCm p.nm sc c f A = some as) (ha : PA X as (tEs p n W es)) (pl : as.all plainA = true) : Ok p n W X (.opc u c f a es) A := by
  have eu : u = .clsm := by cases u <;> first | rfl | cases hcm
  subst eu
  have ea : a = .cst .non := by
    unfold isNon at h1
    split at h1
    · rfl
    · cases h1
  subst ea
  have key : as = [] ∨ ∃ e0 as', as = e0 :: as' := by cases as <;> simp
  unfold vCm at hv
  split at hv
  · split at hv
    · rename_i hc
      simp only [Option.some.injEq] at hv
      simp only [Bool.and_eq_true, decide_eq_true_eq, Bool.not_eq_true'] at hc
      obtain ⟨⟨⟨⟨⟨rfl, rfl⟩, q3⟩, q4⟩, q5⟩, q6⟩ := hc
      rcases key with rfl | ⟨e0, as', rfl⟩
      · subst hv
        cases q6
      · subst hv
        exact .val (s_cm o h2 q3 ha pl h3 q5 q4) rfl
    · cases hv
  · cases hv
theorem opc_ok0 (o : XOk p n N sc W X) {u : Op} {c f : Nat} {a : E} {A B : Expr} (h1 : (match u.kind with | some k => decide (p.mt f = some (c, k)) | none => false) = true) (h2 : 1 = (p.T f).np) (hv : vOpc p.nm sc f u A = some (B, [])) (hB : Ok p n W X a B) (pB : plainA B = true) : Ok p n W X (.opc u c f a .nil) A := by
  cases u <;> simp only [Op.kind, decide_eq_true_eq, Bool.false_eq_true] at h1 <;> simp only [vOpc] at hv <;> (try (cases hv; done)) <;> split at hv <;> (try (cases hv; done))
  · split at hv
    · rename_i hc
      simp only [Option.some.injEq, Prod.mk.injEq] at hv
      obtain ⟨rfl, rfl⟩ := hv
      simp only [Bool.and_eq_true, decide_eq_true_eq] at hc
      obtain ⟨⟨⟨rfl, q2⟩, q3⟩, q4⟩ := hc
      exact .val (s_meth0 o h1 hB.pe pB q3 h2 q2) rfl
    · cases hv
  · split at hv
    · rename_i hc
      simp only [Option.some.injEq, Prod.mk.injEq] at hv
      obtain ⟨rfl, -⟩ := hv
      simp only [Bool.and_eq_true, decide_eq_true_eq] at hc
      obtain ⟨rfl, q2⟩ := hc
      exact .val2 (s_prop o h1 hB.pe pB q2 h2) rfl
    · cases hv
  · split at hv
    · rename_i hc
      simp only [Option.some.injEq, Prod.mk.injEq] at hv
      obtain ⟨rfl, rfl⟩ := hv
      simp only [Bool.and_eq_true, decide_eq_true_eq, Bool.not_eq_true'] at hc
      exact absurd hc.2 (by simp)
    · cases hv
  · split at hv
    · rename_i hc
      simp only [Option.some.injEq, Prod.mk.injEq] at hv
      obtain ⟨rfl, -⟩ := hv
      simp only [Bool.and_eq_true, decide_eq_true_eq] at hc
      obtain ⟨e1, g1, m1⟩ := bB_of o hc.1
      exact .val (s_lenO o e1 g1 m1 h1 hc.2 hB.pe pB h2) rfl
    · cases hv
  · split at hv
    · rename_i hc
      simp only [Option.some.injEq, Prod.mk.injEq] at hv
      obtain ⟨rfl, -⟩ := hv
      simp only [Bool.and_eq_true, decide_eq_true_eq] at hc
      obtain ⟨e1, g1, m1⟩ := bB_of o hc.1
      exact .val (s_strO o e1 g1 m1 h1 hc.2 hB.pe pB h2) rfl
    · cases hv
theorem opc_ok1 (o : XOk p n N sc W X) {u : Op} {c f : Nat} {a : E} {es : Es} {A B e0 : Expr} {as : List Expr} (h1 : (match u.kind with | some k => decide (p.mt f = some (c, k)) | none => false) = true) (h2 : es.len + 1 = (p.T f).np) (hv : vOpc p.nm sc f u A = some (B, e0 :: as)) (hB : Ok p n W X a B) (pB : plainA B = true) (ha : PA X (e0 :: as) (tEs p n W es)) (pl : (e0 :: as).all plainA = true) : Ok p n W X (.opc u c f a es) A := by
  cases u <;> simp only [Op.kind, decide_eq_true_eq, Bool.false_eq_true] at h1 <;> simp only [vOpc] at hv <;> (try (cases hv; done)) <;> split at hv <;> (try (cases hv; done)) <;> split at hv <;> (try (cases hv; done)) <;> rename_i hc <;> simp only [Option.some.injEq, Prod.mk.injEq, reduceCtorEq, and_false] at hv
  · obtain ⟨rfl, rfl⟩ := hv
    simp only [Bool.and_eq_true, decide_eq_true_eq] at hc
    obtain ⟨⟨⟨rfl, q2⟩, q3⟩, q4⟩ := hc
    exact .val (s_meth o h1 hB.pe pB q3 ha pl h2 q4 q2) rfl
  · obtain ⟨rfl, rfl⟩ := hv
    simp only [Bool.and_eq_true, decide_eq_true_eq, Bool.not_eq_true'] at hc
    exact .val (s_callO o h1 hc.1 hB.pe ha pl h2) rfl
theorem opc_ok (o : XOk p n N sc W X) {u : Op} {c f : Nat} {a : E} {es : Es} {A B : Expr} {as : List Expr} (h1 : (match u.kind with | some k => decide (p.mt f = some (c, k)) | none => false) = true) (h2 : es.len + 1 = (p.T f).np) (hv : vOpc p.nm sc f u A = some (B, as)) (hB : Ok p n W X a B) (pB : plainA B = true) (ha : PA X as (tEs p n W es)) (pl : as.all plainA = true) (hn : as = [] → es = .nil) : Ok p n W X (.opc u c f a es) A := by
  cases as with
  | nil =>
    have := hn rfl
    subst this
    exact opc_ok0 o h1 h2 hv hB pB
  | cons e0 as => exact opc_ok1 o h1 h2 hv hB pB ha pl
theorem op2_ok (o : XOk p n N sc W X) {u : Op} {c f : Nat} {a b : E} {A L R : Expr} (h1 : p.mt f = some (c, .fn)) (h2 : 2 = (p.T f).np) (hv : vOp2 p.nm f u A = some (L, R)) (hL : Ok p n W X a L) (hR : Ok p n W X b R) (pR : plainA R = true) : Ok p n W X (.op2 u c f a b) A := by
  cases u <;> simp only [vOp2] at hv <;> (try (cases hv; done)) <;> split at hv <;> (try (cases hv; done)) <;> split at hv <;> (try (cases hv; done)) <;> rename_i hc <;> simp only [Option.some.injEq, Prod.mk.injEq] at hv <;> obtain ⟨rfl, rfl⟩ := hv <;> have hc := of_decide_eq_true hc
  · exact .val2 (s_shr o h1 hc hL.pe hR.pe h2) rfl
  · exact .cmp (s_eqO o h1 hc hL.pe hR.pe h2) pR
  · exact .val (s_item o h1 hc hL.pe hR.pe pR h2) rfl
  · exact .cmp (s_inO o h1 hc hL.pe hR.pe h2) pR
mutual
theorem rE : ∀ (e : E) {sc : Scope} {W : WX} {X : Cx} (A : Expr), XOk p n N sc W X → chkE p.nm N e sc A = true → Ok p n W X e A
  | .var i, sc, W, X, A, o, h => by
    simp only [chkE, Bool.and_eq_true] at h
    obtain ⟨_, h⟩ := h
    split at h
    · simp only [Bool.and_eq_true, decide_eq_true_eq] at h
      exact .val (s_var o h.1.1 h.1.2 h.2) rfl
    · cases h
  | .cst d, sc, W, X, A, o, h => by
    simp only [chkE, Bool.and_eq_true] at h
    obtain ⟨v, hv, _, vA, rv⟩ := lit_ok h.2
    exact .val (s_cst (hv X) (rv _)) vA
  | .glb g, sc, W, X, A, o, h => by
    simp only [chkE, Bool.and_eq_true] at h
    obtain ⟨_, h⟩ := h
    split at h
    · simp only [Bool.and_eq_true, decide_eq_true_eq] at h
      obtain ⟨⟨h1, rfl⟩, h3⟩ := h
      exact .val (s_glb o h1 h3) rfl
    · cases h
  | .tup es, sc, W, X, A, o, h => by
    simp only [chkE, Bool.and_eq_true] at h
    obtain ⟨_, h⟩ := h
    split at h
    · exact .val2 (s_tup (rEs es _ o h)) rfl
    · cases h
  | .lst es, sc, W, X, A, o, h => by
    simp only [chkE, Bool.and_eq_true] at h
    obtain ⟨_, h⟩ := h
    split at h
    · exact .val2 (s_lst (rEs es _ o h)) rfl
    · cases h
  | .nls es, sc, W, X, A, o, h => by
    simp only [chkE, Bool.and_eq_true] at h
    obtain ⟨_, h⟩ := h
    split at h
    · exact .val2 (s_nls (rEs es _ o h)) rfl
    · cases h
  | .un u a, sc, W, X, A, o, h => by
    simp only [chkE, Bool.and_eq_true] at h
    obtain ⟨_, h⟩ := h
    split at h
    · rename_i B hv
      exact ok_un o hv (chk_plain h) (rE a _ o h)
    · cases h
  | .bin u a b, sc, W, X, A, o, h => by
    simp only [chkE, Bool.and_eq_true] at h
    obtain ⟨_, h⟩ := h
    split at h
    · rename_i L R hv
      rw [Bool.and_eq_true] at h
      exact ok_bin o hv (chk_plain h.1) (chk_plain h.2) (rE a _ o h.1) (rE b _ o h.2)
    · cases h
  | .mth u a b, sc, W, X, A, o, h => by
    simp only [chkE, Bool.and_eq_true] at h
    obtain ⟨_, h⟩ := h
    split at h
    · rename_i L R hv
      rw [Bool.and_eq_true] at h
      exact ok_mth o hv (chk_plain h.1) (chk_plain h.2) (rE a _ o h.1) (rE b _ o h.2)
    · cases h
  | .not a, sc, W, X, A, o, h => by
    simp only [chkE, Bool.and_eq_true] at h
    obtain ⟨_, h⟩ := h
    split at h
    · rename_i B hv
      rw [Bool.and_eq_true] at h
      unfold vNot at hv
      split at hv
      · simp only [Option.some.injEq] at hv; subst hv
        have k := rE a _ o h.2
        exact ⟨s_not k.pe, fun _ => t_not (k.pt h.1), fun b => by cases b⟩
      · cases hv
    · cases h
  | .and a b, sc, W, X, A, o, h => by
    simp only [chkE, Bool.and_eq_true] at h
    obtain ⟨_, h⟩ := h
    split at h
    · rename_i L R hv
      simp only [Bool.and_eq_true] at h
      exact ok_and hv h.1.1.1 h.1.1.2 (rE a _ o h.1.2) (rE b _ o h.2)
    · cases h
  | .or a b, sc, W, X, A, o, h => by
    simp only [chkE, Bool.and_eq_true] at h
    obtain ⟨_, h⟩ := h
    split at h
    · rename_i L R hv
      simp only [Bool.and_eq_true] at h
      exact ok_or hv h.1.1.1 h.1.1.2 (rE a _ o h.1.2) (rE b _ o h.2)
    · cases h
  | .ite c a b, sc, W, X, A, o, h => by
    simp only [chkE, Bool.and_eq_true] at h
    obtain ⟨_, h⟩ := h
    split at h
    · rename_i C L R hv
      simp only [Bool.and_eq_true] at h
      unfold vIte at hv
      split at hv
      · simp only [Option.some.injEq, Prod.mk.injEq] at hv
        obtain ⟨rfl, rfl, rfl⟩ := hv
        exact ⟨s_ite ((rE c _ o h.1.1.2).pt h.1.1.1) (rE a _ o h.1.2).pe (rE b _ o h.2).pe, fun z => (by cases z), fun z => (by cases z)⟩
      · cases hv
    · cases h
  | .chn o1 o2 a b c, sc, W, X, A, o, h => by
    simp only [chkE, Bool.and_eq_true] at h
    obtain ⟨_, h⟩ := h
    split at h
    · rename_i L M R hv
      simp only [Bool.and_eq_true] at h
      unfold vChn at hv
      split at hv
      · split at hv
        · rename_i hc
          simp only [Option.some.injEq, Prod.mk.injEq] at hv
          obtain ⟨rfl, rfl, rfl⟩ := hv
          simp only [Bool.and_eq_true, decide_eq_true_eq] at hc
          have ka := rE a _ o h.1.1
          have kb := rE b _ o h.1.2
          have kc := rE c _ o h.2
          exact ⟨s_chn hc.1 hc.2 ka.pe kb.pe kc.pe (chk_plain h.2), fun _ => t_chn hc.1 hc.2 ka.pe kb.pe kc.pe (chk_plain h.2), fun z => by cases z⟩
        · cases hv
      · cases hv
    · cases h
  | .dn tk, sc, W, X, A, o, h => by
    simp only [chkE, Bool.and_eq_true] at h
    obtain ⟨_, h⟩ := h
    split at h
    · exact ⟨s_dn o tk, fun z => (by cases z), fun z => by cases z⟩
    · cases h
  | .d1 k v, sc, W, X, A, o, h => by
    simp only [chkE, Bool.and_eq_true] at h
    obtain ⟨_, h⟩ := h
    split at h
    · rename_i K V hv
      rw [Bool.and_eq_true] at h
      unfold vD1 at hv
      split at hv
      · simp only [Option.some.injEq, Prod.mk.injEq] at hv
        obtain ⟨rfl, rfl⟩ := hv
        exact ⟨s_d1 o (rE k _ o h.1).pe (rE v _ o h.2).pe, fun z => (by cases z), fun z => by cases z⟩
      · cases hv
    · cases h
  | .get1 a k, sc, W, X, A, o, h => by
    simp only [chkE, Bool.and_eq_true] at h
    obtain ⟨_, h⟩ := h
    split at h
    · rename_i L R hv
      rw [Bool.and_eq_true] at h
      unfold vGet1 at hv
      split at hv
      · split at hv
        · rename_i hc
          simp only [Option.some.injEq, Prod.mk.injEq] at hv
          obtain ⟨rfl, rfl⟩ := hv
          simp only [Bool.and_eq_true, decide_eq_true_eq] at hc
          obtain ⟨⟨rfl, h2⟩, h3⟩ := hc
          exact .val (s_get1 o h2 (rE a _ o h.1).pe (rE k _ o h.2).pe (chk_plain h.1) h3 (chk_plain h.2)) rfl
        · cases hv
      · cases hv
    · cases h
  | .get2 a k x, sc, W, X, A, o, h => by
    simp only [chkE, Bool.and_eq_true] at h
    obtain ⟨_, h⟩ := h
    split at h
    · rename_i L M R hv
      simp only [Bool.and_eq_true] at h
      unfold vGet2 at hv
      split at hv
      · split at hv
        · rename_i hc
          simp only [Option.some.injEq, Prod.mk.injEq] at hv
          obtain ⟨rfl, rfl, rfl⟩ := hv
          simp only [Bool.and_eq_true, decide_eq_true_eq] at hc
          obtain ⟨⟨rfl, h2⟩, h3⟩ := hc
          exact .val (s_get2 o h2 (rE a _ o h.1.1).pe (rE k _ o h.1.2).pe (rE x _ o h.2).pe (chk_plain h.1.1) h3 (chk_plain h.1.2) (chk_plain h.2)) rfl
        · cases hv
      · cases hv
    · cases h
  | .call f es, sc, W, X, A, o, h => by
    simp only [chkE, Bool.and_eq_true] at h
    obtain ⟨_, h⟩ := h
    split at h
    · rename_i as hv
      simp only [Bool.and_eq_true, decide_eq_true_eq] at h
      refine call_nonempty o hv (fun z => ?_) h.1.2 (rEs es _ o h.2) (chks_plain h.2)
      subst z
      exact absurd h.1.1 (by simp)
    · cases h
  | .call0 f, sc, W, X, A, o, h => by
    simp only [chkE, Bool.and_eq_true] at h
    obtain ⟨_, h⟩ := h
    split at h
    · rename_i as hv
      simp only [Bool.and_eq_true, decide_eq_true_eq] at h
      cases as with
      | nil => exact call_empty o hv h.2
      | cons a as => exact absurd h.1 (by simp)
    · cases h
  | .slc a lo hi, sc, W, X, A, o, h => by
    simp only [chkE, Bool.and_eq_true] at h
    obtain ⟨_, h⟩ := h
    split at h
    · rename_i B l r hv
      simp only [Bool.and_eq_true] at h
      unfold vSlc at hv
      split at hv
      · simp only [Option.some.injEq, Prod.mk.injEq] at hv
        obtain ⟨rfl, rfl, rfl⟩ := hv
        obtain ⟨⟨h1, h2⟩, h3⟩ := h
        exact .val (s_slc o (rE a _ o h1).pe (po_ok _ lo h2 fun A h => (rE lo A o h).pe) (po_ok _ hi h3 fun A h => (rE hi A o h).pe)) rfl
      · cases hv
    · cases h
  | .no, sc, W, X, A, o, h => by simp only [chkE] at h; cases h
  | .dsp ks es, sc, W, X, A, o, h => by
    simp only [chkE, Bool.and_eq_true] at h
    obtain ⟨_, h⟩ := h
    split at h
    · rename_i keys vals ps _
      simp only [Bool.and_eq_true, decide_eq_true_eq] at h
      obtain ⟨q1, q2, q3, q4⟩ := rPs es ks keys vals (pos := ps) o h.2
      refine ⟨s_dsp q1 q3 q2 (fun z => by subst z; simp at h) h.1.2 q4, fun z => (by cases z), fun z => (by cases z)⟩
    · cases h
  | .mk c f es es2 fl, sc, W, X, A, o, h => by
    simp only [chkE, Bool.and_eq_true] at h
    obtain ⟨_, h⟩ := h
    split at h
    · rename_i as kws hv
      rw [Bool.and_eq_true] at h
      exact mk_ok o hv (rEs es _ o h.1) (chks_plain h.1) h.2 (fun h => rKw es2 _ o h)
    · cases h
  | .opc u c f a es, sc, W, X, A, o, h => by
    simp only [chkE, Bool.and_eq_true] at h
    obtain ⟨_, h⟩ := h
    split at h
    · rename_i hcm
      simp only [Bool.and_eq_true, decide_eq_true_eq] at h
      obtain ⟨⟨⟨h1, h2⟩, h3⟩, h4⟩ := h
      split at h4
      · rename_i as hv
        exact cm_ok o hcm h1 h2 h3 hv (rEs es _ o h4) (chks_plain h4)
      · cases h4
    · rename_i hcm
      simp only [Bool.and_eq_true, decide_eq_true_eq] at h
      obtain ⟨⟨h1, h2⟩, h4⟩ := h
      split at h4
      · rename_i B as hv
        rw [Bool.and_eq_true] at h4
        exact opc_ok o h1 h2 hv (rE a _ o h4.1) (chk_plain h4.1) (rEs es _ o h4.2) (chks_plain h4.2) (chks_nil h4.2)
      · cases h4
  | .op2 u c f a b, sc, W, X, A, o, h => by
    simp only [chkE, Bool.and_eq_true, decide_eq_true_eq] at h
    obtain ⟨⟨⟨_, h1⟩, h2⟩, h⟩ := h
    split at h
    · rename_i L R hv
      rw [Bool.and_eq_true] at h
      exact op2_ok o h1 h2 hv (rE a _ o h.1) (rE b _ o h.2) (chk_plain h.2)
    · cases h
  | .ccn g, sc, W, X, A, o, h => by
    simp only [chkE, Bool.and_eq_true] at h
    obtain ⟨_, h⟩ := h
    split at h
    · rename_i c x hc
      split at h
      · simp only [Bool.and_eq_true, decide_eq_true_eq] at h
        obtain ⟨⟨rfl, h2⟩, rfl⟩ := h
        exact .val2 (s_ccn o hc h2) rfl
      · cases h
    · cases h
  | .lc mu tg elt it cnd, sc, W, X, A, o, h => by
    simp only [chkE, Bool.and_eq_true] at h
    obtain ⟨_, h⟩ := h
    split at h
    · rename_i t i ifs e s2 hv
      simp only [Bool.and_eq_true] at h
      obtain ⟨⟨⟨⟨⟨h1, h2⟩, h3⟩, h4⟩, h5⟩, h6⟩ := h
      obtain ⟨ps, rfl⟩ := vLc_eq hv
      split at h1
      · rename_i xs ex
        refine .val2 (s_lc (own := xs.zip (tgIx tg)) o (rI it o h4) (by rw [o.nm, o.sc]; exact blkOk_by h1) (zip_snd (tgXs_len h2 ex)) (fun s H C cl fp => tg_ok o.K o.calm o.nm o.nd (fun x hx => blk_loc hx) h2) (fun s H C cl fp => ?_) (fun s H C cl fp => (rE elt e (blk_ok o) h6).pe) h3) rfl
        split at h5
        · rw [isYes_eq h5]; exact pts_yes
        · rw [Bool.and_eq_true] at h5
          exact pts_one ((rE cnd _ (blk_ok o) h5.2).pt h5.1)
        · cases h5
      · cases h1
    · cases h
theorem rKw : ∀ (es : Es) {sc : Scope} {W : WX} {X : Cx} (kws : List Keyword), XOk p n N sc W X → chkKw p.nm N es sc kws = true → PK X kws (tEs p n W es)
  | .nil, sc, W, X, kws, o, h => by
    simp only [chkKw] at h
    split at h
    · exact k_nil
    · cases h
  | .cons e es, sc, W, X, kws, o, h => by
    simp only [chkKw] at h
    split at h
    · rename_i nm A kp r
      rw [Bool.and_eq_true] at h
      exact k_cons (rE e A o h.1).pe (rKw es _ o h.2)
    · cases h
theorem rPs : ∀ (es : Es) {sc : Scope} {W : WX} {X : Cx} (ks : List D) (keys : List (Option Expr)) (vals : List Expr) {pos : Pos}, XOk p n N sc W X → chkP p.nm N es ks sc keys vals = true → PPs X pos keys vals (trsOf p n W ks es) ∧ keys.length = vals.length ∧ keys.all (·.isSome) = true ∧ ks.length = es.len
  | .nil, sc, W, X, ks, keys, vals, pos, o, h => by
    simp only [chkP] at h
    split at h
    · exact ⟨pps_nil, rfl, rfl, rfl⟩
    · cases h
  | .cons e es, sc, W, X, ks, keys, vals, pos, o, h => by
    simp only [chkP] at h
    split at h
    · rename_i k ks2 K keys2 V vals2
      simp only [Bool.and_eq_true] at h
      obtain ⟨⟨⟨h1, h2⟩, h3⟩, h4⟩ := h
      obtain ⟨q1, q2, q3, q4⟩ := rPs es ks2 keys2 vals2 (pos := pos) o h4
      refine ⟨pps_cons (lit_key h2 h1 X) (rE e V o h3).pe q1, by simp [q2], by simp [q3], by simp [Es.len, q4]⟩
    · cases h
theorem rEs : ∀ (es : Es) {sc : Scope} {W : WX} {X : Cx} (as : List Expr), XOk p n N sc W X → chkEs p.nm N es sc as = true → PA X as (tEs p n W es)
  | .nil, sc, W, X, as, o, h => by
    simp only [chkEs] at h
    split at h
    · exact s_nil
    · cases h
  | .cons e es, sc, W, X, as, o, h => by
    simp only [chkEs] at h
    split at h
    · rw [Bool.and_eq_true] at h
      exact s_cons (rE e _ o h.1).pe (rEs es _ o h.2) (chk_plain h.1)
    · cases h
theorem rI : ∀ (it : It) {sc : Scope} {W : WX} {X : Cx} {t A : Expr}, XOk p n N sc W X → chkI p.nm N it sc t A = true → PI X t A (tI p n W it)
  | .seq a, sc, W, X, t, A, o, h => by
    simp only [chkI] at h
    exact i_seq o (rE a _ o h).pe
  | .rng a, sc, W, X, t, A, o, h => by
    simp only [chkI] at h
    split at h
    · rw [Bool.and_eq_true] at h
      obtain ⟨e1, g1, m1⟩ := bB_of o h.1
      exact i_rng o e1 g1 m1 (rE a _ o h.2).pe (chk_plain h.2)
    · cases h
  | .rng2 a b, sc, W, X, t, A, o, h => by
    simp only [chkI] at h
    split at h
    · simp only [Bool.and_eq_true] at h
      obtain ⟨e1, g1, m1⟩ := bB_of o h.1.1
      exact i_rng2 o e1 g1 m1 (rE a _ o h.1.2).pe (rE b _ o h.2).pe (chk_plain h.1.2) (chk_plain h.2)
    · cases h
  | .zip a b, sc, W, X, t, A, o, h => by
    simp only [chkI, Bool.and_eq_true] at h
    obtain ⟨ht, h⟩ := h
    split at h
    · simp only [Bool.and_eq_true] at h
      obtain ⟨e1, g1, m1⟩ := bB_of o h.1.1
      cases t <;> first | exact i_zip o e1 g1 m1 (rE a _ o h.1.2).pe (rE b _ o h.2).pe (chk_plain h.1.2) (chk_plain h.2) | (cases ht; done)
    · cases h
  | .enm a, sc, W, X, t, A, o, h => by
    simp only [chkI, Bool.and_eq_true] at h
    obtain ⟨ht, h⟩ := h
    split at h
    · simp only [Bool.and_eq_true] at h
      obtain ⟨e1, g1, m1⟩ := bB_of o h.1
      cases t <;> first | exact i_enm o e1 g1 m1 (rE a _ o h.2).pe (chk_plain h.2) | (cases ht; done)
    · cases h
end
end
end Mp
/-! Mp13: statements that are checked; defs; a module of defs. -/
namespace Mp
open PySem PySem.Spec
open PyProof.Rows L2
/-- a comprehension that is stored on its own line: the stores are swapped -/
def swB (sc : Scope) (x : Str) (p1 : Pos) : Expr → Bool
  | .ListComp _ _ s p => decide (sc.names.lookup x = some .local) && (p1.line == p.line) && !(s.names.any fun (n, k) => n == x && (k == .local || k == .cell))
  | _ => false
theorem sw_no {sc : Scope} {x : Str} {p1 : Pos} {A : Expr} {l : Nat} {env : Env} (hk : env.scope.kind = .function) (hs : env.scope = sc) (pa : plainA A = true) (h : swB sc x p1 A = false) : swapsWith A (some (.Name x p1)) l env = pure false := by
  subst hs
  cases A <;> try (first | rfl | (cases pa; done))
  rename_i e gs s p
  have hb : env.blockKind = .function := by unfold Env.blockKind; rw [hk]; rfl
  have kx : env.kindOf x = env.scope.names.lookup x := rfl
  unfold swB at h
  unfold swapsWith
  simp only [hb, kx, Expr.pos]
  have e1 : (env.scope.names.lookup x == some NameKind.local) = decide (env.scope.names.lookup x = some .local) := by
    cases env.scope.names.lookup x with
    | none => rfl
    | some k => cases k <;> rfl
  rw [e1]
  have h2 : ((ScopeKind.function == ScopeKind.function) && decide (env.scope.names.lookup x = some .local) && (p1.line == p.line) && !(s.names.any fun (n, k) => n == x && (k == .local || k == .cell))) = false := by
    rw [show (ScopeKind.function == ScopeKind.function) = true from rfl, Bool.true_and]
    exact h
  exact congrArg pure h2
theorem sw_yes {sc : Scope} {x : Str} {p1 : Pos} {e : Expr} {gs : List Comprehension} {s : Scope} {ps : Pos} {l : Nat} {env : Env} (hk : env.scope.kind = .function) (hs : env.scope = sc) (h : swB sc x p1 (.ListComp e gs s ps) = true) : sc.names.lookup x = some .local ∧ swapsWith (.ListComp e gs s ps) (some (.Name x p1)) l env = pure true := by
  subst hs
  unfold swB at h
  simp only [Bool.and_eq_true, decide_eq_true_eq, Bool.not_eq_true'] at h
  exact ⟨h.1.1, sw_true hk h.1.1 h.1.2 h.2⟩
section
variable {p : Pg} {n : Nat} {N : List Str} {sc : Scope} {W : WX} {X : Cx}
theorem lc_parts (o : XOk p n N sc W X) {mu : Bool} {tg : Tg} {elt : E} {it : It} {cnd : E} {A : Expr} (h : chkE p.nm N (.lc mu tg elt it cnd) sc A = true) :
    ∃ t i ifs e s2 ps, A = .ListComp e [⟨t, i, ifs, 0⟩] s2 ps ∧ LcOk p n W X s2 tg elt it cnd t i ifs e := by
  simp only [chkE, Bool.and_eq_true] at h
  obtain ⟨_, h⟩ := h
  split at h
  · rename_i t i ifs e s2 hv
    simp only [Bool.and_eq_true] at h
    obtain ⟨⟨⟨⟨⟨h1, h2⟩, h3⟩, h4⟩, h5⟩, h6⟩ := h
    obtain ⟨ps, rfl⟩ := vLc_eq hv
    split at h1
    · rename_i xs ex
      refine ⟨t, i, ifs, e, s2, ps, rfl, ⟨⟨xs.zip (tgIx tg), by rw [o.nm, o.sc]; exact blkOk_by h1, zip_snd (tgXs_len h2 ex)⟩, rI it o h4, fun s H C cl fp => tg_ok o.K o.calm o.nm o.nd (fun x hx => blk_loc hx) h2, fun s H C cl fp => ?_, fun s H C cl fp => (rE elt e (blk_ok o) h6).pe, h3⟩⟩
      split at h5
      · rw [isYes_eq h5]; exact pts_yes
      · rw [Bool.and_eq_true] at h5
        exact pts_one ((rE cnd _ (blk_ok o) h5.2).pt h5.1)
      · cases h5
    · cases h1
  · cases h
end
def chkH2 (m : Nm) (sc : Scope) (c : Nat) (d : Mp.D) : ExceptHandler → Bool
  | .ExceptHandler (some (.Name x _)) none [.Return (some A) _] _ => m.hdm c && decide (x = m.en c) && glB sc x && litB A d
  | _ => false
def chkHs2 (m : Nm) (sc : Scope) : Hs → List ExceptHandler → Bool
  | .nil, hds => (match hds with | [] => true | _ :: _ => false)
  | .cons c d hs, hds => (match hds with | h :: r => chkH2 m sc c d h && chkHs2 m sc hs r | [] => false)
theorem chkHs2_eq {p : Pg} {sc : Scope} : ∀ {hs : Hs} {hds : List ExceptHandler}, chkHs2 p.nm sc hs hds = true → chkHs p sc hs hds = true
  | .nil, [], _ => rfl
  | .nil, _ :: _, h => by simp only [chkHs2] at h; cases h
  | .cons _ _ _, [], h => by simp only [chkHs2] at h; cases h
  | .cons c d hs, x :: r, h => by
    simp only [chkHs2, Bool.and_eq_true] at h
    simp only [chkHs, Bool.and_eq_true]
    refine ⟨?_, chkHs2_eq h.2⟩
    have h1 := h.1
    unfold chkH2 at h1
    unfold chkH1
    split at h1
    · exact h1
    · cases h1
def isLc : E → Bool
  | .lc _ _ _ _ _ => true
  | _ => false
theorem not_swapped4 {es : List Expr} {k : Nat} {p1 : Pos} {A : Expr} {env : Env} (h : plainA A = true) (h2 : (notTupA A || decide (4 ≤ es.length)) = true) : swappedStores [.Tuple es k p1] A env = pure none := by
  cases e : notTupA A with
  | true => exact not_swapped h e
  | false =>
    rw [e, Bool.false_or, decide_eq_true_eq] at h2
    cases A <;> first | (cases e; done) | (cases h; done) | skip
    unfold swappedStores
    have h3 : (es.length == 2 || es.length == 3) = false := by
      simp only [Bool.or_eq_false_iff, beq_eq_false_iff_ne]; omega
    simp [h3]
section
variable (m : Nm) (N : List Str)
mutual
def chkS : S → Scope → Stmt → Bool
  | .asg i e, sc, st => (match st with
    | .Assign [.Name x p1] A _ => decide (N[i]? = some x) && locB sc x && chkE m N e sc A && (if swB sc x p1 A then isLc e else true)
    | _ => false)
  | .unp is e, sc, st => (match st with
    | .Assign [.Tuple es _ _] A _ => (match tgNames es with
      | some xs => (xs.length == is.length && (xs.zip is).all fun q => decide (N[q.2]? = some q.1) && locB sc q.1)
      | none => false) && chkE m N e sc A && !isComp A && (notTupA A || decide (4 ≤ es.length))
    | _ => false)
  | .par i j a b, sc, st => (match st with
    | .Assign [.Tuple [.Name x px, .Name y py] _ _] (.Tuple [A, B] _ _) _ => decide (N[i]? = some x) && decide (N[j]? = some y) && !decide (i = j) && decide (sc.names.lookup x = some .local) && decide (sc.names.lookup y = some .local) && (py.line == px.line) && !(x == y)
        && !(foldedForSure 8 A && foldedForSure 8 B) && !(constantsAlone 8 A && constantsAlone 8 B) && chkE m N a sc A && chkE m N b sc B
    | _ => false)
  | .sto i ix e, sc, st => (match st with
    | .Assign [.Subscript (.Name x _) I _] A _ => decide (N[i]? = some x) && visB sc x && nmB x && chkE m N ix sc I && chkE m N e sc A && !isComp A
    | _ => false)
  | .dead, _, _ => true
  | .std i ix e, sc, st => (match st with
    | .Assign [.Subscript (.Name x _) I _] A _ => decide (N[i]? = some x) && visB sc x && nmB x && chkE m N ix sc I && chkE m N e sc A && !isComp A
    | _ => false)
  | .par3 i j l a b c, sc, st => (match st with
    | .Assign [.Tuple [.Name x px, .Name y py, .Name z pz] _ _] (.Tuple [A, B, C] _ _) _ => decide (N[i]? = some x) && decide (N[j]? = some y) && decide (N[l]? = some z) && !decide (i = j) && !decide (i = l) && !decide (j = l)
        && decide (sc.names.lookup x = some .local) && decide (sc.names.lookup y = some .local) && decide (sc.names.lookup z = some .local) && (py.line == px.line) && (pz.line == px.line) && !(x == y) && !(x == z) && !(y == z)
        && !(foldedForSure 8 A && (foldedForSure 8 B && foldedForSure 8 C)) && !(constantsAlone 8 A && (constantsAlone 8 B && constantsAlone 8 C)) && chkEs m N (.cons a (.cons b (.cons c .nil))) sc [A, B, C]
    | _ => false)
  | .exp e, sc, st => (match st with
    | .Expr A _ => chkE m N e sc A && !isComp A
    | _ => false)
  | .ret e, sc, st => (match st with
    | .Return (some A) _ => chkE m N e sc A
    | _ => false)
  | .retn, _, st => (match st with
    | .Return none _ => true
    | _ => false)
  | .ifs c a b, sc, st => (match st with
    | .If C as bs _ => tstA C && chkE m N c sc C && chkB a sc as && chkB b sc bs
    | _ => false)
  | .for tg it b, sc, st => (match st with
    | .For t i bs [] _ => chkI m N it sc t i && chkTg N sc t tg && chkB b sc bs && plainA i
    | _ => false)
  | .whl c b, sc, st => (match st with
    | .While C bs [] _ => tstA C && chkE m N c sc C && chkB b sc bs
    | _ => false)
  | .brk, _, st => (match st with | .Break _ => true | _ => false)
  | .cnt, _, st => (match st with | .Continue _ => true | _ => false)
  | .pass, _, st => (match st with | .Pass _ => true | _ => false)
  | .rse c es, sc, st => (match es with
    | .nil => (match st with
      | .Raise (some (.Call (.Name x _) [.Constant (.str _) _ _] [] _)) none _ => m.edom c && decide (x = m.en c) && glB sc x
      | _ => false)
    | .cons a .nil => (match st with
      | .Raise (some (.Call (.Name x _) [A] [] _)) none _ => m.xid c && decide (x = m.en c) && glB sc x && chkE m N a sc A
      | _ => false)
    | _ => false)
  | .stf c i j e, sc, st => (match st with
    | .Assign [.Attribute (.Name x _) f _] A _ => m.cdom c && decide ((m.cf c)[j]? = some f) && decide (N[i]? = some x) && visB sc x && nmB x && chkE m N e sc A && !isComp A
    | _ => false)
  | .try b hs, sc, st => (match st with
    | .Try bs (h :: hds) [] [] _ => chkB b sc bs && chkHs2 m sc hs (h :: hds)
    | _ => false)
def chkB : B → Scope → List Stmt → Bool
  | .nil, _, sts => (match sts with | [] => true | _ :: _ => false)
  | .cons s b, sc, sts => (match sts with | st :: r => chkS s sc st && chkB b sc r | [] => false)
end
end
section
variable {p : Pg} {n : Nat} {N : List Str}
theorem rAsg {sc : Scope} {W : WX} {X : Cx} {i : Nat} {e : E} {x : Str} {p1 : Pos} {A : Expr} {ps : Pos} (o : SOk p n N sc W X) (h1 : N[i]? = some x) (h2 : locB sc x = true) (h3 : chkE p.nm N e sc A = true) (h4 : (if swB sc x p1 A then isLc e else true) = true) : PS X (.Assign [.Name x p1] A ps) (tS p n W (.asg i e)) := by
  cases hs : swB sc x p1 A with
  | false => exact s_asg o h1 h2 (rE e A o.toXOk h3).pe (sw_no o.kind o.sc (chk_plain h3) hs)
  | true =>
    rw [hs, if_pos rfl] at h4
    cases e <;> first | (cases h4; done) | skip
    obtain ⟨t, i2, ifs, el, s2, p2, rfl, k⟩ := lc_parts o.toXOk h3
    obtain ⟨own, k1, k2⟩ := k.xs
    obtain ⟨hl, hw⟩ := sw_yes (l := ps.line) o.kind o.sc hs
    exact s_asgL o h1 hl hw k.pi k1 k2 k.hg k.ht k.he k.pl
mutual
theorem rS : ∀ (s : S) {sc : Scope} {W : WX} {X : Cx} (st : Stmt), SOk p n N sc W X → chkS p.nm N s sc st = true → PS X st (tS p n W s)
  | .asg i e, sc, W, X, st, o, h => by
    simp only [chkS] at h
    split at h
    · simp only [Bool.and_eq_true, decide_eq_true_eq] at h
      exact rAsg o h.1.1.1 h.1.1.2 h.1.2 h.2
    · cases h
  | .unp is e, sc, W, X, st, o, h => by
    simp only [chkS] at h
    split at h
    · simp only [Bool.and_eq_true] at h
      obtain ⟨⟨⟨h1, h2⟩, h3⟩, h4⟩ := h
      split at h1
      · rename_i xs hx
        exact s_unp o hx (by simpa using h1) (rE e _ o.toXOk h2).pe (chk_plain h2) (by simpa using h3) (not_swapped4 (chk_plain h2) h4)
      · cases h1
    · cases h
  | .par i j a b, sc, W, X, st, o, h => by
    simp only [chkS] at h
    split at h
    · simp only [Bool.and_eq_true, decide_eq_true_eq, Bool.not_eq_true', decide_eq_false_iff_not] at h
      obtain ⟨⟨⟨⟨⟨⟨⟨⟨⟨⟨h1, h2⟩, h3⟩, h4⟩, h5⟩, h6⟩, h7⟩, h8⟩, h9⟩, h10⟩, h11⟩ := h
      exact s_par o h1 h2 h3 h4 h5 (rE a _ o.toXOk h10).pe (rE b _ o.toXOk h11).pe (chk_plain h10) (chk_plain h11) (swap_par o.kind (by rw [o.sc]; exact h4) (by rw [o.sc]; exact h5) h6 h7 (chk_plain h10) (chk_plain h11) h8 h9)
    · cases h
  | .sto i ix e, sc, W, X, st, o, h => by
    simp only [chkS] at h
    split at h
    · simp only [Bool.and_eq_true, decide_eq_true_eq, Bool.not_eq_true'] at h
      obtain ⟨⟨⟨⟨⟨h1, h2⟩, h3⟩, h4⟩, h5⟩, h6⟩ := h
      exact s_sto o h1 h2 h3 (rE ix _ o.toXOk h4).pe (chk_plain h4) (rE e _ o.toXOk h5).pe (chk_plain h5) h6
    · cases h
  | .dead, sc, W, X, st, o, h => s_dead
  | .std i ix e, sc, W, X, st, o, h => by
    simp only [chkS] at h
    split at h
    · simp only [Bool.and_eq_true, decide_eq_true_eq, Bool.not_eq_true'] at h
      obtain ⟨⟨⟨⟨⟨h1, h2⟩, h3⟩, h4⟩, h5⟩, h6⟩ := h
      exact s_std o h1 h2 h3 (rE ix _ o.toXOk h4).pe (rE e _ o.toXOk h5).pe (chk_plain h5) h6
    · cases h
  | .par3 i j l a b c, sc, W, X, st, o, h => by
    simp only [chkS] at h
    split at h
    · simp only [Bool.and_eq_true, decide_eq_true_eq, Bool.not_eq_true', decide_eq_false_iff_not] at h
      obtain ⟨⟨⟨⟨⟨⟨⟨⟨⟨⟨⟨⟨⟨⟨⟨⟨h1, h2⟩, h3⟩, h4⟩, h5⟩, h6⟩, h7⟩, h8⟩, h9⟩, h10⟩, h11⟩, h12⟩, h13⟩, h14⟩, h15⟩, h16⟩, h17⟩ := h
      have pl := chks_plain h17
      simp only [List.all_cons, Bool.and_eq_true] at pl
      exact s_par3 o h1 h2 h3 h4 h5 h6 h7 h8 h9 (rEs _ _ o.toXOk h17) (swap_par3 o.kind (by rw [o.sc]; exact h7) (by rw [o.sc]; exact h8) (by rw [o.sc]; exact h9) h10 h11 h12 h13 h14 pl.1 pl.2.1 pl.2.2.1 h15 h16)
    · cases h
  | .exp e, sc, W, X, st, o, h => by
    simp only [chkS] at h
    split at h
    · simp only [Bool.and_eq_true, Bool.not_eq_true'] at h
      exact s_exp o (rE e _ o.toXOk h.1).pe (chk_plain h.1) h.2
    · cases h
  | .ret e, sc, W, X, st, o, h => by
    simp only [chkS] at h
    split at h
    · exact s_ret (rE e _ o.toXOk h).pe
    · cases h
  | .retn, sc, W, X, st, o, h => by
    simp only [chkS] at h
    split at h
    · exact s_retn
    · cases h
  | .ifs c a b, sc, W, X, st, o, h => by
    simp only [chkS] at h
    split at h
    · simp only [Bool.and_eq_true] at h
      exact s_ifs ((rE c _ o.toXOk h.1.1.2).pt h.1.1.1) (rB a _ o h.1.2) (rB b _ o h.2)
    · cases h
  | .for tg it b, sc, W, X, st, o, h => by
    simp only [chkS] at h
    split at h
    · simp only [Bool.and_eq_true] at h
      exact s_for o (rI it o.toXOk h.1.1.1) (tg_ok o.K o.calm o.nm o.nd (fun x hx => ⟨by rw [o.sc]; exact loc_of hx, .inl (o.fnA x)⟩) h.1.1.2) (rB b _ o h.1.2) h.2
    · cases h
  | .whl c b, sc, W, X, st, o, h => by
    simp only [chkS] at h
    split at h
    · simp only [Bool.and_eq_true] at h
      exact s_whl o ((rE c _ o.toXOk h.1.2).pt h.1.1) (rB b _ o h.2)
    · cases h
  | .brk, sc, W, X, st, o, h => by
    simp only [chkS] at h
    split at h
    · exact s_brk
    · cases h
  | .cnt, sc, W, X, st, o, h => by
    simp only [chkS] at h
    split at h
    · exact s_cnt
    · cases h
  | .pass, sc, W, X, st, o, h => by
    simp only [chkS] at h
    split at h
    · exact s_pass
    · cases h
  | .rse c es, sc, W, X, st, o, h => by
    simp only [chkS] at h
    split at h
    · split at h
      · simp only [Bool.and_eq_true, decide_eq_true_eq] at h
        obtain ⟨⟨h2, rfl⟩, h4⟩ := h
        exact s_rse o h2 h4
      · cases h
    · split at h
      · simp only [Bool.and_eq_true, decide_eq_true_eq] at h
        obtain ⟨⟨⟨h2, rfl⟩, h4⟩, h5⟩ := h
        exact s_rseX o h2 h4 (rE _ _ o.toXOk h5).pe (chk_plain h5)
      · cases h
    · cases h
  | .stf c i j e, sc, W, X, st, o, h => by
    simp only [chkS] at h
    split at h
    · simp only [Bool.and_eq_true, decide_eq_true_eq, Bool.not_eq_true'] at h
      obtain ⟨⟨⟨⟨⟨⟨h1, h2⟩, h3⟩, h4⟩, h5⟩, h6⟩, h7⟩ := h
      exact s_stf o h1 h2 h3 h4 h5 (rE e _ o.toXOk h6).pe (chk_plain h6) h7
    · cases h
  | .try b hs, sc, W, X, st, o, h => by
    simp only [chkS] at h
    split at h
    · rw [Bool.and_eq_true] at h
      exact s_try o (chkHs2_eq h.2) fun W' pn xe o' => rB b _ o' h.1
    · cases h
theorem rB : ∀ (b : B) {sc : Scope} {W : WX} {X : Cx} (sts : List Stmt), SOk p n N sc W X → chkB p.nm N b sc sts = true → PSs X sts (tBk p n W b)
  | .nil, sc, W, X, sts, o, h => by
    simp only [chkB] at h
    split at h
    · exact b_nil
    · cases h
  | .cons s b, sc, W, X, sts, o, h => by
    simp only [chkB] at h
    split at h
    · rw [Bool.and_eq_true] at h
      exact b_cons (rS s _ o h.1) (rB b _ o h.2)
    · cases h
end
end
/-! ### a def's end -/
section
variable {p : Pg} {c c' : Cf} {H H' : Hp} {sl : Sl} {mm : Mm} {σ : L2.St} {b : Nat} {Q : VK} {E : XK}
theorem Rep.fin {ex : List Addr} {new : Mm} (r : Rep p.K ⟨H, c.Z, c.ad⟩ c' sl mm σ H') (l : c.Le H c' H') (hb : c.ad.length = b)
    (hx : (ex = [] ∧ new = []) ∨ ∃ k a x, b ≤ k ∧ c'.ad[k]? = some a ∧ mm[k]? = some x ∧ ex = [a] ∧ new = [x]) :
    c.Le H ⟨c.ad ++ ex, c'.Z⟩ H' ∧ Rep p.K ⟨H, c.Z, c.ad⟩ ⟨c.ad ++ ex, c'.Z⟩ [] (mm.take b ++ new) [] H' := by
  obtain ⟨l0, hl0⟩ := r.pre
  have hl0 : c'.ad = c.ad ++ l0 := hl0
  have hlen : c'.ad.length = mm.length := r.lenA
  have hbm : b ≤ mm.length := by rw [← hlen, hl0, List.length_append]; omega
  have inX : ∀ q ∈ ex, ∃ k, b ≤ k ∧ c'.ad[k]? = some q := fun q hq => by
    rcases hx with ⟨rfl, _⟩ | ⟨k, a, x, h1, h2, _, rfl, _⟩
    · cases hq
    · rw [List.mem_singleton] at hq; subst hq; exact ⟨k, h1, h2⟩
  have memA : ∀ q ∈ c.ad ++ ex, q ∈ c'.ad := fun q hq => by
    rcases List.mem_append.mp hq with h | h
    · rw [hl0]; exact List.mem_append_left _ h
    · obtain ⟨k, _, h2⟩ := inX q h
      exact List.mem_of_getElem? h2
  refine ⟨⟨⟨ex, rfl⟩, l.z, l.rd⟩, ⟨rfl, ?_, fun i d e => ?_, fun k a x e1 e2 => ?_, ?_, fun q o e nq => ?_, r.zin, r.trk, ⟨ex, rfl⟩, fun a ha => ?_⟩⟩
  · show (c.ad ++ ex).length = _
    rw [List.length_append, List.length_append, List.length_take, hb, Nat.min_eq_left hbm]
    rcases hx with ⟨rfl, rfl⟩ | ⟨k, a, x, h1, h2, _, rfl, rfl⟩ <;> rfl
  · simp at e
  · have e1 : (c.ad ++ ex)[k]? = some a := e1
    have key : ∃ k' : Nat, c'.ad[k']? = some a ∧ mm[k']? = some x := by
      by_cases hk : k < b
      · refine ⟨k, ?_, ?_⟩
        · rw [List.getElem?_append_left (by omega)] at e1
          rw [hl0, List.getElem?_append_left (by omega)]; exact e1
        · rw [List.getElem?_append_left (by rw [List.length_take]; omega), List.getElem?_take] at e2
          rw [if_pos hk] at e2; exact e2
      · rw [List.getElem?_append_right (by omega)] at e1
        rw [List.getElem?_append_right (by rw [List.length_take]; omega), List.length_take, Nat.min_eq_left hbm] at e2
        rw [hb] at e1
        rcases hx with ⟨rfl, rfl⟩ | ⟨k1, a1, x1, h1, h2, h3, rfl, rfl⟩
        · simp at e1
        · by_cases hz : k - b = 0
          · rw [hz] at e1 e2
            simp only [List.getElem?_cons_zero, Option.some.injEq] at e1 e2
            subst e1; subst e2
            exact ⟨k1, h2, h3⟩
          · obtain ⟨j, hj⟩ := Nat.exists_eq_succ_of_ne_zero hz
            rw [hj] at e1
            simp at e1
    obtain ⟨k', q1, q2⟩ := key
    exact ObjR.pure (r.obj k' a x q1 q2)
  · show (c.ad ++ ex).Nodup
    have nd := r.nd
    rw [hl0] at nd
    rw [List.nodup_append] at nd ⊢
    refine ⟨nd.1, ?_, fun q hq q2 hq2 => ?_⟩
    · rcases hx with ⟨rfl, _⟩ | ⟨k, a, x, _, _, _, rfl, _⟩ <;> simp
    · obtain ⟨k, h1, h2⟩ := inX q2 hq2
      rw [hl0, List.getElem?_append_right (by omega)] at h2
      exact nd.2.2 q hq q2 (List.mem_of_getElem? h2)
  · have nq : q ∉ c.ad ++ ex := nq
    by_cases hq : q ∈ c'.ad
    · rcases r.adn q hq with h | h
      · exact (nq (List.mem_append_left _ h)).elim
      · rw [h] at e; cases e
    · exact r.frm q o e hq
  · rcases List.mem_append.mp ha with h | h
    · exact .inl h
    · exact r.adn a (memA a (List.mem_append_right _ h))
theorem fin_ok {d : Mp.D} (h : PostF p c H Q E (finF b d mm)) (hb : c.ad.length = b) {v : V} (l : c.Le H c' H') (r : Rep p.K ⟨H, c.Z, c.ad⟩ c' sl mm σ H') (rv : RepV p.K c'.ad c'.Z H' d v) : Q v H' := by
  have hpre : ∀ k a, k < b → c'.ad[k]? = some a → c.ad[k]? = some a := fun k a hk e => by
    obtain ⟨l0, hl0⟩ := r.pre
    have hl0 : c'.ad = c.ad ++ l0 := hl0
    rw [hl0, List.getElem?_append_left (by omega)] at e
    exact e
  obtain ⟨l1, r1⟩ := r.fin l hb (ex := []) (new := []) (.inl ⟨rfl, rfl⟩)
  have vm : ∀ k v, RepV p.K c'.ad c'.Z H' (.m k) v → ∃ a, c'.ad[k]? = some a ∧ v = .ref a := fun k v h => by
    simp only [RepV] at h; exact h
  unfold finF at h
  split at h
  · cases hp : pureD d with
    | true =>
      simp only [hp] at h
      exact h _ v H' l1 r1 (RepV.pure _ _ _ hp rv)
    | false =>
      simp only [hp] at h
      split at h
      · rename_i k
        obtain ⟨a, ha, rfl⟩ := vm k v rv
        by_cases hk : k < b
        · rw [if_pos hk] at h
          refine h _ _ H' l1 r1 ?_
          simp only [RepV]
          exact ⟨a, by rw [List.append_nil]; exact hpre k a hk ha, rfl⟩
        · rw [if_neg hk] at h
          split at h
          · rename_i cc e2
            obtain ⟨l2, r2⟩ := r.fin l hb (ex := [a]) (new := [.mu cc]) (.inr ⟨k, a, _, by omega, ha, e2, rfl, rfl⟩)
            refine h _ _ H' l2 r2 ?_
            simp only [RepV]
            exact ⟨a, by rw [List.getElem?_append_right (by omega)]; simp [hb], rfl⟩
          · exact h.elim
      · rename_i x k
        simp only [RepV] at rv
        obtain ⟨a, vs, rfl, t, rl⟩ := rv
        simp only [RepL] at rl
        obtain ⟨v1, r1', rfl, h1, v2, r2', rfl, h2, rfl⟩ := rl
        obtain ⟨q, hq, rfl⟩ := h2
        cases hx : pureD x with
        | false => simp only [hx] at h; exact h.elim
        | true =>
          simp only [hx, if_true] at h
          by_cases hk : k < b
          · rw [if_pos hk] at h
            refine h _ _ H' l1 r1 ?_
            simp only [RepV]
            refine ⟨a, [v1, .ref q], rfl, t, RepL.cons (RepV.pure _ _ _ hx h1) (RepL.one ?_)⟩
            simp only [RepV]
            exact ⟨q, by rw [List.append_nil]; exact hpre k q hk hq, rfl⟩
          · rw [if_neg hk] at h
            split at h
            · rename_i cc e2
              obtain ⟨l2, r2⟩ := r.fin l hb (ex := [q]) (new := [.mu cc]) (.inr ⟨k, q, _, by omega, hq, e2, rfl, rfl⟩)
              refine h _ _ H' l2 r2 ?_
              simp only [RepV]
              refine ⟨a, [v1, .ref q], rfl, t, RepL.cons (RepV.pure _ _ _ hx h1) (RepL.one ?_)⟩
              simp only [RepV]
              exact ⟨q, by rw [List.getElem?_append_right (by omega)]; simp [hb], rfl⟩
            · exact h.elim
      · exact h.elim
  · exact h.elim
theorem exF_ok {x : Ex} {dd : Option Addr} (h : PostF p c H Q E (exF b x mm)) (hb : c.ad.length = b) (l : c.Le H c' H') (r : Rep p.K ⟨H, c.Z, c.ad⟩ c' sl mm σ H') (rx : RepX p.K c'.Z H' x dd) : E (.ref (p.ea x.cls)) dd H' := by
  unfold exF at h
  split at h
  · obtain ⟨l1, r1⟩ := r.fin l hb (ex := []) (new := []) (.inl ⟨rfl, rfl⟩)
    simp only [List.append_nil] at l1 r1
    exact h _ dd H' l1 r1 rx
  · exact h.elim
theorem rep_start {ds : List Mp.D} {vs : List V} {bs : Mm} {N : List Str} {ns : Nat} (r : Rep p.K ⟨H, c.Z, c.ad⟩ c [] bs [] H) (rl : RepL p.K c.ad c.Z H ds vs) (hN : ns = N.length) : Rep p.K ⟨H, c.Z, c.ad⟩ c (startS ns ds) bs (L2.start N vs) H := by
  have hl := rl.len
  subst hN
  refine ⟨?_, r.lenA, fun i d e => ?_, r.obj, r.nd, r.frm, r.zin, r.trk, r.pre, r.adn⟩
  · unfold startS L2.start
    simp only [List.length_append, List.length_map, List.length_replicate, hl]
  · unfold startS at e
    by_cases hi : i < ds.length
    · rw [List.getElem?_append_left (by rw [List.length_map]; exact hi), List.getElem?_map] at e
      cases q : ds[i]? with
      | none => rw [q] at e; cases e
      | some d' =>
        rw [q] at e
        cases e
        obtain ⟨v, hv, rv⟩ := rl.get q
        refine ⟨v, ?_, rv⟩
        unfold L2.start
        rw [List.getElem?_append_left (by rw [List.length_map]; omega), List.getElem?_map, hv]; rfl
    · rw [List.getElem?_append_right (by rw [List.length_map]; omega), List.getElem?_replicate] at e
      split at e <;> cases e
end
/-! ### a module's defs -/
structure Df where
  nm : Str
  qn : Str
  args : Arguments
  body : List Stmt
  scope : Scope
  N : List Str
  ps : List Str
def chkF (m : Nm) (d : Df) (fd : FDef) : Bool := C8.scC d.N d.ps d.scope && (fd.ns == d.N.length) && (fd.np == d.ps.length) && chkB m d.N fd.body d.scope d.body
/-- what the module gives -/
structure Stat (p : Pg) : Prop where
  fns : ∀ f, p.dom f = true → ∃ (d : Df) (fd : FuncData) (dvs : List V) (kws : List (Str × V)), FunD p.K d.nm d.qn d.args d.body d.scope dvs kws (p.fa f) fd ∧ (p.kbs f = [] → Binds p.K fd d.ps []) ∧ (∀ q ∈ p.kbs f, KBok p.K fd d.ps q) ∧ chkF p.nm d (p.T f) = true
  fng : ∀ f, p.gdf f = true → p.kbs f = [] ∧ p.mg (p.fn f) = some (.ref (p.fa f))
  own : OwnF p
  exq : ExvF p
  blt : ∀ x, p.bdom x = true → p.mg x = none
  gls : ∀ i, p.gdom i = true → ∃ u v, p.mg (p.gn i) = some u ∧ RelV v u ∧ pureD (p.gv i) = true ∧ ∀ H, RepV p.K [] (fun _ => False) H (p.gv i) v
theorem fn_step {P : Program} {w : World} {base : Heap} {p : Pg} (hdn : p.K.dn = dN P w) (S : Stat p) {n f : Nat} (ih : FnsOk P w base p n) {d : Df} {fd : FuncData} {dvs : List V} {kws : List (Str × V)} (F : FunD p.K d.nm d.qn d.args d.body d.scope dvs kws (p.fa f) fd) (hc : chkF p.nm d (p.T f) = true) : FnOk P w p.K p.mg base (L2.CX P w) (lv (n + 1)) (p.fa f) fd d.ps (spF p (n + 1) f) := by
  unfold chkF at hc
  simp only [Bool.and_eq_true] at hc
  obtain ⟨⟨⟨h1, h2⟩, h3⟩, h4⟩ := hc
  have FS := C8.fnScope_by h1
  show FnOk P w p.K p.mg base (L2.CX P w) (lv n + 3 + 1) (p.fa f) fd d.ps (spF p (n + 1) f)
  refine F.ok FS (fun vs H Q E ⟨c, ds, bs, _, _, _, h, _⟩ => by rw [h]; exact eq_of_beq h3) fun cdv A outer s H vs Q E hr hsp => ?_
  obtain ⟨c, ds, bs, r, hmu, rl, hl, h⟩ := hsp
  have o : SOk p n d.N d.scope (fun cls dd _ H => E cls dd H) (cxOf (L2.CX P w) P w p.K p.mg base d.N d.qn d.scope (p.fa f) cdv A outer s H E) :=
    { K := rfl, dn := hdn, mg := rfl, nm := rfl, sc := rfl, nd := FS.nd, calm := rfl, room := hr, takes := takes_of rfl rfl rfl rfl, fns := ih, fng := S.fng, own := S.own, exq := S.exq, blt := S.blt, gls := S.gls, kind := FS.kind, stk := rfl, frm := rfl, fnA := fun _ => rfl, pown := passes_of rfl }
  refine ⟨_, rB (p.T f).body d.body o h4, ⟨H, c.Z, c.ad⟩, c, _, bs, rep_start r rl (eq_of_beq h2), ?_⟩
  have hbl : c.ad.length = bs.length := r.lenA
  have hu : PostF p c H Q E (callF p.sub p.T p.gv (n + 1) f ds bs) := h
  unfold callF at hu
  have hnp : (ds.length == (p.T f).np) = true := by rw [← rl.len, hl]; simp
  rw [if_pos hnp] at hu
  cases q : semB p.sub p.gv (p.cf n) (p.T f).body (startS (p.T f).ns ds) bs with
  | none => rw [q] at hu; exact hu.elim
  | some y =>
    rw [q] at hu
    cases y with
    | nx sl mm => exact fun c' σ' H' l r => fin_ok hu hbl l r okN
    | rt dd mm => exact fun c' sl' σ' v H' l r rv => fin_ok hu hbl l r rv
    | bk sl mm => exact hu.elim
    | ct sl mm => exact hu.elim
    | ex x sl mm => exact fun c' dd σ' H' l r rx => exF_ok hu hbl l r rx
theorem fns_ok {P : Program} {w : World} {base : Heap} {p : Pg} (hdn : p.K.dn = dN P w) (S : Stat p) : ∀ n, FnsOk P w base p n
  | 0 => fun f hf => by
    obtain ⟨d, fd, dvs, kws, F, hb, hkb, hc⟩ := S.fns f hf
    unfold chkF at hc
    simp only [Bool.and_eq_true] at hc
    refine ⟨F.kp, fd, d.ps, (eq_of_beq hc.1.2).symm, hb, hkb, ⟨fun vs H Q E ⟨c, ds, bs, _, _, _, h, _⟩ => by rw [h]; exact eq_of_beq hc.1.2, fun A outer s H args us vs Q E _ _ _ _ ⟨c, ds, bs, _, _, _, _, h⟩ => h.elim⟩⟩
  | n + 1 => fun f hf => by
    have ih := fns_ok (P := P) (w := w) (base := base) hdn S n
    obtain ⟨d, fd, dvs, kws, F, hb, hkb, hc⟩ := S.fns f hf
    refine ⟨F.kp, fd, d.ps, ?_, hb, hkb, fn_step hdn S ih F hc⟩
    unfold chkF at hc
    simp only [Bool.and_eq_true] at hc
    exact (eq_of_beq hc.1.2).symm
end Mp
/-! Mp14: a module, by its description; a law's end. -/
namespace Mp
open PySem PySem.Spec
open PyProof.Rows L2
mutual
/-- the module's constant u is the datum -/
def dataIn (K : PySem.W.Frag) : Mp.D → Value → Bool
  | .non, u => (match u with | .none => true | _ => false)
  | .bl b, u => (match u with | .bool c => b == c | _ => false)
  | .int i, u => (match u with | .int j _ => decide (i = j) | _ => false)
  | .str s, u => (match u with | .str y _ => decide (y = toS s) && okT s | _ => false)
  | .tup xs, u => (match u with
    | .ref a => (match K.lookup a with
      | some o => (match o.data with
        | .seq its _ => (match o.cls with | .type c => decide (c = "tuple") | _ => false) && (match o.dict with | .none => true | _ => false) && decide (its.size ≤ sizeLine) && dataAll K xs its.toList
        | _ => false)
      | none => false)
    | _ => false)
  | .lst _, _ => false
  | .dct _ _, _ => false
  | .dtu _ _, _ => false
  | .obj _ _, _ => false
  | .m _, _ => false
def dataAll (K : PySem.W.Frag) : List Mp.D → List Value → Bool
  | [], us => (match us with | [] => true | _ :: _ => false)
  | d :: ds, us => (match us with | u :: us => dataIn K d u && dataAll K ds us | [] => false)
end
mutual
theorem dataIn_ok {K : Kx} : ∀ (d : Mp.D) (u : Value), dataIn K d u = true → pureD d = true ∧ ∃ v, RelV v u ∧ ∀ H, RepV K [] (fun _ => False) H d v
  | .non, u, h => by
    simp only [dataIn] at h
    split at h
    · exact ⟨rfl, .non, rfl, fun _ => okN⟩
    · cases h
  | .bl b, u, h => by
    simp only [dataIn] at h
    split at h
    · rename_i c
      have e : b = c := by simpa using h
      subst e
      exact ⟨rfl, .bl b, rfl, fun _ => okB⟩
    · cases h
  | .int i, u, h => by
    simp only [dataIn] at h
    split at h
    · rename_i j t
      have e : i = j := of_decide_eq_true h
      subst e
      exact ⟨rfl, .int i, ⟨t, rfl⟩, fun _ => okI⟩
    · cases h
  | .str s, u, h => by
    simp only [dataIn] at h
    split at h
    · rename_i y t
      rw [Bool.and_eq_true] at h
      have e : y = toS s := of_decide_eq_true h.1
      subst e
      exact ⟨rfl, .str (toS s), ⟨t, rfl⟩, fun _ => okS h.2⟩
    · cases h
  | .tup xs, u, h => by
    simp only [dataIn] at h
    split at h
    · rename_i a
      split at h
      · rename_i o ho
        split at h
        · rename_i its n hd
          simp only [Bool.and_eq_true, decide_eq_true_eq] at h
          obtain ⟨⟨⟨h1, h2⟩, h3⟩, h4⟩ := h
          obtain ⟨hp, vs, hv, hr⟩ := dataAll_ok xs _ h4
          have e1 : o.cls = .type "tuple" := by
            split at h1
            · rename_i c hc; rw [hc, of_decide_eq_true h1]
            · cases h1
          have e2 : o.dict = none := by
            split at h2
            · assumption
            · cases h2
          refine ⟨by simpa only [pureD] using hp, .ref a, rfl, fun H => ?_⟩
          simp only [RepV]
          exact ⟨a, vs, rfl, .inr ⟨o, its, n, ho, e1, e2, hd, h3, hv⟩, hr H⟩
        · cases h
      · cases h
    · cases h
  | .lst _, _, h => by simp only [dataIn] at h; cases h
  | .dtu _ _, _, h => by simp only [dataIn, Bool.false_eq_true] at h
  | .dct _ _, _, h => by simp only [dataIn] at h; cases h
  | .obj _ _, _, h => by simp only [dataIn] at h; cases h
  | .m _, _, h => by simp only [dataIn] at h; cases h
theorem dataAll_ok {K : Kx} : ∀ (ds : List Mp.D) (us : List Value), dataAll K ds us = true → pureDs ds = true ∧ ∃ vs, Vals vs us ∧ ∀ H, RepL K [] (fun _ => False) H ds vs
  | [], us, h => by
    simp only [dataAll] at h
    split at h
    · exact ⟨rfl, [], .nil, fun _ => RepL.nil⟩
    · cases h
  | d :: ds, us, h => by
    simp only [dataAll] at h
    split at h
    · rw [Bool.and_eq_true] at h
      obtain ⟨p1, v, r1, q1⟩ := dataIn_ok d _ h.1
      obtain ⟨p2, vs, r2, q2⟩ := dataAll_ok ds _ h.2
      exact ⟨by simp only [pureDs, p1, p2, Bool.and_self], v :: vs, .cons r1 r2, fun H => RepL.cons (q1 H) (q2 H)⟩
    · cases h
end
/-- no list is the module's own -/
def noList (K : PySem.W.Frag) : Bool := K.all fun q => match q.2.cls with | .type c => !decide (c = "list") | _ => true
theorem noList_ok {K : PySem.W.Frag} (h : noList K = true) {a : Addr} {o : Obj} (e : K.lookup a = some o) (hc : o.cls = .type "list") : False := by
  have hm := List.all_eq_true.mp h _ (He.lookup_mem e)
  simp only [hc] at hm
  simp at hm
/-! ### what the kernel looks at -/
abbrev Fr' := PySem.W.Frag
/-- the written part, the interpreter's own statics too -/
def frY (g : Addr → Option Obj) (m : Nat) : PySem.W.Frag := He.frT g (He.asD g m ++ [PySem.cStatics])
structure SaysY (fn : List He5.DefA) (tf : List He.Defn) (ex : PySem.W.Frag → Bool) (h : Heap) (K : PySem.W.Frag) : Prop where
  fns : fn.map (fun d => He5.fnA K (d.at_ K)) = fn.map He5.DefA.val
  ok : ∀ d ∈ fn, d.ok K = true
  more : ex K = true
  hd : ∀ p ∈ tf, PySem.W.codeHdIn K (He.cT K p).1 (He.cT K p).2 = true
  out : ∀ p ∈ tf, K.lookup (He.cT K p).2 = none
  empty : ∀ p ∈ tf, h.get? (He.cT K p).2 = some { cls := .none, data := .fields #[] }
def obsY (m : Nat) (fn : List He5.DefA) (tf : List He.Defn) (ex : PySem.W.Frag → Bool) (g : Addr → Option Obj) : List He.FnW × Bool :=
  (fn.map fun d => He5.fnA (frY g m) (d.at_ (frY g m)), fn.all (fun d => d.ok (frY g m)) && (ex (frY g m) && He.tabsB g tf (frY g m)))
theorem saysY_of {m : Nat} {fn : List He5.DefA} {tf : List He.Defn} {ex : PySem.W.Frag → Bool} {h : Heap} (e : obsY m fn tf ex h.get? = (fn.map He5.DefA.val, true)) : SaysY fn tf ex h (frY h.get? m) := by
  have a1 := congrArg Prod.fst e
  have a2 : (fn.all (fun d => d.ok (frY h.get? m)) && (ex (frY h.get? m) && He.tabsB h.get? tf (frY h.get? m))) = true := congrArg Prod.snd e
  rw [Bool.and_eq_true, Bool.and_eq_true] at a2
  have tabs : ∀ p ∈ tf, PySem.W.codeHdIn (frY h.get? m) (He.cT (frY h.get? m) p).1 (He.cT (frY h.get? m) p).2 = true ∧ ∃ o, h.get? (He.cT (frY h.get? m) p).2 = some o ∧ He.emptyTab o = true := fun p hp => by
    have z := List.all_eq_true.mp a2.2.2 p hp
    rw [Bool.and_eq_true] at z
    refine ⟨z.1, ?_⟩
    have z2 := z.2
    split at z2
    · rename_i o q
      exact ⟨o, q, z2⟩
    · cases z2
  refine ⟨a1, fun d hd => List.all_eq_true.mp a2.1 d hd, a2.2.1, fun p hp => (tabs p hp).1, fun p hp => ?_, fun p hp => ?_⟩
  · obtain ⟨_, o, q, z⟩ := tabs p hp
    exact He.frT_none q z
  · obtain ⟨_, o, q, z⟩ := tabs p hp
    rw [q, He.emptyTab_eq z]
def hookY (m : Nat) (fn : List He5.DefA) (tf : List He.Defn) (ex : PySem.W.Frag → Bool) : PySem.W.Hook where
  α := List He.FnW × Bool
  obs := fun s => obsY m fn tf ex s.heap.get?
  val := fun _ => (fn.map He5.DefA.val, true)
  says := fun _ h => ∃ K : PySem.W.Frag, K.In h ∧ SaysY fn tf ex h K
  of := fun _ _ e => ⟨_, He.frT_in, saysY_of e⟩
  keeps := fun _ _ _ ⟨K, hK, c⟩ k => ⟨K, PySem.W.Frag.In.keeps hK k, ⟨c.fns, c.ok, c.more, c.hd, c.out, fun p hp => k _ _ (c.empty p hp)⟩⟩
theorem obsY_eq {m : Nat} {fn : List He5.DefA} {tf : List He.Defn} {ex : PySem.W.Frag → Bool} {g : Addr → Option Obj} {s : Shared} (h : ∀ a, g a = s.heap.get? a) : obsY m fn tf ex g = (hookY m fn tf ex).obs s := by
  have e : g = s.heap.get? := funext h
  subst e
  rfl
theorem SaysY.def_ {fn : List He5.DefA} {tf : List He.Defn} {ex : PySem.W.Frag → Bool} {h : Heap} {K : PySem.W.Frag} (c : SaysY fn tf ex h K) {d : He5.DefA} (hd : d ∈ fn) : ∃ fd, FunD K d.name d.qual d.params d.body d.scope (d.dvs K) (d.kws K) (d.at_ K) fd := by
  have e : He5.fnA K (d.at_ K) = d.val := by
    have hm := c.fns
    obtain ⟨i, hi, ei⟩ := List.mem_iff_getElem.mp hd
    have z : (fn.map fun d => He5.fnA K (d.at_ K))[i]? = (fn.map He5.DefA.val)[i]? := by rw [hm]
    rw [List.getElem?_map, List.getElem?_map, List.getElem?_eq_getElem hi, ei] at z
    exact Option.some.inj z
  exact He5.DefA.funD e (c.ok d hd)
/-! ### a module by its description -/
/-- where a def stands -/
inductive Wh where | glo | meth (c : Nat) | prop (c : Nat) | cm (c : Nat) | ini (c : Nat)
structure Md where
  T : Nat → FDef
  df : Nat → Df
  wh : Nat → Wh
  ids : List Nat
  dfl : Nat → List He.Dv
  kwd : Nat → List (Str × He.Dv)
  kbs : Nat → List (Nat × List Str × List (Option Mp.D))
  gv : Nat → Mp.D
  gn : Nat → Str
  gids : List Nat
  /-- names of classes: errors', own ones' -/
  en : Nat → Str
  eids : List Nat
  hds : List Nat
  bls : List Str
  sub : Nat → Nat → Option Bool
  subs : List (Nat × Nat)
  cids : List Nat
  cf : Nat → List Str
  con : Nat → Option (Nat × Str)
  cons : List Nat
  xv : List Nat
  xi : List Nat
  xk : Nat → Option Str
  xd : Nat → Df
  ist : Option Nat → List (Nat × Bool)
  ists : List (Option Nat)
def Md.fad (M : Md) (K : PySem.W.Frag) (f : Nat) : Addr := match M.wh f with
  | .glo => He.ga K (M.df f).nm
  | .meth c => He.ma K (He.ga K (M.en c)) (M.df f).nm
  | .ini c => He.ma K (He.ga K (M.en c)) (M.df f).nm
  | .prop c => He5.wf K (He.ga K (M.en c)) "property" (M.df f).nm
  | .cm c => He5.wf K (He.ga K (M.en c)) "classmethod" (M.df f).nm
def Md.gdf (M : Md) (f : Nat) : Bool := M.ids.contains f && (match M.wh f with | .glo => (M.kbs f).isEmpty | _ => false)
def Md.mt (M : Md) (f : Nat) : Option (Nat × MK) := if M.ids.contains f then (match M.wh f with | .meth c => some (c, .fn) | .prop c => some (c, .prop) | .cm c => some (c, .cm) | _ => none) else none
def Md.ini (M : Md) (c : Nat) : Option Nat := M.ids.find? fun f => match M.wh f with | .ini c' => c' == c | _ => false
def Md.kx (M : Md) (P : Program) (w : World) (K : PySem.W.Frag) : Kx := ⟨K, dN P w, fun c => He.ga K (M.en c), M.xk, M.cf⟩
def Md.pg (M : Md) (K : Kx) (mg : Str → Option Value) : Pg :=
  { K := K, mg := mg, T := M.T, gv := M.gv, sub := M.sub, gn := M.gn, fn := fun f => (M.df f).nm, en := M.en, fa := fun f => M.fad K f, ea := fun c => He.ga K (M.en c), dom := fun f => M.ids.contains f, gdom := fun i => M.gids.contains i, edom := fun c => M.eids.contains c, hdm := fun c => M.hds.contains c, bdom := fun x => M.bls.contains x,
    gdf := M.gdf, kbs := M.kbs, cn := M.en, cdom := fun c => M.cids.contains c, ini := M.ini, mt := M.mt, con := fun g => if M.cons.contains g then M.con g else none, xvd := fun c => M.xv.contains c, xid := fun c => M.xi.contains c, ist := fun t => if M.ists.contains t then M.ist t else [] }
def Md.nm (M : Md) : Nm := ⟨fun f => (M.df f).nm, M.gn, M.en, fun f => M.ids.contains f, fun i => M.gids.contains i, fun c => M.eids.contains c, fun x => M.bls.contains x, fun f => (M.T f).np, fun g => strsG (M.gv g), M.gdf, M.kbs, M.en, fun c => M.cids.contains c, M.ini, M.mt, fun g => if M.cons.contains g then M.con g else none, fun c => M.xv.contains c, fun c => M.xi.contains c, fun c => M.hds.contains c, fun t => if M.ists.contains t then M.ist t else [], M.cf, M.xk⟩
def Md.defa (M : Md) (f : Nat) : He5.DefA := ⟨fun K => M.fad K f, (M.df f).nm, (M.df f).qn, (M.df f).args, (M.df f).body, (M.df f).scope, M.dfl f, M.kwd f⟩
def Md.defx (M : Md) (c : Nat) : He5.DefA := ⟨fun K => He.ma K (He.ga K (M.en c)) "__init__", "__init__", (M.xd c).qn, (M.xd c).args, (M.xd c).body, (M.xd c).scope, [], []⟩
def Md.fn (M : Md) : List He5.DefA := M.ids.map M.defa ++ M.xi.map M.defx
/-! ### looks at classes -/
def eqA {α : Type} [DecidableEq α] (a b : α) : Bool := decide (a = b)
def ownB (K : PySem.W.Frag) (C : Addr) (nm : Str) (f : Addr) : Bool := He.eqO (PySem.W.findIn K (.ref C) nm) (some (some (.ref f))) && PySem.W.isFn K (.ref f) && PySem.W.fnIn K f
theorem ownB_ok {K : PySem.W.Frag} {C : Addr} {nm : Str} {f : Addr} (h : ownB K C nm f = true) : OwnM K C nm f := by
  unfold ownB at h
  simp only [Bool.and_eq_true] at h
  exact ⟨He.eqO_ok h.1.1, h.1.2, h.2⟩
def objB (K : PySem.W.Frag) (C : Addr) : Bool := He.eqO (PySem.W.findIn K (.ref C) "__class__") (some (some (.builtin "object.__class__"))) && He.eqO (PySem.W.specialIn K (.builtin "object.__class__") "__get__") (some (some (.builtin "getset_descriptor.__get__"))) &&
  decide (PySem.W.takesIn K (.builtin "object.__class__") = some true) && decide (PySem.W.mroIn K C (.type "object") = some true)
def rshB (K : PySem.W.Frag) : Bool := ["tuple", "list", "NoneType"].all fun T => He.eqO (PySem.W.findIn K (.type T) "__rshift__") (some none) && He.eqO (PySem.W.findIn K (.type T) "__rrshift__") (some none)
def Md.clsB (M : Md) (K : PySem.W.Frag) (c : Nat) : Bool := (He.Fa.cls (M.en c)).ok K && (He.Fa.glo (M.en c)).ok K && decide (M.cf c).Nodup && decide ((M.cf c).length ≤ 100) && ((M.cf c).all fun x => (He.Fa.noat (M.en c) x).ok K) && PySem.W.selfFirst K (He.ga K (M.en c)) &&
  decide (PySem.W.subIn K (.type "tuple") (.ref (He.ga K (M.en c))) = some false) && decide (PySem.W.kitOne K (.type "tuple") (.ref (He.ga K (M.en c))) = some false) && decide (PySem.W.kitOne K (.ref (He.ga K (M.en c))) (.ref (He.ga K (M.en c))) = some true) && objB K (He.ga K (M.en c)) && rshB K
theorem clsB_ok {M : Md} {P : Program} {w : World} {K : PySem.W.Frag} {h : Heap} {mg : Str → Option Value} (X : K.In h) (G : h.Ns mainGlobals mg) {c : Nat} (e : M.clsB K c = true) : ClsF (M.pg (M.kx P w K) mg) c := by
  unfold Md.clsB objB rshB at e
  simp only [Bool.and_eq_true, decide_eq_true_eq, List.all_eq_true] at e
  obtain ⟨⟨⟨⟨⟨⟨⟨⟨⟨⟨h1, h2⟩, h3⟩, h4⟩, h5⟩, h6⟩, h7⟩, h8⟩, h9⟩, ⟨⟨k1, k2⟩, k3⟩, k4⟩, h11⟩ := e
  exact ⟨He.cls_ok h1, He.glo_ok X G h2, h3, h4, fun x hx => He.noat_ok (h5 x hx), h6, h7, h8, h9, He.eqO_ok k1, He.eqO_ok k2, k3, k4, fun T hT => by
    have hm : T ∈ ["tuple", "list", "NoneType"] := by rcases hT with rfl | rfl | rfl <;> simp
    have z := h11 T hm
    exact ⟨He.eqO_ok z.1, He.eqO_ok z.2⟩⟩
/-- a class's own attributes are read as they stand -/
def readB (K : PySem.W.Frag) (C : Addr) : Bool := PySem.W.readsIn K C (.type "type") && He.eqO (PySem.W.specialIn K (.ref C) "__getattribute__") (some (some (.builtin "type.__getattribute__")))
theorem readB_ok {K : PySem.W.Frag} {C : Addr} (h : readB K C = true) : ClX.CRead K C (.type "type") := by
  unfold readB at h
  rw [Bool.and_eq_true] at h
  exact ⟨h.1, He.eqO_ok h.2⟩
def propB (K : PySem.W.Frag) (C : Addr) (nm : Str) : Bool := He.eqO (PySem.W.findIn K (.ref C) nm) (some (some (.ref (He.ma K C nm)))) && He.eqO (PySem.W.specialIn K (.ref (He.ma K C nm)) "__get__") (some (some (.builtin "property.__get__"))) && decide (PySem.W.takesIn K (.ref (He.ma K C nm)) = some true) &&
  (match PySem.W.recIn K (He.ma K C nm) "property" with | some (.ref _ :: _) => true | _ => false)
theorem propB_ok {K : PySem.W.Frag} {C : Addr} {nm : Str} (h : propB K C nm = true) : PropOf K C nm (He.ma K C nm) (He5.wf K C "property" nm) := by
  unfold propB at h
  simp only [Bool.and_eq_true, decide_eq_true_eq] at h
  obtain ⟨⟨⟨h1, h2⟩, h3⟩, h4⟩ := h
  refine ⟨He.eqO_ok h1, He.eqO_ok h2, h3, ?_⟩
  unfold He5.wf
  split at h4
  · rename_i f r e
    exact ⟨r, by rw [e]⟩
  · cases h4
/-- a def of the module -/
def Md.whB (M : Md) (K : PySem.W.Frag) (f : Nat) : Bool := match M.wh f with
  | .glo => (He.Fa.glo (M.df f).nm).ok K
  | .meth c => M.cids.contains c && (M.kbs f).isEmpty && ownB K (He.ga K (M.en c)) (M.df f).nm (M.fad K f) && !(M.cf c).contains (M.df f).nm
  | .prop c => M.cids.contains c && (M.kbs f).isEmpty && propB K (He.ga K (M.en c)) (M.df f).nm
  | .cm c => M.cids.contains c && (M.kbs f).isEmpty && readB K (He.ga K (M.en c)) && He5.wrapB K (He.ga K (M.en c)) "classmethod" "classmethod.__get__" (M.df f).nm && PySem.W.fnIn K (He5.wf K (He.ga K (M.en c)) "classmethod" (M.df f).nm)
  | .ini c => M.cids.contains c && (He.Fa.mkr (M.en c)).ok K && decide ((M.df f).nm = ("__init__" : Str))
/-- a class's constant -/
def Md.conB (M : Md) (K : PySem.W.Frag) (g : Nat) : Bool := match M.con g with
  | some (c, x) => M.cids.contains c && readB K (He.ga K (M.en c)) && (match PySem.W.findCls K (.ref (He.ga K (M.en c))) (.type "type") x with
    | some (.val u) => dataIn K (M.gv g) u
    | _ => false)
  | none => true
def excB (K : PySem.W.Frag) (D : Addr) : Bool := He.eqO (PySem.W.findIn K (.ref D) "__getattribute__") (some (some (.builtin "BaseException.__getattribute__"))) && He.eqO (PySem.W.findIn K (.ref D) "__getattr__") (some none) && decide (PySem.W.subIn K (.ref D) (.type "BaseException") = some true) && PySem.W.hasDictIn K D && objB K D
theorem excB_ok {K : PySem.W.Frag} {D : Addr} (h : excB K D = true) : L2.ExcC K D := by
  unfold excB objB at h
  simp only [Bool.and_eq_true, decide_eq_true_eq] at h
  obtain ⟨⟨⟨⟨h1, h2⟩, h3⟩, h4⟩, ⟨⟨k1, k2⟩, k3⟩, k4⟩ := h
  exact ⟨He.eqO_ok h1, He.eqO_ok h2, h3, h4, He.eqO_ok k1, He.eqO_ok k2, k3, k4⟩
theorem excB_xf {K : PySem.W.Frag} {D : Addr} (h : excB K D = true) : XfC K D := by
  have z := excB_ok h
  exact ⟨z.hg, z.hk, z.hs, z.hd⟩
/-- the class's object is one of an error's class with a dict -/
def oexO (C : Addr) (o : Obj) : Bool := match o with
  | ⟨.type t, _, .cls cd, sl⟩ => decide (t = "type") && !cd.hasDel && cd.hasDict && (match cd.mro, sl.toList with
    | .ref D :: bm, [_, _, _, _, some (.builtin z), _] => decide (D = C) && decide (z = "ValueError.__new__") && PySem.HandSPX.refsVE bm
    | _, _ => false)
  | _ => false
theorem oexO_ok {C : Addr} {o : Obj} (h : oexO C o = true) : ∃ nm q N bs bm sn sub ab col dd k0 k1 k2 k3 k5, o = excClassObj nm q C N bs bm true sn sub ab col dd k0 k1 k2 k3 k5 "ValueError.__new__" ∧ PySem.HandSPX.refsVE bm = true := by
  unfold oexO at h
  split at h
  · rename_i t dd cd sl
    simp only [Bool.and_eq_true, decide_eq_true_eq, Bool.not_eq_true'] at h
    obtain ⟨⟨⟨rfl, h2⟩, h3⟩, h4⟩ := h
    split at h4
    · rename_i D bm k0 k1 k2 k3 z k5 hm hs
      simp only [Bool.and_eq_true, decide_eq_true_eq] at h4
      obtain ⟨⟨rfl, rfl⟩, h6⟩ := h4
      obtain ⟨nm, bs, mro, ns, qn, hd, sn, sub, ab, col, del⟩ := cd
      simp only at hm h2 h3
      subst hm; subst h2; subst h3
      have es : sl = #[k0, k1, k2, k3, some (.builtin "ValueError.__new__"), k5] := by
        obtain ⟨l⟩ := sl
        simp only at hs
        rw [hs]
      subst es
      exact ⟨nm, qn, ns, bs, bm, sn, sub, ab, col, dd, k0, k1, k2, k3, k5, rfl, h6⟩
    · cases h4
  · cases h
/-- the class's object is one of an error's class with a dict -/
def oexB (K : PySem.W.Frag) (C : Addr) : Bool := (match K.lookup C with
    | some o => oexO C o
    | none => false) && He.eqO (PySem.W.findIn K (.ref C) "__setattr__") (some (some (.builtin "object.__setattr__"))) && decide (PySem.W.subIn K (.ref C) (.type "BaseException") = some true) && decide (PySem.W.typeIn K (.ref C) = some (.type "type")) && PySem.W.keepIn K (.ref C)
theorem oexB_ok {K : PySem.W.Frag} {C : Addr} (h : oexB K C = true) : OexC K C := by
  unfold oexB at h
  simp only [Bool.and_eq_true, decide_eq_true_eq] at h
  obtain ⟨⟨⟨⟨h1, h2⟩, h3⟩, h4⟩, h5⟩ := h
  refine ⟨?_, He.eqO_ok h2, h3, h4, h5⟩
  split at h1
  · rename_i o e
    obtain ⟨nm, q, N, bs, bm, sn, sub, ab, col, dd, k0, k1, k2, k3, k5, eo, hb⟩ := oexO_ok h1
    exact ⟨nm, q, N, bs, bm, sn, sub, ab, col, dd, k0, k1, k2, k3, k5, by rw [e, eo], hb⟩
  · cases h1
def initB (K : PySem.W.Frag) (C : Addr) : Bool := match PySem.W.findCls K (.ref C) (.type "type") "__init__" with
  | some (.val (.builtin b)) => decide (b = "ValueError.__init__")
  | _ => false
def noDbg (x : Str) : Bool := !(x == ("__debug__" : Str)) && !(x == ("__classdict__" : Str))
/-- an error's class with an __init__ of its own -/
def Md.xiB (M : Md) (K : PySem.W.Frag) (c : Nat) : Bool := (He.Fa.glo (M.en c)).ok K && excB K (He.ga K (M.en c)) && oexB K (He.ga K (M.en c)) && He.eqO (PySem.W.findIn K (.ref (He.ga K (M.en c))) "__init__") (some (some (.ref (He.ma K (He.ga K (M.en c)) "__init__")))) && decide (PySem.W.typeIn K (.ref (He.ma K (He.ga K (M.en c)) "__init__")) = some (.type "function")) &&
  (match vXI (M.xd c).body with
  | some (x0, self, nn, par) => decide (M.xk c = some nn) && He.eqO (PySem.W.findIn K (.ref (He.ga K (M.en c))) nn) (some none) && (He.Fa.glo x0).ok K && readB K (He.ga K x0) && initB K (He.ga K x0) && C8.scC [self, par] [self, par] (M.xd c).scope && decide ((M.xd c).scope.names.lookup x0 = some .globalImplicit) && noDbg self && noDbg par && noDbg x0 && decide ((M.xd c).ps = [self, par])
  | none => false)
def Md.xvB (M : Md) (K : PySem.W.Frag) (c : Nat) : Bool := M.eids.contains c && decide (M.xk c = none) && excB K (He.ga K (M.en c)) && He.eqO (PySem.W.findIn K (.ref (He.ga K (M.en c))) "__str__") (some (some (.builtin "BaseException.__str__")))
def Md.istB (M : Md) (K : PySem.W.Frag) (t : Option Nat) : Bool := ((M.ist t).all fun q => (M.xv.contains q.1 || M.xi.contains q.1) && decide (PySem.W.kitOne K (.ref (He.ga K (M.en q.1))) (match t with | none => .type "ValueError" | some k => .ref (He.ga K (M.en k))) = some q.2)) && (match t with | some k => M.hds.contains k | none => true)
/-- all that is looked at -/
def Md.ex (M : Md) (K : PySem.W.Frag) : Bool := noList K && (M.gids.all fun i => match PySem.W.nsIn K mainGlobals (M.gn i) with
    | some (some u) => dataIn K (M.gv i) u
    | _ => false) && (M.ids.all fun f => M.whB K f) && (M.cids.all fun c => M.clsB K c) && (M.cons.all fun g => M.conB K g) && (M.eids.all fun c => (He.Fa.exc (M.en c)).ok K) && (M.hds.all fun c => (He.Fa.glo (M.en c)).ok K) && (M.eids.all fun c => M.hds.contains c) &&
  (M.subs.all fun q => (He.Fa.exm (M.en q.1) (M.en q.2) ((M.sub q.1 q.2).getD false)).ok K) && (M.bls.all fun x => (He.Fa.free x).ok K) && (M.xv.all fun c => M.xvB K c) && (M.xi.all fun c => M.xiB K c) && (M.ists.all fun t => M.istB K t)
structure ExF (M : Md) (K : PySem.W.Frag) : Prop where
  nl : noList K = true
  gl : ∀ i ∈ M.gids, (match PySem.W.nsIn K mainGlobals (M.gn i) with
    | some (some u) => dataIn K (M.gv i) u
    | _ => false) = true
  wh : ∀ f ∈ M.ids, M.whB K f = true
  cl : ∀ c ∈ M.cids, M.clsB K c = true
  co : ∀ g ∈ M.cons, M.conB K g = true
  xc : ∀ c ∈ M.eids, (He.Fa.exc (M.en c)).ok K = true
  hd : ∀ c ∈ M.hds, (He.Fa.glo (M.en c)).ok K = true
  xh : ∀ c ∈ M.eids, M.hds.contains c = true
  sb : ∀ q ∈ M.subs, (He.Fa.exm (M.en q.1) (M.en q.2) ((M.sub q.1 q.2).getD false)).ok K = true
  bl : ∀ x ∈ M.bls, (He.Fa.free x).ok K = true
  xv : ∀ c ∈ M.xv, M.xvB K c = true
  xi : ∀ c ∈ M.xi, M.xiB K c = true
  is : ∀ t ∈ M.ists, M.istB K t = true
theorem exF_of {M : Md} {K : PySem.W.Frag} (h : M.ex K = true) : ExF M K := by
  unfold Md.ex at h
  simp only [Bool.and_eq_true, List.all_eq_true] at h
  obtain ⟨⟨⟨⟨⟨⟨⟨⟨⟨⟨⟨⟨h1, h2⟩, h3⟩, h4⟩, h5⟩, h6⟩, h7⟩, h8⟩, h9⟩, h10⟩, h11⟩, h12⟩, h13⟩ := h
  exact ⟨h1, h2, h3, h4, h5, h6, h7, h8, h9, h10, h11, h12, h13⟩
def BindsP (d : Df) : Prop := ∀ (kV doc pm : Value) (an : Option Addr) (cdv ct : Value) (us : List Value), us.length = d.ps.length → bindArgs (PySem.W.fnOf d.nm d.qn d.args d.body d.scope .none kV doc pm an cdv ct) ⟨us, []⟩ = pure (d.ps.zip us)
def BindsAll : List Df → Prop
  | [] => True
  | d :: ds => BindsP d ∧ BindsAll ds
theorem BindsAll.get : ∀ {ds : List Df} {d : Df}, BindsAll ds → d ∈ ds → BindsP d
  | [], _, _, h => by cases h
  | x :: xs, d, h, hm => by
    rcases List.mem_cons.mp hm with rfl | hm
    · exact h.1
    · exact h.2.get hm
theorem mem_of_contains {α : Type} [BEq α] [LawfulBEq α] {l : List α} {a : α} (h : l.contains a = true) : a ∈ l := List.contains_iff_mem.mp h
/-- the calls of classes with keywords -/
def KbAll (M : Md) : Prop := ∀ f ∈ M.ids, ∀ q ∈ M.kbs f, ∀ (K : PySem.W.Frag) (a : Addr) (fd : FuncData), FunD K (M.df f).nm (M.df f).qn (M.df f).args (M.df f).body (M.df f).scope ((M.dfl f).map (He.Dv.v K)) ((M.kwd f).map fun q => (q.1, q.2.v K)) a fd → KBok K fd (M.df f).ps q
theorem keep_fn {K : PySem.W.Frag} {C : Addr} {nm : Str} {f : Addr} (om : OwnM K C nm f) : PySem.W.keepIn K (.ref f) = true := by
  have z := om.fi
  unfold PySem.W.fnIn at z
  unfold PySem.W.keepIn
  split at z
  · rename_i e
    simp only [e]
  · cases z
theorem own_of {M : Md} {P : Program} {w : World} {K : PySem.W.Frag} {h : Heap} {mg : Str → Option Value} (X : K.In h) (G : h.Ns mainGlobals mg) (F : ExF M K) (hs : ∀ x c b, M.sub x c = some b → (x, c) ∈ M.subs) : OwnF (M.pg (M.kx P w K) mg) := by
  have ids : ∀ {f : Nat} {q : Nat × MK}, M.mt f = some q → M.ids.contains f = true ∧ (match M.wh f with | .meth c => some (c, MK.fn) | .prop c => some (c, .prop) | .cm c => some (c, .cm) | _ => none) = some q := fun {f q} e => by
    unfold Md.mt at e
    split at e
    · rename_i z; exact ⟨z, e⟩
    · cases e
  refine ⟨fun c hc => clsB_ok X G (F.cl c (mem_of_contains hc)), fun c f e => ?_, fun f c e => ?_, fun f c e => ?_, fun f c e => ?_, fun g c x e => ?_, fun c hc => ?_, fun c hc => He.glo_ok X G (F.hd c (mem_of_contains hc)), fun x c b e => ?_⟩
  · have e : M.ids.find? (fun f => match M.wh f with | .ini c' => c' == c | _ => false) = some f := e
    have hm := List.mem_of_find?_eq_some e
    have hp := List.find?_some e
    have z := F.wh f hm
    unfold Md.whB at z
    split at hp
    · rename_i c' hw
      have : c' = c := by simpa using hp
      subst this
      rw [hw] at z
      simp only [Bool.and_eq_true, decide_eq_true_eq] at z
      obtain ⟨⟨z1, z2⟩, z3⟩ := z
      refine ⟨z1, List.contains_iff_mem.mpr hm, ?_⟩
      show Mk K (He.ga K (M.en c')) (M.fad K f)
      unfold Md.fad
      rw [hw]
      simp only [z3]
      exact He.mkr_ok z2
    · cases hp
  · obtain ⟨h1, h2⟩ := ids e
    have z := F.wh f (mem_of_contains h1)
    unfold Md.whB at z
    split at h2 <;> cases h2
    rename_i hw
    rw [hw] at z
    simp only [Bool.and_eq_true, Bool.not_eq_true'] at z
    obtain ⟨⟨⟨z1, z2⟩, z3⟩, z4⟩ := z
    have om := ownB_ok z3
    refine ⟨z1, h1, List.isEmpty_iff.mp z2, om, ?_, fun hm => ?_⟩
    · exact keep_fn om
    · have hm : (M.cf c).contains (M.df f).nm = true := List.contains_iff_mem.mpr hm
      rw [hm] at z4; cases z4
  · obtain ⟨h1, h2⟩ := ids e
    have z := F.wh f (mem_of_contains h1)
    unfold Md.whB at z
    split at h2 <;> cases h2
    rename_i hw
    rw [hw] at z
    simp only [Bool.and_eq_true] at z
    obtain ⟨⟨z1, z2⟩, z3⟩ := z
    refine ⟨z1, h1, List.isEmpty_iff.mp z2, He.ma K (He.ga K (M.en c)) (M.df f).nm, ?_⟩
    show PropOf K (He.ga K (M.en c)) (M.df f).nm _ (M.fad K f)
    unfold Md.fad
    rw [hw]
    exact propB_ok z3
  · obtain ⟨h1, h2⟩ := ids e
    have z := F.wh f (mem_of_contains h1)
    unfold Md.whB at z
    split at h2 <;> cases h2
    rename_i hw
    rw [hw] at z
    simp only [Bool.and_eq_true] at z
    obtain ⟨⟨⟨⟨z1, z2⟩, z3⟩, z4⟩, z5⟩ := z
    refine ⟨z1, h1, List.isEmpty_iff.mp z2, .type "type", He.ma K (He.ga K (M.en c)) (M.df f).nm, readB_ok z3, ?_⟩
    show ClX.CMet K (He.ga K (M.en c)) (.type "type") (M.df f).nm _ (M.fad K f)
    unfold Md.fad
    rw [hw]
    exact He5.cmet_of z4 z5
  · have e : (if M.cons.contains g then M.con g else none) = some (c, x) := e
    split at e
    · rename_i hg
      have z := F.co g (mem_of_contains hg)
      unfold Md.conB at z
      rw [e] at z
      simp only [Bool.and_eq_true] at z
      obtain ⟨⟨z1, z2⟩, z3⟩ := z
      split at z3
      · rename_i u hu
        obtain ⟨hp, v, hv, hr⟩ := dataIn_ok (K := M.kx P w K) _ _ z3
        exact ⟨z1, hp, .type "type", u, v, readB_ok z2, ⟨hu, hv⟩, hr⟩
      · cases z3
    · cases e
  · obtain ⟨h1, h2, h3, h4⟩ := He.exc_ok (F.xc c (mem_of_contains hc))
    exact ⟨He.glo_ok X G (F.hd c (mem_of_contains (F.xh c (mem_of_contains hc)))), h1, h2, h3, h4⟩
  · have z := He.exm_ok (F.sb (x, c) (hs x c b e))
    have e : M.sub x c = some b := e
    simp only [e, Option.getD_some] at z
    exact z
theorem exv_of_md {M : Md} {P : Program} {w : World} {K : PySem.W.Frag} {h : Heap} {mg : Str → Option Value} (X : K.In h) (G : h.Ns mainGlobals mg) (F : ExF M K) {tf : List He.Defn} (c : SaysY M.fn tf M.ex h K) (hb : BindsAll (M.xi.map M.xd)) (hn : ∀ c ∈ M.xi, (M.xd c).nm = ("__init__" : Str)) : ExvF (M.pg (M.kx P w K) mg) := by
  refine ⟨fun i hi => ?_, fun i hi => ?_, fun t i b e => ?_, fun k hk => ?_⟩
  · have z := F.xv i (mem_of_contains hi)
    unfold Md.xvB at z
    simp only [Bool.and_eq_true, decide_eq_true_eq] at z
    obtain ⟨⟨⟨z1, z2⟩, z3⟩, z4⟩ := z
    exact ⟨z1, z2, rfl, excB_ok z3, He.eqO_ok z4⟩
  · have hm := mem_of_contains hi
    have z := F.xi i hm
    unfold Md.xiB at z
    simp only [Bool.and_eq_true, decide_eq_true_eq] at z
    obtain ⟨⟨⟨⟨⟨z1, z2⟩, z3⟩, z4⟩, z5⟩, z6⟩ := z
    split at z6
    · rename_i x0 self nn par hv
      simp only [Bool.and_eq_true, decide_eq_true_eq, noDbg, Bool.not_eq_true'] at z6
      obtain ⟨⟨⟨⟨⟨⟨⟨⟨⟨⟨q1, q2⟩, q3⟩, q4⟩, q5⟩, q6⟩, q7⟩, q8⟩, q9⟩, q10⟩, q11⟩ := z6
      obtain ⟨fd, FD⟩ := c.def_ (d := M.defx i) (List.mem_append_right _ (List.mem_map_of_mem hm))
      have FD : FunD K "__init__" (M.xd i).qn (M.xd i).args (M.xd i).body (M.xd i).scope [] [] (He.ma K (He.ga K (M.en i)) "__init__") fd := FD
      have bp := hb.get (List.mem_map_of_mem (f := M.xd) hm)
      have bd : Binds K fd [self, par] [] := by
        rw [← q11]
        refine FunD.bindsN FD fun kV doc pm an cdv ct us hl => ?_
        have := bp kV doc pm an cdv ct us hl
        rw [hn i hm] at this
        exact this
      have vV : PySem.W.findCls K (.ref (He.ga K x0)) (.type "type") "__init__" = some (.val (.builtin "ValueError.__init__")) := by
        unfold initB at q5
        split at q5
        · rename_i b hb
          rw [hb, of_decide_eq_true q5]
        · cases q5
      exact ⟨He.glo_ok X G z1, rfl, excB_ok z2, excB_xf z2, oexB_ok z3, nn, self, par, _, fd, q1, He.eqO_ok q2, He.eqO_ok z4, z5, bd, fun P w base => xinit_ok FD (C8.fnScope_by q6) hv q7 (He.glo_ok X G q3) (readB_ok q4) vV q8.1 q9.1 q8.2 q9.2 q10.1⟩
    · cases z6
  · have e : (i, b) ∈ (if M.ists.contains t then M.ist t else []) := e
    split at e
    · rename_i ht
      have z := F.is t (mem_of_contains ht)
      unfold Md.istB at z
      rw [Bool.and_eq_true, List.all_eq_true] at z
      have z1 := z.1 _ e
      simp only [Bool.and_eq_true, Bool.or_eq_true, decide_eq_true_eq] at z1
      refine ⟨z1.1, ?_⟩
      cases t <;> exact z1.2
    · cases e
  · have hk : (if M.ists.contains (some k) then M.ist (some k) else []) ≠ [] := hk
    split at hk
    · rename_i ht
      have z := F.is _ (mem_of_contains ht)
      unfold Md.istB at z
      rw [Bool.and_eq_true] at z
      exact z.2
    · exact (hk rfl).elim
theorem stat {M : Md} {P : Program} {w : World} {K : PySem.W.Frag} {h : Heap} {mg : Str → Option Value} {tf : List He.Defn} (X : K.In h) (G : h.Ns mainGlobals mg) (c : SaysY M.fn tf M.ex h K)
    (hc : M.ids.all (fun f => chkF M.nm (M.df f) (M.T f)) = true) (hb : BindsAll ((M.ids.filter fun f => (M.kbs f).isEmpty).map M.df)) (hd : (M.ids.filter fun f => (M.kbs f).isEmpty).all (fun f => (M.dfl f).isEmpty && (M.kwd f).isEmpty) = true) (hk : KbAll M) (hbx : BindsAll (M.xi.map M.xd)) (hnx : ∀ c ∈ M.xi, (M.xd c).nm = ("__init__" : Str)) (hs : ∀ x c b, M.sub x c = some b → (x, c) ∈ M.subs) : Stat (M.pg (M.kx P w K) mg) := by
  have F := exF_of c.more
  refine ⟨fun f hf => ?_, fun f hf => ?_, own_of X G F hs, exv_of_md X G F c hbx hnx, fun x hx => He.free_ok X G (F.bl x (mem_of_contains hx)), fun i hi => ?_⟩
  · have hf' : f ∈ M.ids := mem_of_contains hf
    obtain ⟨fd, FD⟩ := c.def_ (d := M.defa f) (List.mem_append_left _ (List.mem_map_of_mem hf'))
    have FD : FunD K (M.df f).nm (M.df f).qn (M.df f).args (M.df f).body (M.df f).scope ((M.dfl f).map (He.Dv.v K)) ((M.kwd f).map fun q => (q.1, q.2.v K)) (M.fad K f) fd := FD
    refine ⟨M.df f, fd, _, _, FD, fun he => ?_, fun q hq => hk f hf' q hq K _ fd FD, List.all_eq_true.mp hc f hf'⟩
    have hm : f ∈ M.ids.filter fun f => (M.kbs f).isEmpty := List.mem_filter.mpr ⟨hf', List.isEmpty_iff.mpr he⟩
    have z := List.all_eq_true.mp hd f hm
    rw [Bool.and_eq_true] at z
    have e1 : M.dfl f = [] := List.isEmpty_iff.mp z.1
    have e2 : M.kwd f = [] := List.isEmpty_iff.mp z.2
    rw [e1, e2] at FD
    exact FunD.bindsN FD (hb.get (List.mem_map_of_mem hm))
  · have hf : M.gdf f = true := hf
    unfold Md.gdf at hf
    rw [Bool.and_eq_true] at hf
    have z := F.wh f (mem_of_contains hf.1)
    unfold Md.whB at z
    have hw := hf.2
    split at hw
    · rename_i e
      rw [e] at z
      refine ⟨List.isEmpty_iff.mp hw, ?_⟩
      show mg (M.df f).nm = some (.ref (M.fad K f))
      unfold Md.fad
      rw [e]
      exact He.glo_ok X G z
    · cases hw
  · have hi' : i ∈ M.gids := mem_of_contains hi
    have q := F.gl i hi'
    split at q
    · rename_i u hu
      obtain ⟨hp, v, hv, hr⟩ := dataIn_ok (K := M.kx P w K) _ _ q
      exact ⟨u, v, PySem.W.mg_of X G hu, hv, hp, hr⟩
    · cases q
/-- the script -/
theorem rep_ints {K : Kx} {ad : List Addr} {Z : Addr → Prop} {H : Hp} : ∀ ns : List Int, RepL K ad Z H (ns.map .int) (ns.map V.int)
  | [] => RepL.nil
  | n :: ns => RepL.cons okI (rep_ints ns)
theorem law_sp {p : Pg} {n law : Nat} (nl : noList p.K = true) (hnp : (p.T law).np = 1) {H : Hp} {a : Addr} {ns : List Int} (hS : SqL p.K H a (ns.map V.int))
    (hr : ∃ new, p.cf n law [.lst (ns.map .int)] [] = some (.rt (.bl true) [] new)) : spF p n law [.ref a] H (fun v _ => v = .bl true) fun _ _ _ => False := by
  have rd : Rd H a (.lst (ns.map V.int)) := by
    rcases hS with h | ⟨o, its, k, h1, h2, _⟩
    · exact h
    · exact (noList_ok nl h1 h2).elim
  have ha : H a ≠ none := by
    rcases rd with h | ⟨o, h⟩ <;> rw [h] <;> simp
  obtain ⟨new, e⟩ := hr
  refine ⟨⟨[], fun b => b = a⟩, [.lst (ns.map .int)], [], ⟨rfl, rfl, fun i d e => by simp at e, fun k b x e => by simp at e, .nil, fun b o e _ => e, fun b z => .inl z, fun b z => by rw [z]; exact ha, ⟨[], rfl⟩, fun b hb => by cases hb⟩, rfl, RepL.one ?_, hnp.symm, ?_⟩
  · simp only [RepV]
    exact ⟨a, ns.map V.int, rfl, ⟨rfl, rd⟩, rep_ints ns⟩
  · rw [e]
    exact fun c' v H' _ _ rv => repV_bl rv
/-- the law's end, what it may let out told by the world -/
theorem walk_own {l : PySem.W.OpenLaw} {m k : Nat} {q : Program} {loose : List Str} {XP : (Str → Option Value) → Heap → Prop} {Y : World → Heap → Prop} {d : DefRec} {CX : World → CXT} {x : Str}
    (hm : l.most = some m) (hz : m ≤ sizeLine) (h0 : d.params.defaults = []) (room : Room k callerA)
    (F : ∀ (w : World) (mg : Str → Option Value) (f : Addr) (h : Heap), Y w h → h.Ns mainGlobals mg → mg d.name = some (.ref f) →
      ∃ (K : PySem.W.Frag) (fd : FuncData) (sp : Sp), K.In h ∧ (∀ (s : Shared) (v : Value), BindsTo s fd ⟨[v], []⟩ [(x, v)]) ∧
        (∀ (H : Hp) (a : Addr) (ns : List Int), ns.length ≤ m → Only H → SqL K H a (ns.map V.int) → sp [.ref a] H (fun v _ => v = .bl true) fun _ _ _ => False) ∧
        ∀ base : Heap, K.In base → base.Ns mainGlobals mg → FnOk l.prog w K mg base (CX w) k f fd [x] sp)
    (no : ∀ (w : World) (H : Hp) (s : Shared) (e : Value) (s' : Shared), CX w [] H s (fun _ _ _ => False) e s' → False) :
    PySem.W.WalkO q loose XP Y l.row.toRowW d [] (fun g vs => PySem.call g vs) := by
  refine Att.attach_call hm h0 fun w t₀ t₁ mg mb f o pm cd doc a vs ns G y _ _ _ hg ho hi hl hn => ?_
  obtain ⟨K, fd, sp, kin, bi, hs, fo⟩ := F w mg f _ y G.T.g hg
  exact law_call kin G.T.g G.T.b G.T.builtins G.T.nolimit hn ho hi (Nat.le_trans hl hz) room fo bi (fun H ho' hq => hs H a ns hl ho' hq) fun H e u => no w H t₁ e u
def defName (s : Stmt) : Str := match s with
  | .FunctionDef n _ _ _ _ _ _ _ _ _ => n
  | _ => Str.empty
end Mp
theorem He.lookup_memK {α β : Type} [BEq α] [LawfulBEq α] {a : α} {o : β} : ∀ {l : List (α × β)}, l.lookup a = some o → (a, o) ∈ l
  | [], h => by cases h
  | (b, u) :: r, h => by
    rw [List.lookup_cons] at h
    cases q : (a == b) with
    | true =>
      rw [q] at h
      have e : u = o := Option.some.inj h
      rw [eq_of_beq q, e]
      exact List.mem_cons_self
    | false =>
      rw [q] at h
      exact List.mem_cons_of_mem _ (He.lookup_memK h)
namespace Mp
open PySem PySem.Spec
open PyProof.Rows L2
/-- values_of: part, numbers, words, low, high -/
def p_values_of : FDef := ⟨1, 5, (.cons (.asg 1 (.dsp [(.str [99, 111, 118, 101, 114]), (.str [111, 119, 110]), (.str [99, 97, 112])] (.cons (.tup (.cons (.cst (.int 1)) (.cons (.cst (.int 4)) .nil))) (.cons (.tup (.cons (.cst (.int 0)) (.cons (.cst (.int 3)) .nil))) (.cons (.tup (.cons (.cst (.int 0)) (.cons (.cst (.int 8)) .nil))) .nil)))))
    (.cons (.ifs (.bin .mem (.var 0) (.var 1))
    (.cons (.unp [3, 4] (.bin .idx (.var 1) (.var 0)))
    (.cons (.ret (.bin .lrng (.var 3) (.bin .add (.var 4) (.cst (.int 1)))))
    .nil))
    .nil)
    (.cons (.asg 2 (.dsp [(.str [98, 111, 100, 121]), (.str [112, 97, 114, 116]), (.str [108, 111, 111, 107, 115])] (.cons (.cst (.str [97, 110, 101, 119, 32, 108, 111, 110, 103, 101, 114, 32, 110, 101, 119, 32, 115, 97, 109, 101])) (.cons (.cst (.str [97, 110, 101, 119, 32, 108, 111, 110, 103, 101, 114, 32, 115, 97, 109, 101])) (.cons (.cst (.str [101, 105, 116, 104, 101, 114, 32, 102, 105, 114, 115, 116, 32, 116, 104, 105, 110, 103])) .nil)))))
    (.cons (.ret (.ite (.bin .mem (.var 0) (.var 2)) (.mth .split (.bin .idx (.var 2) (.ite (.bin .eq (.var 0) (.cst (.str [98, 111, 100, 121]))) (.cst (.str [98, 111, 100, 121])) (.var 0))) (.cst (.str [32]))) (.call 1 (.cons (.var 0) .nil))))
    .nil))))⟩
/-- two_of: part -/
def p_two_of : FDef := ⟨1, 1, (.cons (.ret (.ite (.bin .eq (.var 0) (.cst (.str [109, 111, 118, 101, 100]))) (.lst (.cons (.cst (.str [101, 110, 100, 115])) (.cons (.cst (.str [115, 116, 97, 121, 115])) .nil))) (.lst (.cons (.cst (.bl false)) (.cons (.cst (.bl true)) .nil)))))
    .nil)⟩
/-- is_same: one, other -/
def p_is_same : FDef := ⟨2, 2, (.cons (.ifs (.or (.un (.isi .bool) (.var 0)) (.un (.isi .bool) (.var 1)))
    (.cons (.ret (.and (.un (.isi .bool) (.var 0)) (.and (.un (.isi .bool) (.var 1)) (.bin .eq (.var 0) (.var 1)))))
    .nil)
    .nil)
    (.cons (.ifs (.or (.un (.isi .int) (.var 0)) (.un (.isi .int) (.var 1)))
    (.cons (.ret (.and (.un (.isi .int) (.var 0)) (.and (.un (.isi .int) (.var 1)) (.bin .eq (.var 0) (.var 1)))))
    .nil)
    .nil)
    (.cons (.ret (.and (.un (.isi .str) (.var 0)) (.and (.un (.isi .str) (.var 1)) (.bin .eq (.var 0) (.var 1)))))
    .nil)))⟩
/-- is_rule: value, part, one, other -/
def p_is_rule : FDef := ⟨1, 4, (.cons (.ifs (.or (.not (.un (.isi .tuple) (.var 0))) (.bin .ne (.un .len (.var 0)) (.un .len (.glb 0))))
    (.cons (.ret (.cst (.bl false)))
    .nil)
    .nil)
    (.cons (.for (.tp [1, 2]) (.zip (.glb 0) (.var 0))
    (.cons (.ifs (.not (.un .any (.lc false (.nm 3) (.call 2 (.cons (.var 2) (.cons (.var 3) .nil))) (.seq (.call 0 (.cons (.var 1) .nil))) (.cst (.bl true)))))
    (.cons (.ret (.cst (.bl false)))
    .nil)
    .nil)
    .nil))
    (.cons (.ret (.or (.bin .eq (.bin .idx (.var 0) (.cst (.int 4))) (.cst (.int 0))) (.bin .ge (.bin .idx (.var 0) (.cst (.int 4))) (.bin .idx (.var 0) (.cst (.int 0))))))
    .nil)))⟩
/-- is_event: value, event -/
def p_is_event : FDef := ⟨1, 2, (.cons (.ret (.and (.un (.isi .tuple) (.var 0)) (.un .any (.lc false (.nm 1) (.bin .eq (.var 0) (.var 1)) (.seq (.glb 1)) (.cst (.bl true))))))
    .nil)⟩
/-- are_events: value, event -/
def p_are_events : FDef := ⟨1, 2, (.cons (.ret (.and (.un (.isi .tuple) (.var 0)) (.and (.bin .le (.un .len (.var 0)) (.glb 2)) (.un .all (.lc false (.nm 1) (.call 4 (.cons (.var 1) .nil)) (.seq (.var 0)) (.cst (.bl true)))))))
    .nil)⟩
/-- need_rule: rule -/
def p_need_rule : FDef := ⟨1, 1, (.cons (.ifs (.not (.call 3 (.cons (.var 0) .nil)))
    (.cons (.rse 1 .nil)
    .nil)
    .nil)
    .nil)⟩
/-- need_row: row -/
def p_need_row : FDef := ⟨1, 1, (.cons (.ifs (.not (.call 5 (.cons (.var 0) .nil)))
    (.cons (.rse 2 .nil)
    .nil)
    .nil)
    .nil)⟩
/-- need_part: part -/
def p_need_part : FDef := ⟨1, 1, (.cons (.ifs (.or (.not (.un (.isi .str) (.var 0))) (.bin .nmem (.var 0) (.glb 0)))
    (.cons (.rse 9 .nil)
    .nil)
    .nil)
    .nil)⟩
/-- with_part: rule, part, value, at -/
def p_with_part : FDef := ⟨3, 4, (.cons (.asg 3 (.un (.tix 0 [[99, 111, 118, 101, 114], [98, 111, 100, 121], [112, 97, 114, 116], [111, 119, 110], [99, 97, 112], [108, 111, 111, 107, 115], [109, 111, 118, 101, 100], [97, 108, 105, 101, 110], [98, 97, 99, 107]]) (.var 1)))
    (.cons (.ret (.bin .add (.bin .add (.slc (.var 0) .no (.var 3)) (.tup (.cons (.var 2) .nil))) (.slc (.var 0) (.bin .add (.var 3) (.cst (.int 1))) .no)))
    .nil))⟩
/-- rules_near: rule, found, part, old, other, value -/
def p_rules_near : FDef := ⟨1, 6, (.cons (.asg 1 (.lst .nil))
    (.cons (.for (.tp [2, 3]) (.zip (.glb 0) (.var 0))
    (.cons (.asg 1 (.bin .add (.var 1) (.lc false (.nm 5) (.call 8 (.cons (.var 0) (.cons (.var 2) (.cons (.var 5) .nil)))) (.seq (.call 0 (.cons (.var 2) .nil))) (.not (.call 2 (.cons (.var 5) (.cons (.var 3) .nil)))))))
    .nil))
    (.cons (.ret (.un .sorted (.lc false (.nm 4) (.var 4) (.seq (.var 1)) (.call 3 (.cons (.var 4) .nil)))))
    .nil)))⟩
/-- begin: rule -/
def p_begin : FDef := ⟨1, 1, (.cons (.ret (.tup (.cons (.cst (.int 0)) (.cons (.bin .idx (.var 0) (.cst (.int 0))) (.cons (.tup (.cons (.cst (.str [102, 105, 114, 115, 116])) (.cons (.cst (.int 0)) (.cons (.cst (.str [103, 111, 111, 100])) .nil)))) (.cons (.cst .non) .nil))))))
    .nil)⟩
/-- changed: rule, age, left, word -/
def p_changed : FDef := ⟨4, 4, (.cons (.ifs (.bin .mem (.var 3) (.tup (.cons (.cst (.str [97, 110, 101, 119])) (.cons (.cst (.str [110, 101, 119])) .nil))))
    (.cons (.asg 2 (.bin .idx (.var 0) (.cst (.int 0))))
    .nil)
    (.cons (.ifs (.bin .eq (.var 3) (.cst (.str [108, 111, 110, 103, 101, 114])))
    (.cons (.asg 2 (.bin .min2 (.bin .add (.var 2) (.cst (.int 1))) (.bin .idx (.var 0) (.cst (.int 0)))))
    .nil)
    .nil)
    .nil))
    (.cons (.ret (.ite (.bin .eq (.bin .idx (.var 0) (.cst (.int 4))) (.cst (.int 0))) (.var 2) (.bin .min2 (.var 2) (.bin .sub (.bin .idx (.var 0) (.cst (.int 4))) (.var 1)))))
    .nil))⟩
/-- is_covered: rule, left, part, by_thing, by_own -/
def p_is_covered : FDef := ⟨3, 5, (.cons (.asg 3 (.and (.bin .gt (.var 1) (.cst (.int 0))) (.or (.bin .ne (.bin .idx (.var 2) (.cst (.int 0))) (.cst (.str [97, 108, 105, 101, 110]))) (.bin .idx (.var 0) (.cst (.int 7))))))
    (.cons (.asg 4 (.bin .gt (.bin .idx (.var 2) (.cst (.int 1))) (.cst (.int 0))))
    (.cons (.ifs (.bin .eq (.bin .idx (.var 0) (.cst (.int 5))) (.cst (.str [102, 105, 114, 115, 116])))
    (.cons (.ret (.ite (.bin .eq (.bin .idx (.var 2) (.cst (.int 0))) (.cst (.str [99, 97, 109, 101]))) (.var 4) (.var 3)))
    .nil)
    .nil)
    (.cons (.ret (.or (.var 3) (.and (.bin .eq (.bin .idx (.var 0) (.cst (.int 5))) (.cst (.str [101, 105, 116, 104, 101, 114]))) (.var 4))))
    .nil))))⟩
/-- moved: rule, part -/
def p_moved : FDef := ⟨2, 2, (.cons (.ret (.ite (.bin .eq (.bin .idx (.var 0) (.cst (.int 6))) (.cst (.str [115, 116, 97, 121, 115]))) (.var 1) (.tup (.cons (.bin .idx (.var 1) (.cst (.int 0))) (.cons (.cst (.int 0)) (.cons (.bin .idx (.var 1) (.cst (.int 2))) .nil))))))
    .nil)⟩
/-- day_older: part -/
def p_day_older : FDef := ⟨1, 1, (.cons (.ret (.ite (.un .isN (.var 0)) (.cst .non) (.tup (.cons (.bin .idx (.var 0) (.cst (.int 0))) (.cons (.bin .max2 (.cst (.int 0)) (.bin .sub (.bin .idx (.var 0) (.cst (.int 1))) (.cst (.int 1)))) (.cons (.bin .idx (.var 0) (.cst (.int 2))) .nil))))))
    .nil)⟩
/-- claimed: rule, stand, age, left, part, loose, old -/
def p_claimed : FDef := ⟨2, 7, (.cons (.unp [2, 3, 4, 5] (.var 1))
    (.cons (.ifs (.bin .eq (.bin .idx (.var 4) (.cst (.int 2))) (.cst (.str [103, 111, 111, 100])))
    (.cons (.ret (.tup (.cons (.var 1) (.cons (.cst (.str [110, 111, 116, 104, 105, 110, 103])) .nil))))
    .nil)
    .nil)
    (.cons (.ifs (.not (.call 14 (.cons (.var 0) (.cons (.var 3) (.cons (.var 4) .nil)))))
    (.cons (.ret (.tup (.cons (.var 1) (.cons (.cst (.str [114, 101, 102, 117, 115, 101, 100])) .nil))))
    .nil)
    .nil)
    (.cons (.ifs (.not (.bin .idx (.var 0) (.cst (.int 8))))
    (.cons (.asg 6 (.call 15 (.cons (.var 0) (.cons (.var 4) .nil))))
    (.cons (.asg 5 (.tup (.cons (.bin .idx (.var 6) (.cst (.int 0))) (.cons (.bin .idx (.var 6) (.cst (.int 1))) (.cons (.cst (.str [112, 97, 105, 100])) .nil)))))
    .nil))
    .nil)
    (.cons (.ret (.tup (.cons (.tup (.cons (.var 2) (.cons (.call 13 (.cons (.var 0) (.cons (.var 2) (.cons (.var 3) (.cons (.bin .idx (.var 0) (.cst (.int 2))) .nil))))) (.cons (.tup (.cons (.cst (.str [99, 97, 109, 101])) (.cons (.bin .idx (.var 0) (.cst (.int 3))) (.cons (.cst (.str [103, 111, 111, 100])) .nil)))) (.cons (.var 5) .nil))))) (.cons (.cst (.str [112, 97, 105, 100])) .nil))))
    .nil)))))⟩
/-- bodied: rule, stand, age, left, part, loose -/
def p_bodied : FDef := ⟨2, 6, (.cons (.unp [2, 3, 4, 5] (.var 1))
    (.cons (.ifs (.bin .eq (.var 3) (.cst (.int 0)))
    (.cons (.ret (.tup (.cons (.var 1) (.cons (.cst (.str [114, 101, 102, 117, 115, 101, 100])) .nil))))
    .nil)
    .nil)
    (.cons (.ifs (.bin .eq (.bin .idx (.var 0) (.cst (.int 1))) (.cst (.str [110, 101, 119])))
    (.cons (.asg 4 (.tup (.cons (.cst (.str [102, 105, 114, 115, 116])) (.cons (.cst (.int 0)) (.cons (.cst (.str [103, 111, 111, 100])) .nil)))))
    .nil)
    .nil)
    (.cons (.ret (.tup (.cons (.tup (.cons (.var 2) (.cons (.call 13 (.cons (.var 0) (.cons (.var 2) (.cons (.var 3) (.cons (.bin .idx (.var 0) (.cst (.int 1))) .nil))))) (.cons (.var 4) (.cons (.var 5) .nil))))) (.cons (.cst (.str [112, 97, 105, 100])) .nil))))
    .nil))))⟩
/-- a_day_later: rule, stand, age, left, part, loose -/
def p_a_day_later : FDef := ⟨2, 6, (.cons (.unp [2, 3, 4, 5] (.var 1))
    (.cons (.asg 2 (.ite (.bin .eq (.bin .idx (.var 0) (.cst (.int 4))) (.cst (.int 0))) (.var 2) (.bin .min2 (.bin .add (.var 2) (.cst (.int 1))) (.bin .idx (.var 0) (.cst (.int 4))))))
    (.cons (.ret (.tup (.cons (.var 2) (.cons (.bin .max2 (.cst (.int 0)) (.bin .sub (.var 3) (.cst (.int 1)))) (.cons (.call 16 (.cons (.var 4) .nil)) (.cons (.call 16 (.cons (.var 5) .nil)) .nil))))))
    .nil)))⟩
/-- step: rule, stand, event, word, there, age, left, part, loose -/
def p_step : FDef := ⟨3, 9, (.cons (.unp [5, 6, 7, 8] (.var 1))
    (.cons (.asg 3 (.bin .idx (.var 2) (.cst (.int 0))))
    (.cons (.ifs (.bin .eq (.var 3) (.cst (.str [98, 111, 100, 121])))
    (.cons (.ret (.call 18 (.cons (.var 0) (.cons (.var 1) .nil))))
    .nil)
    .nil)
    (.cons (.ifs (.bin .eq (.var 3) (.cst (.str [99, 108, 97, 105, 109])))
    (.cons (.ret (.call 17 (.cons (.var 0) (.cons (.var 1) .nil))))
    .nil)
    .nil)
    (.cons (.asg 4 (.var 1))
    (.cons (.ifs (.and (.bin .eq (.var 3) (.cst (.str [98, 114, 101, 97, 107]))) (.bin .eq (.bin .idx (.var 7) (.cst (.int 2))) (.cst (.str [103, 111, 111, 100]))))
    (.cons (.asg 4 (.tup (.cons (.var 5) (.cons (.var 6) (.cons (.tup (.cons (.bin .idx (.var 7) (.cst (.int 0))) (.cons (.bin .idx (.var 7) (.cst (.int 1))) (.cons (.cst (.str [98, 114, 111, 107, 101, 110])) .nil)))) (.cons (.var 8) .nil))))))
    .nil)
    .nil)
    (.cons (.ifs (.bin .eq (.var 3) (.cst (.str [100, 97, 121])))
    (.cons (.asg 4 (.call 19 (.cons (.var 0) (.cons (.var 1) .nil))))
    .nil)
    .nil)
    (.cons (.ifs (.bin .eq (.var 3) (.cst (.str [102, 101, 116, 99, 104])))
    (.cons (.asg 4 (.tup (.cons (.var 5) (.cons (.var 6) (.cons (.var 7) (.cons (.tup (.cons (.cst (.str [97, 108, 105, 101, 110])) (.cons (.cst (.int 0)) (.cons (.cst (.str [98, 114, 111, 107, 101, 110])) .nil)))) .nil))))))
    .nil)
    .nil)
    (.cons (.ifs (.and (.bin .eq (.var 3) (.cst (.str [112, 117, 116]))) (.un .notN (.var 8)))
    (.cons (.asg 4 (.tup (.cons (.var 5) (.cons (.var 6) (.cons (.call 15 (.cons (.var 0) (.cons (.var 8) .nil))) (.cons (.call 15 (.cons (.var 0) (.cons (.var 7) .nil))) .nil))))))
    .nil)
    .nil)
    (.cons (.ret (.tup (.cons (.var 4) (.cons (.ite (.or (.bin .eq (.var 3) (.cst (.str [100, 97, 121]))) (.bin .ne (.var 4) (.var 1))) (.cst (.str [100, 111, 110, 101])) (.cst (.str [110, 111, 116, 104, 105, 110, 103]))) .nil))))
    .nil))))))))))⟩
/-- led: rule, row, stand, found, event, one -/
def p_led : FDef := ⟨2, 6, (.cons (.asg 2 (.call 12 (.cons (.var 0) .nil)))
    (.cons (.asg 3 (.nls .nil))
    (.cons (.for (.nm 4) (.seq (.var 1))
    (.cons (.unp [2, 5] (.call 20 (.cons (.var 0) (.cons (.var 2) (.cons (.var 4) .nil)))))
    (.cons (.exp (.mth .app (.var 3) (.var 5)))
    .nil)))
    (.cons (.ret (.tup (.cons (.var 2) (.cons (.var 3) .nil))))
    .nil))))⟩
/-- word_of: value -/
def p_word_of : FDef := ⟨1, 1, (.cons (.ifs (.un (.isi .bool) (.var 0))
    (.cons (.ret (.ite (.var 0) (.cst (.str [121, 101, 115])) (.cst (.str [110, 111]))))
    .nil)
    .nil)
    (.cons (.ret (.un .str (.var 0)))
    .nil))⟩
/-- rule_line: rule, part, value -/
def p_rule_line : FDef := ⟨1, 3, (.cons (.ret (.mth .join (.cst (.str [44, 32])) (.lc false (.tp [1, 2]) (.bin .add (.bin .add (.var 1) (.cst (.str [32]))) (.call 26 (.cons (.var 2) .nil))) (.zip (.glb 0) (.var 0)) (.cst (.bl true)))))
    .nil)⟩
/-- values_in: text, pieces, found, part, piece, some, value -/
def p_values_in : FDef := ⟨1, 7, (.cons (.par 1 2 (.mth .split (.var 0) (.cst (.str [44, 32]))) (.tup .nil))
    (.cons (.ifs (.bin .ne (.un .len (.var 1)) (.un .len (.glb 0)))
    (.cons (.ret (.tup .nil))
    .nil)
    .nil)
    (.cons (.for (.tp [3, 4]) (.zip (.glb 0) (.var 1))
    (.cons (.asg 5 (.lc false (.nm 6) (.var 6) (.seq (.call 0 (.cons (.var 3) .nil))) (.bin .eq (.bin .add (.bin .add (.var 3) (.cst (.str [32]))) (.call 26 (.cons (.var 6) .nil))) (.var 4))))
    (.cons (.ifs (.bin .eq (.var 5) (.lst .nil))
    (.cons (.ret (.tup .nil))
    .nil)
    .nil)
    (.cons (.asg 2 (.bin .add (.var 2) (.tup (.cons (.bin .idx (.var 5) (.cst (.int 0))) .nil))))
    .nil))))
    (.cons (.ret (.var 2))
    .nil))))⟩
/-- read_rule: text, found -/
def p_read_rule : FDef := ⟨1, 2, (.cons (.asg 1 (.ite (.un (.isi .str) (.var 0)) (.call 29 (.cons (.var 0) .nil)) (.tup .nil)))
    (.cons (.ifs (.not (.call 3 (.cons (.var 1) .nil)))
    (.cons (.rse 7 (.cons (.un .int (.un (.isi .str) (.var 0))) .nil))
    .nil)
    .nil)
    (.cons (.ret (.var 1))
    .nil)))⟩
/-- Policy.__init__: self, cover, body, part, own, cap, looks, moved, alien, back, rule -/
def c_Policy_init : FDef := ⟨10, 11, (.cons (.asg 10 (.tup (.cons (.var 1) (.cons (.var 2) (.cons (.var 3) (.cons (.var 4) (.cons (.var 5) (.cons (.var 6) (.cons (.var 7) (.cons (.var 8) (.cons (.var 9) .nil)))))))))))
    (.cons (.exp (.call 6 (.cons (.var 10) .nil)))
    (.cons (.stf 50 0 0 (.var 10))
    .nil)))⟩
/-- Policy.of: cls, text -/
def c_Policy_of : FDef := ⟨2, 2, (.cons (.ret (.call 60 (.cons (.call 30 (.cons (.var 1) .nil)) .nil)))
    .nil)⟩
/-- Policy.rule: self -/
def c_Policy_rule : FDef := ⟨1, 1, (.cons (.ret (.un (.ifl 50 0) (.var 0)))
    .nil)⟩
/-- Policy.__getitem__: self, part -/
def c_Policy_getitem : FDef := ⟨2, 2, (.cons (.exp (.call 58 (.cons (.var 1) .nil)))
    (.cons (.ret (.bin .idx (.un (.ifl 50 0) (.var 0)) (.un (.tix 0 [[99, 111, 118, 101, 114], [98, 111, 100, 121], [112, 97, 114, 116], [111, 119, 110], [99, 97, 112], [108, 111, 111, 107, 115], [109, 111, 118, 101, 100], [97, 108, 105, 101, 110], [98, 97, 99, 107]]) (.var 1))))
    .nil))⟩
/-- Policy.having: self, part, value, rule -/
def c_Policy_having : FDef := ⟨3, 4, (.cons (.exp (.call 58 (.cons (.var 1) .nil)))
    (.cons (.asg 3 (.call 8 (.cons (.un (.ifl 50 0) (.var 0)) (.cons (.var 1) (.cons (.var 2) .nil)))))
    (.cons (.exp (.call 6 (.cons (.var 3) .nil)))
    (.cons (.ret (.call 60 (.cons (.var 3) .nil)))
    .nil))))⟩
/-- Policy.__call__: self, row -/
def c_Policy_call : FDef := ⟨2, 2, (.cons (.exp (.call 7 (.cons (.var 1) .nil)))
    (.cons (.ret (.bin .idx (.call 21 (.cons (.un (.ifl 50 0) (.var 0)) (.cons (.var 1) .nil))) (.cst (.int 1))))
    .nil))⟩
/-- Policy.__rshift__: self, row -/
def c_Policy_rshift : FDef := ⟨2, 2, (.cons (.exp (.call 7 (.cons (.var 1) .nil)))
    (.cons (.ret (.bin .idx (.call 21 (.cons (.un (.ifl 50 0) (.var 0)) (.cons (.var 1) .nil))) (.cst (.int 0))))
    .nil))⟩
/-- Policy.__contains__: self, value, one -/
def c_Policy_contains : FDef := ⟨2, 3, (.cons (.ret (.un .any (.lc false (.nm 2) (.call 2 (.cons (.var 1) (.cons (.var 2) .nil))) (.seq (.un (.ifl 50 0) (.var 0))) (.cst (.bl true)))))
    .nil)⟩
/-- Policy.__len__: self -/
def c_Policy_len : FDef := ⟨1, 1, (.cons (.ret (.un .len (.call 9 (.cons (.un (.ifl 50 0) (.var 0)) .nil))))
    .nil)⟩
/-- Policy.__str__: self -/
def c_Policy_str : FDef := ⟨1, 1, (.cons (.ret (.un .str (.call 27 (.cons (.un (.ifl 50 0) (.var 0)) .nil))))
    .nil)⟩
/-- Policy.__eq__: self, other -/
def c_Policy_eq : FDef := ⟨2, 2, (.cons (.ret (.and (.un (.isc 50) (.var 1)) (.bin .eq (.un (.ifl 50 0) (.var 0)) (.un (.ifl 50 0) (.var 1)))))
    .nil)⟩
/-- policy_of: rule, cover, body, part, own, cap, looks, moved, alien, back -/
def p_policy_of : FDef := ⟨1, 10, (.cons (.unp [1, 2, 3, 4, 5, 6, 7, 8, 9] (.var 0))
    (.cons (.ret (.mk 50 200 (.cons (.var 1) (.cons (.var 2) (.cons (.var 3) .nil))) (.cons (.var 4) (.cons (.var 5) (.cons (.var 6) (.cons (.var 7) (.cons (.var 8) (.cons (.var 9) .nil)))))) [none, none, none, none, none, none, none, none, none]))
    .nil))⟩
/-- _law_sack: _law_cell, _law_salt, _law_great -/
def l_law_sack : FDef := ⟨2, 3, (.cons (.asg 2 (.ite (.bin .ge (.var 0) (.bin .pow (.cst (.int 10)) (.cst (.int 18)))) (.bin .sub (.bin .fdiv (.var 0) (.cst (.int 2))) (.cst (.int 3))) (.cst (.int 0))))
    (.cons (.ret (.nls (.cons (.var 2) (.cons (.bin .add (.bin .mod (.un .int (.bin .add (.bin .mul (.var 0) (.cst (.int 37))) (.bin .mul (.cst (.int 8009)) (.var 1)))) (.cst (.int 1789569707))) (.cst (.int 4))) .nil))))
    .nil))⟩
/-- _law_grab: _law_sack_here, _law_many, _law_deep, _law_found -/
def l_law_grab : FDef := ⟨2, 4, (.cons (.ifs (.bin .gt (.bin .idx (.var 0) (.cst (.int 0))) (.cst (.int 0)))
    (.cons (.asg 3 (.bin .mod (.un .int (.bin .idx (.var 0) (.cst (.int 0)))) (.var 1)))
    (.cons (.sto 0 (.cst (.int 0)) (.bin .fdiv (.bin .idx (.var 0) (.cst (.int 0))) (.var 1)))
    (.cons (.ret (.var 3))
    .nil)))
    .nil)
    (.cons (.sto 0 (.cst (.int 1)) (.bin .mod (.un .int (.bin .add (.bin .mul (.bin .idx (.var 0) (.cst (.int 1))) (.cst (.int 69069))) (.cst (.int 362437)))) (.cst (.int 2147483423))))
    (.cons (.asg 2 (.bin .mod (.un .int (.bin .mul (.bin .idx (.var 0) (.cst (.int 1))) (.bin .add (.bin .idx (.var 0) (.cst (.int 1))) (.cst (.int 53))))) (.cst (.int 2147483399))))
    (.cons (.ret (.bin .mod (.un .int (.bin .fdiv (.var 2) (.cst (.int 881)))) (.var 1)))
    .nil))))⟩
/-- _law_one_of: _law_sack_here, _law_things -/
def l_law_one_of : FDef := ⟨2, 2, (.cons (.ret (.bin .idx (.var 1) (.call 1001 (.cons (.var 0) (.cons (.un .len (.var 1)) .nil)))))
    .nil)⟩
/-- _law_values: _law_found -/
def l_law_values : FDef := ⟨0, 1, (.cons (.asg 0 (.lst (.cons (.lst (.cons (.cst (.int 1)) (.cons (.cst (.int 2)) (.cons (.cst (.int 3)) (.cons (.cst (.int 4)) .nil))))) (.cons (.lst (.cons (.cst (.str [97, 110, 101, 119])) (.cons (.cst (.str [108, 111, 110, 103, 101, 114])) (.cons (.cst (.str [110, 101, 119])) (.cons (.cst (.str [115, 97, 109, 101])) .nil))))) (.cons (.lst (.cons (.cst (.str [97, 110, 101, 119])) (.cons (.cst (.str [108, 111, 110, 103, 101, 114])) (.cons (.cst (.str [115, 97, 109, 101])) .nil)))) (.cons (.lst (.cons (.cst (.int 0)) (.cons (.cst (.int 1)) (.cons (.cst (.int 2)) (.cons (.cst (.int 3)) .nil))))) .nil))))))
    (.cons (.asg 0 (.bin .add (.var 0) (.lst (.cons (.lst (.cons (.cst (.int 0)) (.cons (.cst (.int 1)) (.cons (.cst (.int 2)) (.cons (.cst (.int 3)) (.cons (.cst (.int 4)) (.cons (.cst (.int 5)) (.cons (.cst (.int 6)) (.cons (.cst (.int 7)) (.cons (.cst (.int 8)) .nil)))))))))) (.cons (.lst (.cons (.cst (.str [101, 105, 116, 104, 101, 114])) (.cons (.cst (.str [102, 105, 114, 115, 116])) (.cons (.cst (.str [116, 104, 105, 110, 103])) .nil)))) (.cons (.lst (.cons (.cst (.str [101, 110, 100, 115])) (.cons (.cst (.str [115, 116, 97, 121, 115])) .nil))) .nil))))))
    (.cons (.ret (.bin .add (.var 0) (.lst (.cons (.lst (.cons (.cst (.bl false)) (.cons (.cst (.bl true)) .nil))) (.cons (.lst (.cons (.cst (.bl false)) (.cons (.cst (.bl true)) .nil))) .nil)))))
    .nil)))⟩
/-- _law_rule: _law_sack_here, _law_found, _law_some -/
def l_law_rule : FDef := ⟨1, 3, (.cons (.asg 1 (.lc true (.nm 2) (.call 1002 (.cons (.var 0) (.cons (.var 2) .nil))) (.seq (.call0 1003)) (.cst (.bl true))))
    (.cons (.ifs (.chn .lt .lt (.cst (.int 0)) (.bin .idx (.var 1) (.cst (.int 4))) (.bin .idx (.var 1) (.cst (.int 0))))
    (.cons (.sto 1 (.cst (.int 4)) (.bin .idx (.var 1) (.cst (.int 0))))
    .nil)
    .nil)
    (.cons (.ret (.un .tuple (.var 1)))
    .nil)))⟩
/-- _law_events:  -/
def l_law_events : FDef := ⟨0, 0, (.cons (.ret (.lst (.cons (.tup (.cons (.cst (.str [98, 111, 100, 121])) .nil)) (.cons (.tup (.cons (.cst (.str [98, 114, 101, 97, 107])) .nil)) (.cons (.tup (.cons (.cst (.str [99, 108, 97, 105, 109])) .nil)) (.cons (.tup (.cons (.cst (.str [100, 97, 121])) .nil)) (.cons (.tup (.cons (.cst (.str [102, 101, 116, 99, 104])) .nil)) (.cons (.tup (.cons (.cst (.str [112, 117, 116])) .nil)) .nil))))))))
    .nil)⟩
/-- _law_row: _law_sack_here, _law_most, _law_some, _law_turn -/
def l_law_row : FDef := ⟨2, 4, (.cons (.asg 2 (.bin .add (.call0 1005) (.lst (.cons (.tup (.cons (.cst (.str [98, 114, 101, 97, 107])) .nil)) (.cons (.tup (.cons (.cst (.str [99, 108, 97, 105, 109])) .nil)) (.cons (.tup (.cons (.cst (.str [99, 108, 97, 105, 109])) .nil)) (.cons (.tup (.cons (.cst (.str [100, 97, 121])) .nil)) (.cons (.tup (.cons (.cst (.str [112, 117, 116])) .nil)) .nil))))))))
    (.cons (.ret (.un .tuple (.lc false (.nm 3) (.call 1002 (.cons (.var 0) (.cons (.var 2) .nil))) (.rng (.call 1001 (.cons (.var 0) (.cons (.bin .add (.var 1) (.cst (.int 1))) .nil)))) (.cst (.bl true)))))
    .nil))⟩
/-- _law_line: _law_rule_here, _law_at, _law_names, _law_found, _law_word -/
def l_law_line : FDef := ⟨1, 5, (.cons (.par 2 3 (.mth .split (.cst (.str [99, 111, 118, 101, 114, 32, 98, 111, 100, 121, 32, 112, 97, 114, 116, 32, 111, 119, 110, 32, 99, 97, 112, 32, 108, 111, 111, 107, 115, 32, 109, 111, 118, 101, 100, 32, 97, 108, 105, 101, 110, 32, 98, 97, 99, 107])) (.cst (.str [32]))) (.nls .nil))
    (.cons (.for (.nm 1) (.rng (.cst (.int 9)))
    (.cons (.asg 4 (.bin .idx (.var 0) (.var 1)))
    (.cons (.ifs (.un (.isi .bool) (.var 4))
    (.cons (.asg 4 (.ite (.var 4) (.cst (.str [121, 101, 115])) (.cst (.str [110, 111]))))
    .nil)
    .nil)
    (.cons (.exp (.mth .app (.var 3) (.bin .add (.bin .add (.bin .idx (.var 2) (.var 1)) (.cst (.str [32]))) (.un .str (.var 4)))))
    .nil))))
    (.cons (.ret (.mth .join (.cst (.str [44, 32])) (.var 3)))
    .nil)))⟩
/-- law: _law_script, _law_cell, _law_sack_here, _law_rule_here, _law_policy, _law_turn, _law_at, _law_name, _law_turned, _law_whole, _law_kept, _law_one, _law_other, _law_word, _law_event -/
def l_law : FDef := ⟨1, 15, (.cons (.for (.nm 1) (.seq (.slc (.bin .add (.lst (.cons (.cst (.int 0)) .nil)) (.var 0)) .no (.cst (.int 5))))
    (.cons (.asg 2 (.call 1000 (.cons (.var 1) (.cons (.cst (.int 75)) .nil))))
    (.cons (.asg 3 (.call 1004 (.cons (.var 2) .nil)))
    (.cons (.asg 4 (.opc .clsm 50 201 (.cst .non) (.cons (.call 1029 (.cons (.var 3) .nil)) .nil)))
    (.cons (.for (.nm 5) (.rng (.cst (.int 5)))
    (.cons (.par 11 12 (.call 1006 (.cons (.var 2) (.cons (.cst (.int 25)) .nil))) (.call 1006 (.cons (.var 2) (.cons (.cst (.int 25)) .nil))))
    (.cons (.asg 9 (.opc .call 50 205 (.var 4) (.cons (.bin .add (.var 11) (.var 12)) .nil)))
    (.cons (.ifs (.or (.bin .ne (.slc (.var 9) .no (.un .len (.var 11))) (.opc .call 50 205 (.var 4) (.cons (.var 11) .nil))) (.bin .ne (.un .len (.var 9)) (.bin .add (.un .len (.var 11)) (.un .len (.var 12)))))
    (.cons (.ret (.cst (.bl false)))
    .nil)
    .nil)
    (.cons (.asg 10 (.un .tuple (.lc false (.tp [14, 13]) (.var 14) (.zip (.bin .add (.var 11) (.var 12)) (.var 9)) (.bin .mem (.var 13) (.tup (.cons (.cst (.str [100, 111, 110, 101])) (.cons (.cst (.str [112, 97, 105, 100])) .nil)))))))
    (.cons (.ifs (.bin .ne (.op2 .shr 50 206 (.var 4) (.var 10)) (.op2 .shr 50 206 (.var 4) (.bin .add (.var 11) (.var 12))))
    (.cons (.ret (.cst (.bl false)))
    .nil)
    .nil)
    (.cons (.ifs (.bin .ne (.lc false (.nm 13) (.var 13) (.seq (.opc .call 50 205 (.var 4) (.cons (.var 10) .nil))) (.bin .mem (.var 13) (.tup (.cons (.cst (.str [114, 101, 102, 117, 115, 101, 100])) (.cons (.cst (.str [110, 111, 116, 104, 105, 110, 103])) .nil))))) (.lst .nil))
    (.cons (.ret (.cst (.bl false)))
    .nil)
    .nil)
    (.cons (.for (.nm 6) (.rng (.un .len (.var 11)))
    (.cons (.ifs (.and (.bin .mem (.bin .idx (.opc .call 50 205 (.var 4) (.cons (.var 11) .nil)) (.var 6)) (.tup (.cons (.cst (.str [114, 101, 102, 117, 115, 101, 100])) (.cons (.cst (.str [110, 111, 116, 104, 105, 110, 103])) .nil)))) (.bin .ne (.op2 .shr 50 206 (.var 4) (.slc (.var 11) .no (.bin .add (.var 6) (.cst (.int 1))))) (.op2 .shr 50 206 (.var 4) (.slc (.var 11) .no (.var 6)))))
    (.cons (.ret (.cst (.bl false)))
    .nil)
    .nil)
    .nil))
    .nil))))))))
    (.cons (.asg 6 (.bin .add (.cst (.int 5)) (.call 1001 (.cons (.var 2) (.cons (.cst (.int 4)) .nil)))))
    (.cons (.asg 7 (.bin .idx (.lst (.cons (.cst (.str [108, 111, 111, 107, 115])) (.cons (.cst (.str [109, 111, 118, 101, 100])) (.cons (.cst (.str [97, 108, 105, 101, 110])) (.cons (.cst (.str [98, 97, 99, 107])) .nil))))) (.bin .sub (.var 6) (.cst (.int 5)))))
    (.cons (.asg 8 (.opc .meth 50 204 (.var 4) (.cons (.var 7) (.cons (.call 1002 (.cons (.var 2) (.cons (.bin .idx (.call0 1003) (.var 6)) .nil))) .nil))))
    (.cons (.ifs (.or (.not (.op2 .eq 50 212 (.opc .meth 50 204 (.var 8) (.cons (.var 7) (.cons (.bin .idx (.var 3) (.var 6)) .nil))) (.var 4))) (.bin .ne (.opc .prop 50 202 (.var 4) .nil) (.var 3)))
    (.cons (.ret (.cst (.bl false)))
    .nil)
    .nil)
    (.cons (.ifs (.not (.op2 .eq 50 212 (.opc .clsm 50 201 (.cst .non) (.cons (.opc .strO 50 211 (.var 8) .nil) .nil)) (.var 8)))
    (.cons (.ret (.cst (.bl false)))
    .nil)
    .nil)
    .nil))))))))))
    (.cons (.ret (.cst (.bl true)))
    .nil))⟩
def top (i : Nat) : Stmt := PySem.Challenge.pw_coveranew_k13_whole_policies_and_rows.main.body.getD i (.Pass ⟨0, 0, 0, 0⟩)
def topM (i j : Nat) : Stmt := match top i with | .ClassDef _ _ _ b _ _ _ _ _ _ _ => b.getD j (.Pass ⟨0, 0, 0, 0⟩) | s => s
def mkDf (s : Stmt) (qn : Str) (N ps : List Str) : Df := ⟨defName s, qn, defArgs s, defBody s, defScope s, N, ps⟩
def tab : List (Nat × FDef) := [(0, p_values_of), (1, p_two_of), (2, p_is_same), (3, p_is_rule), (4, p_is_event), (5, p_are_events), (6, p_need_rule), (7, p_need_row), (58, p_need_part), (8, p_with_part), (9, p_rules_near), (12, p_begin), (13, p_changed), (14, p_is_covered), (15, p_moved), (16, p_day_older), (17, p_claimed), (18, p_bodied), (19, p_a_day_later), (20, p_step), (21, p_led), (26, p_word_of), (27, p_rule_line), (29, p_values_in), (30, p_read_rule), (200, c_Policy_init), (201, c_Policy_of), (202, c_Policy_rule), (203, c_Policy_getitem), (204, c_Policy_having), (205, c_Policy_call), (206, c_Policy_rshift), (208, c_Policy_contains), (209, c_Policy_len), (211, c_Policy_str), (212, c_Policy_eq), (60, p_policy_of), (1000, l_law_sack), (1001, l_law_grab), (1002, l_law_one_of), (1003, l_law_values), (1004, l_law_rule), (1005, l_law_events), (1006, l_law_row), (1029, l_law_line), (1999, l_law)]
def T (f : Nat) : FDef := (tab.lookup f).getD ⟨0, 0, .nil⟩
def d_p_values_of : Df := mkDf (top 11) ("values_of" : Str) [("part" : Str), ("numbers" : Str), ("words" : Str), ("low" : Str), ("high" : Str)] [("part" : Str)]
def d_p_two_of : Df := mkDf (top 12) ("two_of" : Str) [("part" : Str)] [("part" : Str)]
def d_p_is_same : Df := mkDf (top 13) ("is_same" : Str) [("one" : Str), ("other" : Str)] [("one" : Str), ("other" : Str)]
def d_p_is_rule : Df := mkDf (top 14) ("is_rule" : Str) [("value" : Str), ("part" : Str), ("one" : Str), ("other" : Str)] [("value" : Str)]
def d_p_is_event : Df := mkDf (top 15) ("is_event" : Str) [("value" : Str), ("event" : Str)] [("value" : Str)]
def d_p_are_events : Df := mkDf (top 16) ("are_events" : Str) [("value" : Str), ("event" : Str)] [("value" : Str)]
def d_p_need_rule : Df := mkDf (top 17) ("need_rule" : Str) [("rule" : Str)] [("rule" : Str)]
def d_p_need_row : Df := mkDf (top 18) ("need_row" : Str) [("row" : Str)] [("row" : Str)]
def d_p_need_part : Df := mkDf (top 19) ("need_part" : Str) [("part" : Str)] [("part" : Str)]
def d_p_with_part : Df := mkDf (top 20) ("with_part" : Str) [("rule" : Str), ("part" : Str), ("value" : Str), ("at" : Str)] [("rule" : Str), ("part" : Str), ("value" : Str)]
def d_p_rules_near : Df := mkDf (top 21) ("rules_near" : Str) [("rule" : Str), ("found" : Str), ("part" : Str), ("old" : Str), ("other" : Str), ("value" : Str)] [("rule" : Str)]
def d_p_begin : Df := mkDf (top 23) ("begin" : Str) [("rule" : Str)] [("rule" : Str)]
def d_p_changed : Df := mkDf (top 24) ("changed" : Str) [("rule" : Str), ("age" : Str), ("left" : Str), ("word" : Str)] [("rule" : Str), ("age" : Str), ("left" : Str), ("word" : Str)]
def d_p_is_covered : Df := mkDf (top 25) ("is_covered" : Str) [("rule" : Str), ("left" : Str), ("part" : Str), ("by_thing" : Str), ("by_own" : Str)] [("rule" : Str), ("left" : Str), ("part" : Str)]
def d_p_moved : Df := mkDf (top 26) ("moved" : Str) [("rule" : Str), ("part" : Str)] [("rule" : Str), ("part" : Str)]
def d_p_day_older : Df := mkDf (top 27) ("day_older" : Str) [("part" : Str)] [("part" : Str)]
def d_p_claimed : Df := mkDf (top 28) ("claimed" : Str) [("rule" : Str), ("stand" : Str), ("age" : Str), ("left" : Str), ("part" : Str), ("loose" : Str), ("old" : Str)] [("rule" : Str), ("stand" : Str)]
def d_p_bodied : Df := mkDf (top 29) ("bodied" : Str) [("rule" : Str), ("stand" : Str), ("age" : Str), ("left" : Str), ("part" : Str), ("loose" : Str)] [("rule" : Str), ("stand" : Str)]
def d_p_a_day_later : Df := mkDf (top 30) ("a_day_later" : Str) [("rule" : Str), ("stand" : Str), ("age" : Str), ("left" : Str), ("part" : Str), ("loose" : Str)] [("rule" : Str), ("stand" : Str)]
def d_p_step : Df := mkDf (top 31) ("step" : Str) [("rule" : Str), ("stand" : Str), ("event" : Str), ("word" : Str), ("there" : Str), ("age" : Str), ("left" : Str), ("part" : Str), ("loose" : Str)] [("rule" : Str), ("stand" : Str), ("event" : Str)]
def d_p_led : Df := mkDf (top 32) ("led" : Str) [("rule" : Str), ("row" : Str), ("stand" : Str), ("found" : Str), ("event" : Str), ("one" : Str)] [("rule" : Str), ("row" : Str)]
def d_p_word_of : Df := mkDf (top 34) ("word_of" : Str) [("value" : Str)] [("value" : Str)]
def d_p_rule_line : Df := mkDf (top 35) ("rule_line" : Str) [("rule" : Str), ("part" : Str), ("value" : Str)] [("rule" : Str)]
def d_p_values_in : Df := mkDf (top 36) ("values_in" : Str) [("text" : Str), ("pieces" : Str), ("found" : Str), ("part" : Str), ("piece" : Str), ("some" : Str), ("value" : Str)] [("text" : Str)]
def d_p_read_rule : Df := mkDf (top 37) ("read_rule" : Str) [("text" : Str), ("found" : Str)] [("text" : Str)]
def d_c_Policy_init : Df := mkDf (topM 39 1) ("Policy.__init__" : Str) [("self" : Str), ("cover" : Str), ("body" : Str), ("part" : Str), ("own" : Str), ("cap" : Str), ("looks" : Str), ("moved" : Str), ("alien" : Str), ("back" : Str), ("rule" : Str)] [("self" : Str), ("cover" : Str), ("body" : Str), ("part" : Str), ("own" : Str), ("cap" : Str), ("looks" : Str), ("moved" : Str), ("alien" : Str), ("back" : Str)]
def d_c_Policy_of : Df := mkDf (topM 39 2) ("Policy.of" : Str) [("cls" : Str), ("text" : Str)] [("cls" : Str), ("text" : Str)]
def d_c_Policy_rule : Df := mkDf (topM 39 3) ("Policy.rule" : Str) [("self" : Str)] [("self" : Str)]
def d_c_Policy_getitem : Df := mkDf (topM 39 4) ("Policy.__getitem__" : Str) [("self" : Str), ("part" : Str)] [("self" : Str), ("part" : Str)]
def d_c_Policy_having : Df := mkDf (topM 39 5) ("Policy.having" : Str) [("self" : Str), ("part" : Str), ("value" : Str), ("rule" : Str)] [("self" : Str), ("part" : Str), ("value" : Str)]
def d_c_Policy_call : Df := mkDf (topM 39 6) ("Policy.__call__" : Str) [("self" : Str), ("row" : Str)] [("self" : Str), ("row" : Str)]
def d_c_Policy_rshift : Df := mkDf (topM 39 7) ("Policy.__rshift__" : Str) [("self" : Str), ("row" : Str)] [("self" : Str), ("row" : Str)]
def d_c_Policy_contains : Df := mkDf (topM 39 9) ("Policy.__contains__" : Str) [("self" : Str), ("value" : Str), ("one" : Str)] [("self" : Str), ("value" : Str)]
def d_c_Policy_len : Df := mkDf (topM 39 10) ("Policy.__len__" : Str) [("self" : Str)] [("self" : Str)]
def d_c_Policy_str : Df := mkDf (topM 39 12) ("Policy.__str__" : Str) [("self" : Str)] [("self" : Str)]
def d_c_Policy_eq : Df := mkDf (topM 39 13) ("Policy.__eq__" : Str) [("self" : Str), ("other" : Str)] [("self" : Str), ("other" : Str)]
def d_p_policy_of : Df := mkDf (top 40) ("policy_of" : Str) [("rule" : Str), ("cover" : Str), ("body" : Str), ("part" : Str), ("own" : Str), ("cap" : Str), ("looks" : Str), ("moved" : Str), ("alien" : Str), ("back" : Str)] [("rule" : Str)]
def d_l_law_sack : Df := mkDf (top 42) ("_law_sack" : Str) [("_law_cell" : Str), ("_law_salt" : Str), ("_law_great" : Str)] [("_law_cell" : Str), ("_law_salt" : Str)]
def d_l_law_grab : Df := mkDf (top 43) ("_law_grab" : Str) [("_law_sack_here" : Str), ("_law_many" : Str), ("_law_deep" : Str), ("_law_found" : Str)] [("_law_sack_here" : Str), ("_law_many" : Str)]
def d_l_law_one_of : Df := mkDf (top 44) ("_law_one_of" : Str) [("_law_sack_here" : Str), ("_law_things" : Str)] [("_law_sack_here" : Str), ("_law_things" : Str)]
def d_l_law_values : Df := mkDf (top 45) ("_law_values" : Str) [("_law_found" : Str)] []
def d_l_law_rule : Df := mkDf (top 46) ("_law_rule" : Str) [("_law_sack_here" : Str), ("_law_found" : Str), ("_law_some" : Str)] [("_law_sack_here" : Str)]
def d_l_law_events : Df := mkDf (top 47) ("_law_events" : Str) [] []
def d_l_law_row : Df := mkDf (top 48) ("_law_row" : Str) [("_law_sack_here" : Str), ("_law_most" : Str), ("_law_some" : Str), ("_law_turn" : Str)] [("_law_sack_here" : Str), ("_law_most" : Str)]
def d_l_law_line : Df := mkDf (top 49) ("_law_line" : Str) [("_law_rule_here" : Str), ("_law_at" : Str), ("_law_names" : Str), ("_law_found" : Str), ("_law_word" : Str)] [("_law_rule_here" : Str)]
def d_l_law : Df := mkDf (top 50) ("law" : Str) [("_law_script" : Str), ("_law_cell" : Str), ("_law_sack_here" : Str), ("_law_rule_here" : Str), ("_law_policy" : Str), ("_law_turn" : Str), ("_law_at" : Str), ("_law_name" : Str), ("_law_turned" : Str), ("_law_whole" : Str), ("_law_kept" : Str), ("_law_one" : Str), ("_law_other" : Str), ("_law_word" : Str), ("_law_event" : Str)] [("_law_script" : Str)]
def dtab : List (Nat × Df) := [(0, d_p_values_of), (1, d_p_two_of), (2, d_p_is_same), (3, d_p_is_rule), (4, d_p_is_event), (5, d_p_are_events), (6, d_p_need_rule), (7, d_p_need_row), (58, d_p_need_part), (8, d_p_with_part), (9, d_p_rules_near), (12, d_p_begin), (13, d_p_changed), (14, d_p_is_covered), (15, d_p_moved), (16, d_p_day_older), (17, d_p_claimed), (18, d_p_bodied), (19, d_p_a_day_later), (20, d_p_step), (21, d_p_led), (26, d_p_word_of), (27, d_p_rule_line), (29, d_p_values_in), (30, d_p_read_rule), (200, d_c_Policy_init), (201, d_c_Policy_of), (202, d_c_Policy_rule), (203, d_c_Policy_getitem), (204, d_c_Policy_having), (205, d_c_Policy_call), (206, d_c_Policy_rshift), (208, d_c_Policy_contains), (209, d_c_Policy_len), (211, d_c_Policy_str), (212, d_c_Policy_eq), (60, d_p_policy_of), (1000, d_l_law_sack), (1001, d_l_law_grab), (1002, d_l_law_one_of), (1003, d_l_law_values), (1004, d_l_law_rule), (1005, d_l_law_events), (1006, d_l_law_row), (1029, d_l_law_line), (1999, d_l_law)]
def noDf : Df := ⟨Str.empty, Str.empty, ⟨[], [], none, [], [], none, []⟩, [], ⟨.function, [], false, false, []⟩, [], []⟩
def df (f : Nat) : Df := (dtab.lookup f).getD noDf
def whtab : List (Nat × Wh) := [(200, .ini 50), (201, .cm 50), (202, .prop 50), (203, .meth 50), (204, .meth 50), (205, .meth 50), (206, .meth 50), (208, .meth 50), (209, .meth 50), (211, .meth 50), (212, .meth 50)]
def wh (f : Nat) : Wh := (whtab.lookup f).getD .glo
def ids : List Nat := [0, 1, 2, 3, 4, 5, 6, 7, 58, 8, 9, 12, 13, 14, 15, 16, 17, 18, 19, 20, 21, 26, 27, 29, 30, 200, 201, 202, 203, 204, 205, 206, 208, 209, 211, 212, 60, 1000, 1001, 1002, 1003, 1004, 1005, 1006, 1029, 1999]
def dfltab : List (Nat × List He.Dv) := [(200, [(.str ("same" : Str)), (.str ("same" : Str))])]
def kwdtab : List (Nat × List (Str × He.Dv)) := [(200, [(("own" : Str), (.int 0)), (("cap" : Str), (.int 0)), (("looks" : Str), (.str ("either" : Str))), (("moved" : Str), (.str ("stays" : Str))), (("alien" : Str), (.bl false)), (("back" : Str), (.bl true))])]
def kbtab : List (Nat × List (Nat × List Str × List (Option Mp.D))) := [(200, [(3, [("own" : Str), ("cap" : Str), ("looks" : Str), ("moved" : Str), ("alien" : Str), ("back" : Str)], [none, none, none, none, none, none, none, none, none])])]
def gtab : List (Nat × Str × Mp.D) := [(0, ("PART_NAMES" : Str), (.tup [(.str [99, 111, 118, 101, 114]), (.str [98, 111, 100, 121]), (.str [112, 97, 114, 116]), (.str [111, 119, 110]), (.str [99, 97, 112]), (.str [108, 111, 111, 107, 115]), (.str [109, 111, 118, 101, 100]), (.str [97, 108, 105, 101, 110]), (.str [98, 97, 99, 107])])), (1, ("EVENTS" : Str), (.tup [(.tup [(.str [98, 111, 100, 121])]), (.tup [(.str [98, 114, 101, 97, 107])]), (.tup [(.str [99, 108, 97, 105, 109])]), (.tup [(.str [100, 97, 121])]), (.tup [(.str [102, 101, 116, 99, 104])]), (.tup [(.str [112, 117, 116])])])), (2, ("MOST_EVENTS" : Str), (.int 60)), (900, ("Policy.PARTS" : Str), (.tup [(.str [99, 111, 118, 101, 114]), (.str [98, 111, 100, 121]), (.str [112, 97, 114, 116]), (.str [111, 119, 110]), (.str [99, 97, 112]), (.str [108, 111, 111, 107, 115]), (.str [109, 111, 118, 101, 100]), (.str [97, 108, 105, 101, 110]), (.str [98, 97, 99, 107])]))]
def gv (i : Nat) : Mp.D := ((gtab.lookup i).map (·.2)).getD .non
def gn (i : Nat) : Str := ((gtab.lookup i).map (·.1)).getD Str.empty
def etab : List (Nat × Str) := [(0, ("CoverError" : Str)), (1, ("InvalidRule" : Str)), (2, ("InvalidRow" : Str)), (9, ("InvalidPart" : Str)), (7, ("WrongLine" : Str)), (50, ("Policy" : Str))]
def en (i : Nat) : Str := (etab.lookup i).getD Str.empty
def stab : List ((Nat × Nat) × Bool) := [((0, 0), true), ((0, 1), false), ((0, 2), false), ((0, 9), false), ((0, 7), false), ((1, 0), true), ((1, 1), true), ((1, 2), false), ((1, 9), false), ((1, 7), false), ((2, 0), true), ((2, 1), false), ((2, 2), true), ((2, 9), false), ((2, 7), false), ((9, 0), true), ((9, 1), false), ((9, 2), false), ((9, 9), true), ((9, 7), false), ((7, 0), true), ((7, 1), false), ((7, 2), false), ((7, 9), false), ((7, 7), true)]
def sub (x c : Nat) : Option Bool := stab.lookup (x, c)
def cftab : List (Nat × List Str) := [(50, [("whole" : Str)])]
def contab : List (Nat × Nat × Str) := [(900, 50, ("PARTS" : Str))]
def xktab : List (Nat × Str) := [(7, ("line" : Str))]
def xdtab : List (Nat × Df) := [(7, mkDf (topM 6 0) ("WrongLine.__init__" : Str) [] [("self" : Str), ("line" : Str)])]
def isttab : List (Option Nat × List (Nat × Bool)) := []
def md : Md := { T := T, df := df, wh := wh, ids := ids, dfl := fun f => (dfltab.lookup f).getD [], kwd := fun f => (kwdtab.lookup f).getD [], kbs := fun f => (kbtab.lookup f).getD [], gv := gv, gn := gn, gids := [0, 1, 2], en := en, eids := [0, 1, 2, 9], hds := [0, 1, 2, 9, 7], bls := [("len" : Str), ("min" : Str), ("max" : Str), ("any" : Str), ("all" : Str), ("isinstance" : Str), ("int" : Str), ("tuple" : Str), ("list" : Str), ("zip" : Str), ("range" : Str), ("enumerate" : Str), ("bool" : Str), ("str" : Str), ("sorted" : Str), ("dict" : Str), ("ValueError" : Str)], sub := sub, subs := stab.map (·.1), cids := [50], cf := fun c => (cftab.lookup c).getD [], con := fun g => contab.lookup g, cons := [900], xv := [], xi := [7], xk := fun c => xktab.lookup c, xd := fun c => (xdtab.lookup c).getD noDf, ist := fun t => (isttab.lookup t).getD [], ists := [] }
def loose1 : List Str := [("_wall" : Str), ("CoverError" : Str), ("InvalidRule" : Str), ("InvalidRow" : Str), ("InvalidPart" : Str), ("WrongLine" : Str), ("PART_NAMES" : Str), ("EVENTS" : Str), ("MOST_EVENTS" : Str), ("values_of" : Str), ("two_of" : Str), ("is_same" : Str), ("is_rule" : Str), ("is_event" : Str), ("are_events" : Str), ("need_rule" : Str), ("need_row" : Str), ("need_part" : Str), ("with_part" : Str), ("rules_near" : Str), ("begin" : Str), ("changed" : Str), ("is_covered" : Str), ("moved" : Str), ("day_older" : Str), ("claimed" : Str), ("bodied" : Str), ("a_day_later" : Str), ("step" : Str), ("led" : Str), ("word_of" : Str), ("rule_line" : Str), ("values_in" : Str), ("read_rule" : Str), ("Policy" : Str), ("policy_of" : Str), ("_law_sack" : Str), ("_law_grab" : Str), ("_law_one_of" : Str), ("_law_values" : Str)]
def loose2 : List Str := [("_law_rule" : Str), ("_law_events" : Str), ("_law_row" : Str), ("_law_line" : Str)]
def loose3 : List Str := []
def loose : List Str := loose1 ++ (loose2 ++ loose3)
abbrev R : PySem.W.OpenRow := PySem.W.OpenLaw.row PySem.Challenge.rw_coveranew_k13_whole_policies_and_rows
abbrev hk : PySem.W.Hook := hookY 6 md.fn [] md.ex
def ob (s : PySem.W.SharedT) : List He.FnW × Bool := obsY 6 md.fn [] md.ex (HandSHeadRun.getT s)
theorem ob_eq (s : PySem.W.SharedT) : ob s = hk.obs s.abs := obsY_eq (HandSHeadRun.getT_eq s)
theorem run (w : World) : HandSHeadRun.RunEq R (PySem.W.view R.prog [50]) hk ob 20000 loose w := by
  intro os
  kernel_rfl
theorem c_p_values_of : chkF md.nm (md.df 0) (md.T 0) = true := by decide +kernel
theorem c_p_two_of : chkF md.nm (md.df 1) (md.T 1) = true := by decide +kernel
theorem c_p_is_same : chkF md.nm (md.df 2) (md.T 2) = true := by decide +kernel
theorem c_p_is_rule : chkF md.nm (md.df 3) (md.T 3) = true := by decide +kernel
theorem c_p_is_event : chkF md.nm (md.df 4) (md.T 4) = true := by decide +kernel
theorem c_p_are_events : chkF md.nm (md.df 5) (md.T 5) = true := by decide +kernel
theorem c_p_need_rule : chkF md.nm (md.df 6) (md.T 6) = true := by decide +kernel
theorem c_p_need_row : chkF md.nm (md.df 7) (md.T 7) = true := by decide +kernel
theorem c_p_need_part : chkF md.nm (md.df 58) (md.T 58) = true := by decide +kernel
theorem c_p_with_part : chkF md.nm (md.df 8) (md.T 8) = true := by decide +kernel
theorem c_p_rules_near : chkF md.nm (md.df 9) (md.T 9) = true := by decide +kernel
theorem c_p_begin : chkF md.nm (md.df 12) (md.T 12) = true := by decide +kernel
theorem c_p_changed : chkF md.nm (md.df 13) (md.T 13) = true := by decide +kernel
theorem c_p_is_covered : chkF md.nm (md.df 14) (md.T 14) = true := by decide +kernel
theorem c_p_moved : chkF md.nm (md.df 15) (md.T 15) = true := by decide +kernel
theorem c_p_day_older : chkF md.nm (md.df 16) (md.T 16) = true := by decide +kernel
theorem c_p_claimed : chkF md.nm (md.df 17) (md.T 17) = true := by decide +kernel
theorem c_p_bodied : chkF md.nm (md.df 18) (md.T 18) = true := by decide +kernel
theorem c_p_a_day_later : chkF md.nm (md.df 19) (md.T 19) = true := by decide +kernel
theorem c_p_step : chkF md.nm (md.df 20) (md.T 20) = true := by decide +kernel
theorem c_p_led : chkF md.nm (md.df 21) (md.T 21) = true := by decide +kernel
theorem c_p_word_of : chkF md.nm (md.df 26) (md.T 26) = true := by decide +kernel
theorem c_p_rule_line : chkF md.nm (md.df 27) (md.T 27) = true := by decide +kernel
theorem c_p_values_in : chkF md.nm (md.df 29) (md.T 29) = true := by decide +kernel
theorem c_p_read_rule : chkF md.nm (md.df 30) (md.T 30) = true := by decide +kernel
theorem c_c_Policy_init : chkF md.nm (md.df 200) (md.T 200) = true := by decide +kernel
theorem c_c_Policy_of : chkF md.nm (md.df 201) (md.T 201) = true := by decide +kernel
theorem c_c_Policy_rule : chkF md.nm (md.df 202) (md.T 202) = true := by decide +kernel
theorem c_c_Policy_getitem : chkF md.nm (md.df 203) (md.T 203) = true := by decide +kernel
theorem c_c_Policy_having : chkF md.nm (md.df 204) (md.T 204) = true := by decide +kernel
theorem c_c_Policy_call : chkF md.nm (md.df 205) (md.T 205) = true := by decide +kernel
theorem c_c_Policy_rshift : chkF md.nm (md.df 206) (md.T 206) = true := by decide +kernel
theorem c_c_Policy_contains : chkF md.nm (md.df 208) (md.T 208) = true := by decide +kernel
theorem c_c_Policy_len : chkF md.nm (md.df 209) (md.T 209) = true := by decide +kernel
theorem c_c_Policy_str : chkF md.nm (md.df 211) (md.T 211) = true := by decide +kernel
theorem c_c_Policy_eq : chkF md.nm (md.df 212) (md.T 212) = true := by decide +kernel
theorem c_p_policy_of : chkF md.nm (md.df 60) (md.T 60) = true := by decide +kernel
theorem c_l_law_sack : chkF md.nm (md.df 1000) (md.T 1000) = true := by decide +kernel
theorem c_l_law_grab : chkF md.nm (md.df 1001) (md.T 1001) = true := by decide +kernel
theorem c_l_law_one_of : chkF md.nm (md.df 1002) (md.T 1002) = true := by decide +kernel
theorem c_l_law_values : chkF md.nm (md.df 1003) (md.T 1003) = true := by decide +kernel
theorem c_l_law_rule : chkF md.nm (md.df 1004) (md.T 1004) = true := by decide +kernel
theorem c_l_law_events : chkF md.nm (md.df 1005) (md.T 1005) = true := by decide +kernel
theorem c_l_law_row : chkF md.nm (md.df 1006) (md.T 1006) = true := by decide +kernel
theorem c_l_law_line : chkF md.nm (md.df 1029) (md.T 1029) = true := by decide +kernel
theorem c_l_law : chkF md.nm (md.df 1999) (md.T 1999) = true := by decide +kernel
theorem chk : md.ids.all (fun f => chkF md.nm (md.df f) (md.T f)) = true := by
  rw [List.all_eq_true]
  intro f hf
  have hf : f ∈ ids := hf
  simp only [ids, List.mem_cons, List.not_mem_nil, or_false] at hf
  rcases hf with rfl | rfl | rfl | rfl | rfl | rfl | rfl | rfl | rfl | rfl | rfl | rfl | rfl | rfl | rfl | rfl | rfl | rfl | rfl | rfl | rfl | rfl | rfl | rfl | rfl | rfl | rfl | rfl | rfl | rfl | rfl | rfl | rfl | rfl | rfl | rfl | rfl | rfl | rfl | rfl | rfl | rfl | rfl | rfl | rfl | rfl
  · exact c_p_values_of
  · exact c_p_two_of
  · exact c_p_is_same
  · exact c_p_is_rule
  · exact c_p_is_event
  · exact c_p_are_events
  · exact c_p_need_rule
  · exact c_p_need_row
  · exact c_p_need_part
  · exact c_p_with_part
  · exact c_p_rules_near
  · exact c_p_begin
  · exact c_p_changed
  · exact c_p_is_covered
  · exact c_p_moved
  · exact c_p_day_older
  · exact c_p_claimed
  · exact c_p_bodied
  · exact c_p_a_day_later
  · exact c_p_step
  · exact c_p_led
  · exact c_p_word_of
  · exact c_p_rule_line
  · exact c_p_values_in
  · exact c_p_read_rule
  · exact c_c_Policy_init
  · exact c_c_Policy_of
  · exact c_c_Policy_rule
  · exact c_c_Policy_getitem
  · exact c_c_Policy_having
  · exact c_c_Policy_call
  · exact c_c_Policy_rshift
  · exact c_c_Policy_contains
  · exact c_c_Policy_len
  · exact c_c_Policy_str
  · exact c_c_Policy_eq
  · exact c_p_policy_of
  · exact c_l_law_sack
  · exact c_l_law_grab
  · exact c_l_law_one_of
  · exact c_l_law_values
  · exact c_l_law_rule
  · exact c_l_law_events
  · exact c_l_law_row
  · exact c_l_law_line
  · exact c_l_law
theorem b_p_values_of : BindsP d_p_values_of := fun _ _ _ _ _ _ us hl => match us, hl with | [_], _ => rfl
theorem b_p_two_of : BindsP d_p_two_of := fun _ _ _ _ _ _ us hl => match us, hl with | [_], _ => rfl
theorem b_p_is_same : BindsP d_p_is_same := fun _ _ _ _ _ _ us hl => match us, hl with | [_, _], _ => rfl
theorem b_p_is_rule : BindsP d_p_is_rule := fun _ _ _ _ _ _ us hl => match us, hl with | [_], _ => rfl
theorem b_p_is_event : BindsP d_p_is_event := fun _ _ _ _ _ _ us hl => match us, hl with | [_], _ => rfl
theorem b_p_are_events : BindsP d_p_are_events := fun _ _ _ _ _ _ us hl => match us, hl with | [_], _ => rfl
theorem b_p_need_rule : BindsP d_p_need_rule := fun _ _ _ _ _ _ us hl => match us, hl with | [_], _ => rfl
theorem b_p_need_row : BindsP d_p_need_row := fun _ _ _ _ _ _ us hl => match us, hl with | [_], _ => rfl
theorem b_p_need_part : BindsP d_p_need_part := fun _ _ _ _ _ _ us hl => match us, hl with | [_], _ => rfl
theorem b_p_with_part : BindsP d_p_with_part := fun _ _ _ _ _ _ us hl => match us, hl with | [_, _, _], _ => rfl
theorem b_p_rules_near : BindsP d_p_rules_near := fun _ _ _ _ _ _ us hl => match us, hl with | [_], _ => rfl
theorem b_p_begin : BindsP d_p_begin := fun _ _ _ _ _ _ us hl => match us, hl with | [_], _ => rfl
theorem b_p_changed : BindsP d_p_changed := fun _ _ _ _ _ _ us hl => match us, hl with | [_, _, _, _], _ => rfl
theorem b_p_is_covered : BindsP d_p_is_covered := fun _ _ _ _ _ _ us hl => match us, hl with | [_, _, _], _ => rfl
theorem b_p_moved : BindsP d_p_moved := fun _ _ _ _ _ _ us hl => match us, hl with | [_, _], _ => rfl
theorem b_p_day_older : BindsP d_p_day_older := fun _ _ _ _ _ _ us hl => match us, hl with | [_], _ => rfl
theorem b_p_claimed : BindsP d_p_claimed := fun _ _ _ _ _ _ us hl => match us, hl with | [_, _], _ => rfl
theorem b_p_bodied : BindsP d_p_bodied := fun _ _ _ _ _ _ us hl => match us, hl with | [_, _], _ => rfl
theorem b_p_a_day_later : BindsP d_p_a_day_later := fun _ _ _ _ _ _ us hl => match us, hl with | [_, _], _ => rfl
theorem b_p_step : BindsP d_p_step := fun _ _ _ _ _ _ us hl => match us, hl with | [_, _, _], _ => rfl
theorem b_p_led : BindsP d_p_led := fun _ _ _ _ _ _ us hl => match us, hl with | [_, _], _ => rfl
theorem b_p_word_of : BindsP d_p_word_of := fun _ _ _ _ _ _ us hl => match us, hl with | [_], _ => rfl
theorem b_p_rule_line : BindsP d_p_rule_line := fun _ _ _ _ _ _ us hl => match us, hl with | [_], _ => rfl
theorem b_p_values_in : BindsP d_p_values_in := fun _ _ _ _ _ _ us hl => match us, hl with | [_], _ => rfl
theorem b_p_read_rule : BindsP d_p_read_rule := fun _ _ _ _ _ _ us hl => match us, hl with | [_], _ => rfl
theorem b_c_Policy_of : BindsP d_c_Policy_of := fun _ _ _ _ _ _ us hl => match us, hl with | [_, _], _ => rfl
theorem b_c_Policy_rule : BindsP d_c_Policy_rule := fun _ _ _ _ _ _ us hl => match us, hl with | [_], _ => rfl
theorem b_c_Policy_getitem : BindsP d_c_Policy_getitem := fun _ _ _ _ _ _ us hl => match us, hl with | [_, _], _ => rfl
theorem b_c_Policy_having : BindsP d_c_Policy_having := fun _ _ _ _ _ _ us hl => match us, hl with | [_, _, _], _ => rfl
theorem b_c_Policy_call : BindsP d_c_Policy_call := fun _ _ _ _ _ _ us hl => match us, hl with | [_, _], _ => rfl
theorem b_c_Policy_rshift : BindsP d_c_Policy_rshift := fun _ _ _ _ _ _ us hl => match us, hl with | [_, _], _ => rfl
theorem b_c_Policy_contains : BindsP d_c_Policy_contains := fun _ _ _ _ _ _ us hl => match us, hl with | [_, _], _ => rfl
theorem b_c_Policy_len : BindsP d_c_Policy_len := fun _ _ _ _ _ _ us hl => match us, hl with | [_], _ => rfl
theorem b_c_Policy_str : BindsP d_c_Policy_str := fun _ _ _ _ _ _ us hl => match us, hl with | [_], _ => rfl
theorem b_c_Policy_eq : BindsP d_c_Policy_eq := fun _ _ _ _ _ _ us hl => match us, hl with | [_, _], _ => rfl
theorem b_p_policy_of : BindsP d_p_policy_of := fun _ _ _ _ _ _ us hl => match us, hl with | [_], _ => rfl
theorem b_l_law_sack : BindsP d_l_law_sack := fun _ _ _ _ _ _ us hl => match us, hl with | [_, _], _ => rfl
theorem b_l_law_grab : BindsP d_l_law_grab := fun _ _ _ _ _ _ us hl => match us, hl with | [_, _], _ => rfl
theorem b_l_law_one_of : BindsP d_l_law_one_of := fun _ _ _ _ _ _ us hl => match us, hl with | [_, _], _ => rfl
theorem b_l_law_values : BindsP d_l_law_values := fun _ _ _ _ _ _ us hl => match us, hl with | [], _ => rfl
theorem b_l_law_rule : BindsP d_l_law_rule := fun _ _ _ _ _ _ us hl => match us, hl with | [_], _ => rfl
theorem b_l_law_events : BindsP d_l_law_events := fun _ _ _ _ _ _ us hl => match us, hl with | [], _ => rfl
theorem b_l_law_row : BindsP d_l_law_row := fun _ _ _ _ _ _ us hl => match us, hl with | [_, _], _ => rfl
theorem b_l_law_line : BindsP d_l_law_line := fun _ _ _ _ _ _ us hl => match us, hl with | [_], _ => rfl
theorem b_l_law : BindsP d_l_law := fun _ _ _ _ _ _ us hl => match us, hl with | [_], _ => rfl
theorem posids : (md.ids.filter fun f => (md.kbs f).isEmpty) = [0, 1, 2, 3, 4, 5, 6, 7, 58, 8, 9, 12, 13, 14, 15, 16, 17, 18, 19, 20, 21, 26, 27, 29, 30, 201, 202, 203, 204, 205, 206, 208, 209, 211, 212, 60, 1000, 1001, 1002, 1003, 1004, 1005, 1006, 1029, 1999] := by decide +kernel
theorem binds : BindsAll ((md.ids.filter fun f => (md.kbs f).isEmpty).map md.df) := by
  rw [posids]
  exact ⟨b_p_values_of, b_p_two_of, b_p_is_same, b_p_is_rule, b_p_is_event, b_p_are_events, b_p_need_rule, b_p_need_row, b_p_need_part, b_p_with_part, b_p_rules_near, b_p_begin, b_p_changed, b_p_is_covered, b_p_moved, b_p_day_older, b_p_claimed, b_p_bodied, b_p_a_day_later, b_p_step, b_p_led, b_p_word_of, b_p_rule_line, b_p_values_in, b_p_read_rule, b_c_Policy_of, b_c_Policy_rule, b_c_Policy_getitem, b_c_Policy_having, b_c_Policy_call, b_c_Policy_rshift, b_c_Policy_contains, b_c_Policy_len, b_c_Policy_str, b_c_Policy_eq, b_p_policy_of, b_l_law_sack, b_l_law_grab, b_l_law_one_of, b_l_law_values, b_l_law_rule, b_l_law_events, b_l_law_row, b_l_law_line, b_l_law, trivial⟩
theorem nodfl : (md.ids.filter fun f => (md.kbs f).isEmpty).all (fun f => (md.dfl f).isEmpty && (md.kwd f).isEmpty) = true := by decide +kernel
theorem xbinds : BindsAll (md.xi.map md.xd) := ⟨fun _ _ _ _ _ _ us hl => match us, hl with | [_, _], _ => rfl, trivial⟩
theorem xnames : ∀ c ∈ md.xi, (md.xd c).nm = ("__init__" : Str) := by decide +kernel
theorem subs : ∀ x c b, md.sub x c = some b → (x, c) ∈ md.subs := by
  intro x c b h
  have h2 := He.lookup_memK (show stab.lookup (x, c) = some b from h)
  exact List.mem_map_of_mem (f := Prod.fst) h2
end Mp
namespace Mp
open PySem PySem.Spec
open PyProof.Rows L2
theorem vals_app {vs : List V} {us : List Value} {zs : List V} {ws : List Value} (h : Vals vs us) (h2 : Vals zs ws) : Vals (vs ++ zs) (us ++ ws) := by
  induction h with
  | nil => exact h2
  | cons r _ ih => exact .cons r ih
theorem kb200 {K : PySem.W.Frag} {a : Addr} {fd : FuncData} (F : FunD K (md.df 200).nm (md.df 200).qn (md.df 200).args (md.df 200).body (md.df 200).scope ((md.dfl 200).map (He.Dv.v K)) ((md.kwd 200).map fun q => (q.1, q.2.v K)) a fd) :
    KBok K fd (md.df 200).ps (3, [("own" : Str), ("cap" : Str), ("looks" : Str), ("moved" : Str), ("alien" : Str), ("back" : Str)], [none, none, none, none, none, none, none, none, none]) := by
  obtain ⟨its, KB⟩ := FunD.kbindsD (ps := (md.df 200).ps) F 4 [("own" : Str), ("cap" : Str), ("looks" : Str), ("moved" : Str), ("alien" : Str), ("back" : Str)] (fun us _ ws => us ++ ws) (by intro h; cases h) (fun h1 _ h3 => vals_app h1 h3)
    (fun T kV doc pm an cdv ct us its ws h1 h2 h3 => match us, h1, its, h2, ws, h3 with | [_, _, _, _], _, [_, _], _, [_, _, _, _, _, _], _ => ⟨_, rfl, rfl⟩)
  refine ⟨_, _, KB, fun v vs zs h1 h2 => ?_⟩
  match vs, h1, zs, h2 with
  | [_, _, _], _, [_, _, _, _, _, _], _ => rfl
theorem kball : KbAll md := fun f _ q hq K a fd F => by
  by_cases h : f = 200
  · subst h
    have hq : q ∈ [(3, [("own" : Str), ("cap" : Str), ("looks" : Str), ("moved" : Str), ("alien" : Str), ("back" : Str)], ([none, none, none, none, none, none, none, none, none] : List (Option Mp.D)))] := hq
    rcases List.mem_singleton.mp hq with rfl
    exact kb200 F
  · have e : md.kbs f = [] := by
      show (kbtab.lookup f).getD [] = []
      have hb : (f == 200) = false := beq_eq_false_iff_ne.mpr h
      show ((match f == 200 with | true => some _ | false => none)).getD [] = []
      rw [hb]
      rfl
    rw [e] at hq
    cases hq
end Mp
/-! Pu0: the small language, evaluated by rewriting. -/
namespace Mp
/-! ### pieces that wait for their first part -/
def varE (o : Option (Option D)) (mm : Mm) : Option RE := match o with
  | some (some d) => okE d mm
  | _ => none
def un1 (o : U1) (r : Option RE) : Option RE := bindE r (unS o)
def bin1 (o : B2) (r : Option RE) (f : Mm → Option RE) : Option RE := bindE r fun x mm1 => bindE (f mm1) (binS o x)
def bin2 (o : B2) (x : D) (r : Option RE) : Option RE := bindE r (binS o x)
def mth1 (o : B2) (r : Option RE) (f : Mm → Option RE) : Option RE := bindE r fun x mm1 => if recvOk o x mm1 then bindE (f mm1) (binS o x) else none
def cE {α : Type} (p : Bool) (a b : α) : α := match p with
  | true => a
  | false => b
def andE (r : Option RE) (f : Mm → Option RE) : Option RE := bindE r fun x mm1 => (match x with | .bl true => f mm1 | .bl false => okE (.bl false) mm1 | _ => none)
def orE (r : Option RE) (f : Mm → Option RE) : Option RE := bindE r fun x mm1 => (match x with | .bl true => okE (.bl true) mm1 | .bl false => f mm1 | _ => none)
def notE (r : Option RE) : Option RE := bindE r fun x mm1 => (match x with | .bl b => okE (.bl (!b)) mm1 | _ => none)
def iteE (r : Option RE) (f g : Mm → Option RE) : Option RE := bindE r fun x mm1 => (match x with | .bl true => f mm1 | .bl false => g mm1 | _ => none)
def chn1 (o p : B2) (r : Option RE) (f g : Mm → Option RE) : Option RE := bindE r fun x mm1 => bindE (f mm1) fun y mm2 => bindE (binS o x y mm2) fun z mm3 => (match z with
    | .bl true => bindE (g mm3) (binS p y)
    | .bl false => okE (.bl false) mm3
    | _ => none)
def chn2 (o p : B2) (x : D) (r : Option RE) (g : Mm → Option RE) : Option RE := bindE r fun y mm2 => bindE (binS o x y mm2) fun z mm3 => (match z with
    | .bl true => bindE (g mm3) (binS p y)
    | .bl false => okE (.bl false) mm3
    | _ => none)
def tupE (r : Option RL) : Option RE := match r with
    | some (.ok ds mm1) => if ds.length ≤ szl then okE (.tup ds) mm1 else none
    | some (.ex x mm1) => some (.ex x mm1)
    | none => none
def lstE (r : Option RL) : Option RE := match r with
    | some (.ok ds mm1) => if pureDs ds && decide (ds.length ≤ szl) then okE (.lst ds) mm1 else none
    | some (.ex x mm1) => some (.ex x mm1)
    | none => none
def nlsE (r : Option RL) : Option RE := match r with
    | some (.ok ds mm1) => if pureDs ds && decide (ds.length ≤ szl) then okE (.m mm1.length) (mm1 ++ [.mu (.lst ds)]) else none
    | some (.ex x mm1) => some (.ex x mm1)
    | none => none
def callE (r : Option RL) (cf : List D → Mm → Option FR) : Option RE := match r with
    | some (.ok ds mm1) => callS cf ds mm1
    | some (.ex x mm1) => some (.ex x mm1)
    | none => none
def okL (ds : List D) (mm : Mm) : Option RL := some (.ok ds mm)
def con1 (r : Option RE) (f : Mm → Option RL) : Option RL := match r with
    | some (.ok d mm1) => (match f mm1 with
      | some (.ok ds mm2) => some (.ok (d :: ds) mm2)
      | r => r)
    | some (.ex x mm1) => some (.ex x mm1)
    | none => none
def con2 (d : D) (r : Option RL) : Option RL := match r with
      | some (.ok ds mm2) => some (.ok (d :: ds) mm2)
      | r => r
def slc1 (r : Option RE) (nl nh : Bool) (f g : Mm → Option RE) : Option RE := bindE r fun x mm1 => bindE (f mm1) fun l mm2 => (match partS nl l with
    | none => none
    | some l => bindE (g mm2) fun h mm3 => (match partS nh h with
      | none => none
      | some h => slcS x l h mm3))
def slc2 (x : D) (nl nh : Bool) (r : Option RE) (g : Mm → Option RE) : Option RE := bindE r fun l mm2 => (match partS nl l with
    | none => none
    | some l => bindE (g mm2) fun h mm3 => (match partS nh h with
      | none => none
      | some h => slcS x l h mm3))
def slc3 (x : D) (l : Option Int) (nh : Bool) (r : Option RE) : Option RE := bindE r fun h mm3 => (match partS nh h with
      | none => none
      | some h => slcS x l h mm3)
def nxS (sl : Sl) (mm : Mm) : Option RS := some (.nx sl mm)
def rtS (d : D) (mm : Mm) : Option RS := some (.rt d mm)
def seqS (r : Option RS) (k : Sl → Mm → Option RS) : Option RS := match r with
    | some (.nx sl1 mm1) => k sl1 mm1
    | r => r
def asgS (i : Nat) (sl : Sl) (r : Option RE) : Option RS := match r with
    | some (.ok d mm1) => some (.nx (sl.set i (some d)) mm1)
    | some (.ex x mm1) => some (.ex x sl mm1)
    | none => none
def unpS (is : List Nat) (sl : Sl) (r : Option RE) : Option RS := match r with
    | some (.ok d mm1) => (match bindT (.tp is) d sl with | some sl1 => some (.nx sl1 mm1) | none => none)
    | some (.ex x mm1) => some (.ex x sl mm1)
    | none => none
def par1 (i j : Nat) (sl : Sl) (r : Option RE) (f : Mm → Option RE) : Option RS := match r with
    | some (.ok d mm1) => (match f mm1 with
      | some (.ok e mm2) => some (.nx ((sl.set i (some d)).set j (some e)) mm2)
      | some (.ex x mm1) => some (.ex x sl mm1)
      | none => none)
    | some (.ex x mm1) => some (.ex x sl mm1)
    | none => none
def par2 (i j : Nat) (sl : Sl) (d : D) (r : Option RE) : Option RS := match r with
      | some (.ok e mm2) => some (.nx ((sl.set i (some d)).set j (some e)) mm2)
      | some (.ex x mm1) => some (.ex x sl mm1)
      | none => none
def expS (sl : Sl) (r : Option RE) : Option RS := match r with
    | some (.ok _ mm1) => some (.nx sl mm1)
    | some (.ex x mm1) => some (.ex x sl mm1)
    | none => none
def retS (sl : Sl) (r : Option RE) : Option RS := match r with
    | some (.ok d mm1) => some (.rt d mm1)
    | some (.ex x mm1) => some (.ex x sl mm1)
    | none => none
def ifS (sl : Sl) (r : Option RE) (f g : Mm → Option RS) : Option RS := match r with
    | some (.ok (.bl true) mm1) => f mm1
    | some (.ok (.bl false) mm1) => g mm1
    | some (.ex x mm1) => some (.ex x sl mm1)
    | _ => none
def endF (b : Nat) (r : Option RS) : Option FR := match r with
      | some (.nx _ mm) => finF b .non mm
      | some (.rt d mm) => finF b d mm
      | some (.ex x _ mm) => exF b x mm
      | _ => none
section
variable {gv : Nat → D} {cf : Nat → List D → Mm → Option FR} {sub : Nat → Nat → Option Bool} {sl : Sl} {mm : Mm}
@[simp] theorem e_var {i : Nat} : semE gv cf (.var i) sl mm = varE sl[i]? mm := by simp only [semE]; rfl
@[simp] theorem varE_ok {d : D} : varE (some (some d)) mm = okE d mm := rfl
@[simp] theorem e_cst {d : D} : semE gv cf (.cst d) sl mm = okE d mm := by simp only [semE]
@[simp] theorem e_glb {i : Nat} : semE gv cf (.glb i) sl mm = okE (gv i) mm := by simp only [semE]
@[simp] theorem e_tup {es : Es} : semE gv cf (.tup es) sl mm = tupE (semEs gv cf es sl mm) := by simp only [semE]; rfl
@[simp] theorem e_lst {es : Es} : semE gv cf (.lst es) sl mm = lstE (semEs gv cf es sl mm) := by simp only [semE]; rfl
@[simp] theorem e_nls {es : Es} : semE gv cf (.nls es) sl mm = nlsE (semEs gv cf es sl mm) := by simp only [semE]; rfl
@[simp] theorem e_un {o : U1} {a : E} : semE gv cf (.un o a) sl mm = un1 o (semE gv cf a sl mm) := by simp only [semE]; rfl
@[simp] theorem e_bin {o : B2} {a b : E} : semE gv cf (.bin o a b) sl mm = bin1 o (semE gv cf a sl mm) (semE gv cf b sl) := by simp only [semE]; rfl
@[simp] theorem e_mth {o : B2} {a b : E} : semE gv cf (.mth o a b) sl mm = mth1 o (semE gv cf a sl mm) (semE gv cf b sl) := by simp only [semE]; rfl
@[simp] theorem e_not {a : E} : semE gv cf (.not a) sl mm = notE (semE gv cf a sl mm) := by simp only [semE]; rfl
@[simp] theorem e_and {a b : E} : semE gv cf (.and a b) sl mm = andE (semE gv cf a sl mm) (semE gv cf b sl) := by simp only [semE]; rfl
@[simp] theorem e_or {a b : E} : semE gv cf (.or a b) sl mm = orE (semE gv cf a sl mm) (semE gv cf b sl) := by simp only [semE]; rfl
@[simp] theorem e_ite {c a b : E} : semE gv cf (.ite c a b) sl mm = iteE (semE gv cf c sl mm) (semE gv cf a sl) (semE gv cf b sl) := by simp only [semE]; rfl
@[simp] theorem e_chn {o p : B2} {a b c : E} : semE gv cf (.chn o p a b c) sl mm = chn1 o p (semE gv cf a sl mm) (semE gv cf b sl) (semE gv cf c sl) := by simp only [semE]; rfl
@[simp] theorem e_call {f : Nat} {es : Es} : semE gv cf (.call f es) sl mm = callE (semEs gv cf es sl mm) (cf f) := by simp only [semE]; rfl
@[simp] theorem e_slc {a lo hi : E} : semE gv cf (.slc a lo hi) sl mm = slc1 (semE gv cf a sl mm) (isNo lo) (isNo hi) (semE gv cf lo sl) (semE gv cf hi sl) := by simp only [semE]; rfl
@[simp] theorem e_no : semE gv cf .no sl mm = okE .non mm := by simp only [semE]
@[simp] theorem es_nil : semEs gv cf .nil sl mm = okL [] mm := by simp only [semEs]; rfl
@[simp] theorem es_cons {e : E} {es : Es} : semEs gv cf (.cons e es) sl mm = con1 (semE gv cf e sl mm) (semEs gv cf es sl) := by simp only [semEs]; rfl
@[simp] theorem con1_ok {d : D} {f : Mm → Option RL} : con1 (okE d mm) f = con2 d (f mm) := rfl
@[simp] theorem con2_ok {d : D} {ds : List D} : con2 d (okL ds mm) = okL (d :: ds) mm := rfl
@[simp] theorem un1_ok {o : U1} {d : D} : un1 o (okE d mm) = unS o d mm := rfl
@[simp] theorem bin1_ok {o : B2} {d : D} {f : Mm → Option RE} : bin1 o (okE d mm) f = bin2 o d (f mm) := rfl
@[simp] theorem bin2_ok {o : B2} {d e : D} : bin2 o d (okE e mm) = binS o d e mm := rfl
@[simp] theorem andE_t {f : Mm → Option RE} : andE (okE (.bl true) mm) f = f mm := rfl
@[simp] theorem andE_f {f : Mm → Option RE} : andE (okE (.bl false) mm) f = okE (.bl false) mm := rfl
theorem andE_b {p : Bool} {f : Mm → Option RE} : andE (okE (.bl p) mm) f = cE p (f mm) (okE (.bl false) mm) := by cases p <;> rfl
@[simp] theorem orE_t {f : Mm → Option RE} : orE (okE (.bl true) mm) f = okE (.bl true) mm := rfl
@[simp] theorem orE_f {f : Mm → Option RE} : orE (okE (.bl false) mm) f = f mm := rfl
theorem orE_b {p : Bool} {f : Mm → Option RE} : orE (okE (.bl p) mm) f = cE p (okE (.bl true) mm) (f mm) := by cases p <;> rfl
@[simp] theorem notE_ok {b : Bool} : notE (okE (.bl b) mm) = okE (.bl (!b)) mm := rfl
@[simp] theorem iteE_t {f g : Mm → Option RE} : iteE (okE (.bl true) mm) f g = f mm := rfl
@[simp] theorem iteE_f {f g : Mm → Option RE} : iteE (okE (.bl false) mm) f g = g mm := rfl
theorem iteE_b {p : Bool} {f g : Mm → Option RE} : iteE (okE (.bl p) mm) f g = cE p (f mm) (g mm) := by cases p <;> rfl
@[simp] theorem cE_t {α : Type} {a b : α} : cE true a b = a := rfl
@[simp] theorem cE_f {α : Type} {a b : α} : cE false a b = b := rfl
@[simp] theorem cE_and {p q : Bool} : cE p (okE (.bl q) mm) (okE (.bl false) mm) = okE (.bl (p && q)) mm := by cases p <;> rfl
@[simp] theorem cE_or {p q : Bool} : cE p (okE (.bl true) mm) (okE (.bl q) mm) = okE (.bl (p || q)) mm := by cases p <;> rfl
@[simp] theorem chn1_ok {o p : B2} {d : D} {f g : Mm → Option RE} : chn1 o p (okE d mm) f g = chn2 o p d (f mm) g := rfl
theorem chn2_ok {o p : B2} {d e : D} {g : Mm → Option RE} : chn2 o p d (okE e mm) g = andE (binS o d e mm) (fun mm3 => bin2 p e (g mm3)) := rfl
@[simp] theorem tupE_ok {ds : List D} : tupE (okL ds mm) = if ds.length ≤ 16777216 then okE (.tup ds) mm else none := rfl
@[simp] theorem lstE_ok {ds : List D} : lstE (okL ds mm) = if pureDs ds && decide (ds.length ≤ 16777216) then okE (.lst ds) mm else none := rfl
@[simp] theorem nlsE_ok {ds : List D} : nlsE (okL ds mm) = if pureDs ds && decide (ds.length ≤ 16777216) then okE (.m mm.length) (mm ++ [.mu (.lst ds)]) else none := rfl
@[simp] theorem callE_ok {ds : List D} {g : List D → Mm → Option FR} : callE (okL ds mm) g = callS g ds mm := rfl
@[simp] theorem slc1_ok {x : D} {a b : Bool} {f g : Mm → Option RE} : slc1 (okE x mm) a b f g = slc2 x a b (f mm) g := rfl
@[simp] theorem slc2_no {x d : D} {b : Bool} {g : Mm → Option RE} : slc2 x true b (okE d mm) g = slc3 x none b (g mm) := rfl
@[simp] theorem slc2_int {x : D} {i : Int} {b : Bool} {g : Mm → Option RE} : slc2 x false b (okE (.int i) mm) g = slc3 x (some i) b (g mm) := rfl
@[simp] theorem slc3_no {x d : D} {l : Option Int} : slc3 x l true (okE d mm) = slcS x l none mm := rfl
@[simp] theorem slc3_int {x : D} {i : Int} {l : Option Int} : slc3 x l false (okE (.int i) mm) = slcS x l (some i) mm := rfl
@[simp] theorem b_nilE : semB sub gv cf .nil sl mm = nxS sl mm := by simp only [semB]; rfl
@[simp] theorem b_consE {s : S} {b : B} : semB sub gv cf (.cons s b) sl mm = seqS (semS sub gv cf s sl mm) (semB sub gv cf b) := by simp only [semB]; rfl
@[simp] theorem seqS_nx {k : Sl → Mm → Option RS} : seqS (nxS sl mm) k = k sl mm := rfl
@[simp] theorem seqS_rt {d : D} {k : Sl → Mm → Option RS} : seqS (rtS d mm) k = rtS d mm := rfl
@[simp] theorem seqS_ex {x : Ex} {k : Sl → Mm → Option RS} : seqS (some (.ex x sl mm)) k = some (.ex x sl mm) := rfl
@[simp] theorem seqS_cE {p : Bool} {a b : Option RS} {k : Sl → Mm → Option RS} : seqS (cE p a b) k = cE p (seqS a k) (seqS b k) := by cases p <;> rfl
@[simp] theorem t_asg {i : Nat} {e : E} : semS sub gv cf (.asg i e) sl mm = asgS i sl (semE gv cf e sl mm) := by simp only [semS]; rfl
@[simp] theorem asgS_ok {i : Nat} {d : D} : asgS i sl (okE d mm) = nxS (sl.set i (some d)) mm := rfl
@[simp] theorem asgS_cE {i : Nat} {p : Bool} {a b : Option RE} : asgS i sl (cE p a b) = cE p (asgS i sl a) (asgS i sl b) := by cases p <;> rfl
@[simp] theorem t_unp {is : List Nat} {e : E} : semS sub gv cf (.unp is e) sl mm = unpS is sl (semE gv cf e sl mm) := by simp only [semS]; rfl
@[simp] theorem unpS_ok {is : List Nat} {xs : List D} : unpS is sl (okE (.tup xs) mm) = if xs.length = is.length then nxS ((is.zip xs).foldl (fun sl p => sl.set p.1 (some p.2)) sl) mm else none := by
  by_cases h : xs.length = is.length <;> simp [unpS, okE, bindT, h, nxS]
@[simp] theorem t_par {i j : Nat} {a b : E} : semS sub gv cf (.par i j a b) sl mm = par1 i j sl (semE gv cf a sl mm) (semE gv cf b sl) := by simp only [semS]; rfl
@[simp] theorem par1_ok {i j : Nat} {d : D} {f : Mm → Option RE} : par1 i j sl (okE d mm) f = par2 i j sl d (f mm) := rfl
@[simp] theorem par2_ok {i j : Nat} {d e : D} : par2 i j sl d (okE e mm) = nxS ((sl.set i (some d)).set j (some e)) mm := rfl
@[simp] theorem t_exp {e : E} : semS sub gv cf (.exp e) sl mm = expS sl (semE gv cf e sl mm) := by simp only [semS]; rfl
@[simp] theorem expS_ok {d : D} : expS sl (okE d mm) = nxS sl mm := rfl
@[simp] theorem expS_ex {x : Ex} : expS sl (some (.ex x mm)) = some (.ex x sl mm) := rfl
@[simp] theorem t_ret {e : E} : semS sub gv cf (.ret e) sl mm = retS sl (semE gv cf e sl mm) := by simp only [semS]; rfl
@[simp] theorem retS_ok {d : D} : retS sl (okE d mm) = rtS d mm := rfl
@[simp] theorem retS_cE {p : Bool} {a b : Option RE} : retS sl (cE p a b) = cE p (retS sl a) (retS sl b) := by cases p <;> rfl
@[simp] theorem t_ifs {c : E} {a b : B} : semS sub gv cf (.ifs c a b) sl mm = ifS sl (semE gv cf c sl mm) (semB sub gv cf a sl) (semB sub gv cf b sl) := by
  simp only [semS]; rfl
@[simp] theorem ifS_t {f g : Mm → Option RS} : ifS sl (okE (.bl true) mm) f g = f mm := rfl
@[simp] theorem ifS_f {f g : Mm → Option RS} : ifS sl (okE (.bl false) mm) f g = g mm := rfl
theorem ifS_b {p : Bool} {f g : Mm → Option RS} : ifS sl (okE (.bl p) mm) f g = cE p (f mm) (g mm) := by cases p <;> rfl
@[simp] theorem ifS_cE {p : Bool} {a b : Option RE} {f g : Mm → Option RS} : ifS sl (cE p a b) f g = cE p (ifS sl a f g) (ifS sl b f g) := by cases p <;> rfl
@[simp] theorem t_rse {c : Nat} : semS sub gv cf (.rse c .nil) sl mm = some (.ex ⟨c, []⟩ sl mm) := by simp only [semS, semEs]
@[simp] theorem endF_nx {b : Nat} : endF b (nxS sl mm) = finF b .non mm := rfl
@[simp] theorem endF_rt {b : Nat} {d : D} : endF b (rtS d mm) = finF b d mm := rfl
@[simp] theorem endF_ex {b : Nat} {x : Ex} : endF b (some (.ex x sl mm)) = exF b x mm := rfl
@[simp] theorem endF_cE {b : Nat} {p : Bool} {x y : Option RS} : endF b (cE p x y) = cE p (endF b x) (endF b y) := by cases p <;> rfl
end
theorem callF_succ {sub : Nat → Nat → Option Bool} {T : Nat → FDef} {gv : Nat → D} {n f : Nat} {args : List D} {bs : Mm} : callF sub T gv (n + 1) f args bs =
    if args.length == (T f).np then endF bs.length (semB sub gv (callF sub T gv n) (T f).body (startS (T f).ns args) bs) else none := by
  unfold callF
  rfl
@[simp] theorem pu_non : pureD .non = true := rfl
@[simp] theorem pu_int {i : Int} : pureD (.int i) = true := rfl
@[simp] theorem pu_bl {i : Bool} : pureD (.bl i) = true := rfl
@[simp] theorem pu_str {i : Tx} : pureD (.str i) = true := rfl
@[simp] theorem pu_tup {i : List D} : pureD (.tup i) = pureDs i := by simp only [pureD]
@[simp] theorem pu_lst {i : List D} : pureD (.lst i) = pureDs i := by simp only [pureD]
@[simp] theorem pu_nil : pureDs [] = true := rfl
@[simp] theorem pu_cons {d : D} {i : List D} : pureDs (d :: i) = (pureD d && pureDs i) := by simp only [pureDs]
/-! ### calls by pure values -/
def resP (r : Option FR) (mm : Mm) : Option RE := match r with
  | none => none
  | some (.rt d bs new) => if bs.length = 0 then (match backD [] mm.length d with
        | some d' => some (.ok d' (mm ++ new))
        | none => none) else none
  | some (.ex x bs) => if bs.length = 0 then some (.ex x mm) else none
theorem okArg_pure {d : D} (h : pureD d = true) : okArg d = true := by cases d <;> first | exact h | rfl
theorem all_pure : ∀ {ds : List D}, pureDs ds = true → ds.all okArg = true ∧ lentOf ds = [] ∧ ∀ n, argsOf n ds = ds
  | [], _ => ⟨rfl, rfl, fun _ => rfl⟩
  | d :: ds, h => by
    simp only [pureDs, Bool.and_eq_true] at h
    obtain ⟨a, b, c⟩ := all_pure h.2
    refine ⟨by rw [List.all_cons, okArg_pure h.1, a]; rfl, ?_, fun n => ?_⟩
    · cases d <;> first | exact b | (have := h.1; simp [pureD] at this)
    · cases d <;> first | (show _ :: argsOf n ds = _; rw [c]) | (have := h.1; simp [pureD] at this)
theorem callS_pp {cf : List D → Mm → Option FR} {ds : List D} {mm : Mm} (h : pureDs ds = true) : callS cf ds mm = resP (cf ds []) mm := by
  obtain ⟨a, b, c⟩ := all_pure h
  unfold callS
  rw [a, b, c]
  simp only [List.nodup_nil, decide_true, Bool.and_self, if_true, takeMu, List.length_nil]
  cases cf ds [] with
  | none => rfl
  | some r => cases r <;> simp only [resP, putMu] <;> (try rfl)
def callS2 := callS
@[simp] theorem callS_p {cf : List D → Mm → Option FR} {ds : List D} {mm : Mm} : callS cf ds mm = if pureDs ds = true then resP (cf ds []) mm else callS2 cf ds mm := by
  by_cases h : pureDs ds = true
  · rw [if_pos h]; exact callS_pp h
  · rw [if_neg h]; rfl
def resP2 := resP
@[simp] theorem resP_rt {d : D} {mm : Mm} : resP (some (.rt d [] [])) mm = if pureD d = true then okE d mm else resP2 (some (.rt d [] [])) mm := by
  by_cases h : pureD d = true
  · simp [resP, backD, h, okE]
  · rw [if_neg h]; rfl
@[simp] theorem resP_ex {x : Ex} {mm : Mm} : resP (some (.ex x [])) mm = some (.ex x mm) := rfl
theorem resP_cE {p : Bool} {a b : Option FR} {mm : Mm} : resP (cE p a b) mm = cE p (resP a mm) (resP b mm) := by cases p <;> rfl
def finF2 := finF
@[simp] theorem finF_p {d : D} {mm : Mm} : finF 0 d mm = if pureD d = true then some (.rt d [] []) else finF2 0 d mm := by
  by_cases h : pureD d = true
  · simp [finF, h]
  · rw [if_neg h]; rfl
@[simp] theorem exF_p {x : Ex} {mm : Mm} : exF 0 x mm = some (.ex x []) := by simp [exF]
theorem finF_p2 {d : D} {mm : Mm} (h : pureD d = true) : finF 0 d mm = some (.rt d [] []) := by simp [finF, h]
/-! ### operators by shapes -/
section
variable {mm : Mm}
@[simp] theorem rdv_int {i : Int} : rd mm (.int i) = .int i := rfl
@[simp] theorem rdv_str {s : Tx} : rd mm (.str s) = .str s := rfl
@[simp] theorem rdv_bl {s : Bool} : rd mm (.bl s) = .bl s := rfl
@[simp] theorem rdv_non : rd mm .non = .non := rfl
@[simp] theorem rdv_tup {s : List D} : rd mm (.tup s) = .tup s := rfl
@[simp] theorem rdv_lst {s : List D} : rd mm (.lst s) = .lst s := rfl
@[simp] theorem o_add {i j : Int} : binS .add (.int i) (.int j) mm = okE (.int (i + j)) mm := rfl
@[simp] theorem o_sub {i j : Int} : binS .sub (.int i) (.int j) mm = okE (.int (i - j)) mm := rfl
@[simp] theorem o_min {i j : Int} : binS .min2 (.int i) (.int j) mm = okE (.int (min i j)) mm := by
  simp only [binS]; congr 1; congr 1; omega
@[simp] theorem o_lt {i j : Int} : binS .lt (.int i) (.int j) mm = okE (.bl (decide (i < j))) mm := rfl
@[simp] theorem o_le {i j : Int} : binS .le (.int i) (.int j) mm = okE (.bl (decide (i ≤ j))) mm := rfl
@[simp] theorem o_gt {i j : Int} : binS .gt (.int i) (.int j) mm = okE (.bl (decide (j < i))) mm := rfl
@[simp] theorem o_ge {i j : Int} : binS .ge (.int i) (.int j) mm = okE (.bl (decide (j ≤ i))) mm := rfl
@[simp] theorem o_eqI {i j : Int} : binS .eq (.int i) (.int j) mm = okE (.bl (decide (i = j))) mm := rfl
@[simp] theorem o_eqT {i j : Tx} : binS .eq (.str i) (.str j) mm = okE (.bl (decide (i = j))) mm := rfl
@[simp] theorem o_neT {i j : Tx} : binS .ne (.str i) (.str j) mm = okE (.bl (!decide (i = j))) mm := rfl
@[simp] theorem o_max {i j : Int} : binS .max2 (.int i) (.int j) mm = okE (.int (max i j)) mm := by
  simp only [binS]; congr 1; congr 1; omega
@[simp] theorem u_neg {i : Int} : unS .neg (.int i) mm = okE (.int (-i)) mm := rfl
@[simp] theorem u_int {i : Int} : unS .int (.int i) mm = okE (.int i) mm := rfl
@[simp] theorem u_intB {b : Bool} : unS .int (.bl b) mm = okE (.int (if b = true then 1 else 0)) mm := rfl
@[simp] theorem u_isN0 : unS .isN .non mm = okE (.bl true) mm := rfl
@[simp] theorem u_isNt {xs : List D} : unS .isN (.tup xs) mm = okE (.bl false) mm := rfl
@[simp] theorem u_notN0 : unS .notN .non mm = okE (.bl false) mm := rfl
@[simp] theorem u_notNt {xs : List D} : unS .notN (.tup xs) mm = okE (.bl true) mm := rfl
@[simp] theorem o_mem2 {x y z : Tx} : binS .mem (.str x) (.tup [.str y, .str z]) mm = okE (.bl (decide (x = y) || decide (x = z))) mm := by
  simp [binS, memS, rd, okEq, hgt, hgts, memD, eqD]
  congr 1
  by_cases h : x = y <;> by_cases h2 : x = z <;> simp [h, h2, eq_comm] <;> simp_all [eq_comm]
theorem ix_tup {xs : List D} (k : Nat) {x : D} (h : xs[k]? = some x) : binS .idx (.tup xs) (.int (k : Int)) mm = okE x mm := by
  have hk : k < xs.length := (List.getElem?_eq_some_iff.mp h).1
  have e : atD xs (k : Int) = some x := by
    show (L2.ixN xs.length (k : Int)).bind _ = _
    unfold L2.ixN
    rw [if_pos (by omega), if_pos (by omega)]
    simpa using h
  simp [binS, idxS, rd, e]
theorem ix_lst {xs : List D} (k : Nat) {x : D} (h : xs[k]? = some x) : binS .idx (.lst xs) (.int (k : Int)) mm = okE x mm := by
  have hk : k < xs.length := (List.getElem?_eq_some_iff.mp h).1
  have e : atD xs (k : Int) = some x := by
    show (L2.ixN xs.length (k : Int)).bind _ = _
    unfold L2.ixN
    rw [if_pos (by omega), if_pos (by omega)]
    simpa using h
  simp [binS, idxS, rd, e]
@[simp] theorem o_ix_tup0 {a0 : D} {xs : List D} : binS .idx (.tup (a0 :: xs)) (.int 0) mm = okE a0 mm := ix_tup 0 rfl
@[simp] theorem o_ix_tup1 {a0 a1 : D} {xs : List D} : binS .idx (.tup (a0 :: a1 :: xs)) (.int 1) mm = okE a1 mm := ix_tup 1 rfl
@[simp] theorem o_ix_tup2 {a0 a1 a2 : D} {xs : List D} : binS .idx (.tup (a0 :: a1 :: a2 :: xs)) (.int 2) mm = okE a2 mm := ix_tup 2 rfl
@[simp] theorem o_ix_tup3 {a0 a1 a2 a3 : D} {xs : List D} : binS .idx (.tup (a0 :: a1 :: a2 :: a3 :: xs)) (.int 3) mm = okE a3 mm := ix_tup 3 rfl
@[simp] theorem o_ix_tup4 {a0 a1 a2 a3 a4 : D} {xs : List D} : binS .idx (.tup (a0 :: a1 :: a2 :: a3 :: a4 :: xs)) (.int 4) mm = okE a4 mm := ix_tup 4 rfl
@[simp] theorem o_ix_tup5 {a0 a1 a2 a3 a4 a5 : D} {xs : List D} : binS .idx (.tup (a0 :: a1 :: a2 :: a3 :: a4 :: a5 :: xs)) (.int 5) mm = okE a5 mm := ix_tup 5 rfl
@[simp] theorem o_ix_tup6 {a0 a1 a2 a3 a4 a5 a6 : D} {xs : List D} : binS .idx (.tup (a0 :: a1 :: a2 :: a3 :: a4 :: a5 :: a6 :: xs)) (.int 6) mm = okE a6 mm := ix_tup 6 rfl
@[simp] theorem o_ix_tup7 {a0 a1 a2 a3 a4 a5 a6 a7 : D} {xs : List D} : binS .idx (.tup (a0 :: a1 :: a2 :: a3 :: a4 :: a5 :: a6 :: a7 :: xs)) (.int 7) mm = okE a7 mm := ix_tup 7 rfl
@[simp] theorem o_ix_tup8 {a0 a1 a2 a3 a4 a5 a6 a7 a8 : D} {xs : List D} : binS .idx (.tup (a0 :: a1 :: a2 :: a3 :: a4 :: a5 :: a6 :: a7 :: a8 :: xs)) (.int 8) mm = okE a8 mm := ix_tup 8 rfl
@[simp] theorem o_ix_lst0 {a0 : D} {xs : List D} : binS .idx (.lst (a0 :: xs)) (.int 0) mm = okE a0 mm := ix_lst 0 rfl
@[simp] theorem o_ix_lst1 {a0 a1 : D} {xs : List D} : binS .idx (.lst (a0 :: a1 :: xs)) (.int 1) mm = okE a1 mm := ix_lst 1 rfl
@[simp] theorem o_ix_lst2 {a0 a1 a2 : D} {xs : List D} : binS .idx (.lst (a0 :: a1 :: a2 :: xs)) (.int 2) mm = okE a2 mm := ix_lst 2 rfl
@[simp] theorem o_ix_lst3 {a0 a1 a2 a3 : D} {xs : List D} : binS .idx (.lst (a0 :: a1 :: a2 :: a3 :: xs)) (.int 3) mm = okE a3 mm := ix_lst 3 rfl
@[simp] theorem o_ix_lst4 {a0 a1 a2 a3 a4 : D} {xs : List D} : binS .idx (.lst (a0 :: a1 :: a2 :: a3 :: a4 :: xs)) (.int 4) mm = okE a4 mm := ix_lst 4 rfl
@[simp] theorem o_ix_lst5 {a0 a1 a2 a3 a4 a5 : D} {xs : List D} : binS .idx (.lst (a0 :: a1 :: a2 :: a3 :: a4 :: a5 :: xs)) (.int 5) mm = okE a5 mm := ix_lst 5 rfl
@[simp] theorem o_ix_lst6 {a0 a1 a2 a3 a4 a5 a6 : D} {xs : List D} : binS .idx (.lst (a0 :: a1 :: a2 :: a3 :: a4 :: a5 :: a6 :: xs)) (.int 6) mm = okE a6 mm := ix_lst 6 rfl
@[simp] theorem o_ix_lst7 {a0 a1 a2 a3 a4 a5 a6 a7 : D} {xs : List D} : binS .idx (.lst (a0 :: a1 :: a2 :: a3 :: a4 :: a5 :: a6 :: a7 :: xs)) (.int 7) mm = okE a7 mm := ix_lst 7 rfl
@[simp] theorem o_ix_lst8 {a0 a1 a2 a3 a4 a5 a6 a7 a8 : D} {xs : List D} : binS .idx (.lst (a0 :: a1 :: a2 :: a3 :: a4 :: a5 :: a6 :: a7 :: a8 :: xs)) (.int 8) mm = okE a8 mm := ix_lst 8 rfl
end
end Mp
/-! Pu1: loops, lent objects, texts, over Pu0 (for all laws). -/
namespace Mp
/-! ### loops -/
def seqI (r : Option RE) : Option RI := match bindE r frzS with
    | some (.ok d mm1) => (match listItems d with | some xs => some (.ok xs mm1) | none => none)
    | some (.ex x mm1) => some (.ex x mm1)
    | none => none
def okI2 (xs : List D) (mm : Mm) : Option RI := some (.ok xs mm)
def forI (tg : Tg) (body : Sl → Mm → Option RS) (r : Option RI) (sl : Sl) : Option RS := match r with
    | some (.ok xs mm1) => forS tg body xs sl mm1
    | some (.ex x mm1) => some (.ex x sl mm1)
    | none => none
def nextF (r : Option RS) (k : Sl → Mm → Option RS) : Option RS := match r with
      | some (.nx sl2 mm2) => k sl2 mm2
      | some (.ct sl2 mm2) => k sl2 mm2
      | some (.bk sl2 mm2) => some (.nx sl2 mm2)
      | r => r
def lcI (mu : Bool) (tg : Tg) (cnd elt : Sl → Mm → Option RE) (sl : Sl) (r : Option RI) : Option RE := match r with
    | some (.ok xs mm1) => bindE (lcS tg cnd elt sl xs [] mm1) fun d mm2 => if mu then okE (.m mm2.length) (mm2 ++ [.mu d]) else okE d mm2
    | some (.ex x mm1) => some (.ex x mm1)
    | none => none
def zip1 (r : Option RE) (f : Mm → Option RE) : Option RI := match bindE r frzS with
    | some (.ok d mm1) => (match bindE (f mm1) frzS with
      | some (.ok e mm2) => (match d, e with | .tup xs, .tup ys => some (.ok (zipD xs ys) mm2) | .lst xs, .lst ys => some (.ok (zipD xs ys) mm2) | .tup xs, .lst ys => some (.ok (zipD xs ys) mm2) | _, _ => none)
      | some (.ex x mm1) => some (.ex x mm1)
      | none => none)
    | some (.ex x mm1) => some (.ex x mm1)
    | none => none
def rng1 (r : Option RE) : Option RI := match r with
    | some (.ok (.int n) mm1) => if small64 (4 * n) then some (.ok (rngL 0 n.toNat) mm1) else none
    | some (.ex x mm1) => some (.ex x mm1)
    | _ => none
section
variable {gv : Nat → D} {cf : Nat → List D → Mm → Option FR} {sub : Nat → Nat → Option Bool} {sl : Sl} {mm : Mm} {tg : Tg}
@[simp] theorem i_seqE {a : E} : semI gv cf (.seq a) sl mm = seqI (semE gv cf a sl mm) := by simp only [semI]; rfl
@[simp] theorem i_rngE {a : E} : semI gv cf (.rng a) sl mm = rng1 (semE gv cf a sl mm) := by simp only [semI]; rfl
@[simp] theorem i_zipE {a b : E} : semI gv cf (.zip a b) sl mm = zip1 (semE gv cf a sl mm) (semE gv cf b sl) := by simp only [semI]; rfl
@[simp] theorem seqI_tup {xs : List D} : seqI (okE (.tup xs) mm) = okI2 xs mm := rfl
@[simp] theorem seqI_lst {xs : List D} : seqI (okE (.lst xs) mm) = okI2 xs mm := rfl
@[simp] theorem rng1_ok {i : Int} : rng1 (okE (.int i) mm) = if small64 (4 * i) = true then okI2 (rngL 0 i.toNat) mm else none := rfl
@[simp] theorem zip1_tup {xs ys : List D} {f : Mm → Option RE} (h : f mm = okE (.tup ys) mm) : zip1 (okE (.tup xs) mm) f = okI2 (zipD xs ys) mm := by
  simp only [zip1, bindE, okE, frzS] at h ⊢
  rw [h]; rfl
@[simp] theorem t_for {it : It} {b : B} : semS sub gv cf (.for tg it b) sl mm = forI tg (semB sub gv cf b) (semI gv cf it sl mm) sl := by simp only [semS]; rfl
@[simp] theorem forI_ok {xs : List D} {body : Sl → Mm → Option RS} : forI tg body (okI2 xs mm) sl = forS tg body xs sl mm := rfl
@[simp] theorem forS_nil {body : Sl → Mm → Option RS} : forS tg body [] sl mm = nxS sl mm := rfl
theorem forS_cons {x : D} {xs : List D} {body : Sl → Mm → Option RS} : forS tg body (x :: xs) sl mm = (match bindT tg x sl with
    | none => none
    | some sl1 => nextF (body sl1 mm) (forS tg body xs)) := by
  simp only [forS]; cases bindT tg x sl <;> rfl
@[simp] theorem nextF_nx {k : Sl → Mm → Option RS} : nextF (nxS sl mm) k = k sl mm := rfl
@[simp] theorem nextF_rt {d : D} {k : Sl → Mm → Option RS} : nextF (rtS d mm) k = rtS d mm := rfl
@[simp] theorem e_lc {mu : Bool} {elt cnd : E} {it : It} : semE gv cf (.lc mu tg elt it cnd) sl mm = lcI mu tg (semE gv cf cnd) (semE gv cf elt) sl (semI gv cf it sl mm) := by simp only [semE]; rfl
@[simp] theorem lcI_ok {cnd elt : Sl → Mm → Option RE} {xs : List D} {mu : Bool} : lcI mu tg cnd elt sl (okI2 xs mm) = bindE (lcS tg cnd elt sl xs [] mm) fun d mm2 => if mu then okE (.m mm2.length) (mm2 ++ [.mu d]) else okE d mm2 := rfl
@[simp] theorem mth1_ok {o : B2} {d : D} {f : Mm → Option RE} : mth1 o (okE d mm) f = if recvOk o d mm = true then bin2 o d (f mm) else none := rfl
theorem lcS_cons {cnd elt : Sl → Mm → Option RE} {x : D} {xs acc : List D} {sl' : Sl} {mm1 mm2 : Mm} {d : D} (h1 : bindT tg x (wipeS sl (tgIx tg)) = some sl') (h2 : cnd sl' mm = okE (.bl true) mm1) (h3 : elt sl' mm1 = okE d mm2) (h4 : pureD d = true) (h5 : acc.length < 16777216) :
    lcS tg cnd elt sl (x :: xs) acc mm = lcS tg cnd elt sl xs (acc ++ [d]) mm2 := by
  simp only [okE] at h2 h3
  simp [lcS, h1, h2, h3, h4, szl, h5]
theorem lcS_map {α : Type} {cnd elt : Sl → Mm → Option RE} (f g : α → D) : ∀ (xs : List α) (acc : List D), (∀ x ∈ xs, ∃ sl', bindT tg (f x) (wipeS sl (tgIx tg)) = some sl' ∧ cnd sl' mm = okE (.bl true) mm ∧ elt sl' mm = okE (g x) mm ∧ pureD (g x) = true) →
    acc.length + xs.length ≤ 16777216 → lcS tg cnd elt sl (xs.map f) acc mm = okE (.lst (acc ++ xs.map g)) mm
  | [], acc, _, _ => by simp [lcS]
  | x :: xs, acc, h, hl => by
    obtain ⟨sl', h1, h2, h3, h4⟩ := h x (by simp)
    simp only [List.length_cons] at hl
    rw [List.map_cons, lcS_cons h1 h2 h3 h4 (by omega), lcS_map f g xs _ (fun y hy => h y (by simp [hy])) (by simp; omega)]
    simp
end
theorem splitT_spl {a b : Tx} (hb : b ≠ []) (hk : b.all (· < 256) = true) : splitT a b = TL.spl b 0 [] a := by
  unfold splitT
  rw [show PySem.Txt.split (toS a) (toS b) = (TL.spl b 0 [] a).map SX.S from SX.split_S hb hk, List.map_map]
  exact List.map_id _
abbrev tAnew : Tx := [97, 110, 101, 119]
abbrev tNew : Tx := [110, 101, 119]
abbrev tLonger : Tx := [108, 111, 110, 103, 101, 114]
abbrev tSame : Tx := [115, 97, 109, 101]
abbrev tFirst : Tx := [102, 105, 114, 115, 116]
abbrev tGood : Tx := [103, 111, 111, 100]
abbrev tAlien : Tx := [97, 108, 105, 101, 110]
abbrev tCame : Tx := [99, 97, 109, 101]
abbrev tEither : Tx := [101, 105, 116, 104, 101, 114]
abbrev tThing : Tx := [116, 104, 105, 110, 103]
abbrev tStays : Tx := [115, 116, 97, 121, 115]
abbrev tEnds : Tx := [101, 110, 100, 115]
abbrev tNothing : Tx := [110, 111, 116, 104, 105, 110, 103]
abbrev tRefused : Tx := [114, 101, 102, 117, 115, 101, 100]
abbrev tPaid : Tx := [112, 97, 105, 100]
abbrev tBroken : Tx := [98, 114, 111, 107, 101, 110]
abbrev tDone : Tx := [100, 111, 110, 101]
abbrev tBody : Tx := [98, 111, 100, 121]
abbrev tClaim : Tx := [99, 108, 97, 105, 109]
abbrev tBreak : Tx := [98, 114, 101, 97, 107]
abbrev tDay : Tx := [100, 97, 121]
abbrev tFetch : Tx := [102, 101, 116, 99, 104]
abbrev tPut : Tx := [112, 117, 116]
@[simp] theorem pu_m {k : Nat} : pureD (.m k) = false := rfl
@[simp] theorem isNo_no : isNo .no = true := rfl
@[simp] theorem isNo_cst {d : D} : isNo (.cst d) = false := rfl
@[simp] theorem isNo_var {d : Nat} : isNo (.var d) = false := rfl
@[simp] theorem isNo_bin {o : B2} {a b : E} : isNo (.bin o a b) = false := rfl
theorem allBl_rep {α : Type} : ∀ xs : List α, allBl (xs.map fun _ => D.bl true) = some (xs.map fun _ => true)
  | [] => rfl
  | _ :: xs => by simp only [List.map_cons, allBl, allBl_rep xs, Option.map_some]
section
variable {mm : Mm}
@[simp] theorem u_isTup {xs : List D} : unS (.isi .tuple) (.tup xs) mm = okE (.bl true) mm := rfl
@[simp] theorem u_lenT {xs : List D} : unS .len (.tup xs) mm = okE (.int xs.length) mm := rfl
@[simp] theorem u_lenL {xs : List D} : unS .len (.lst xs) mm = okE (.int xs.length) mm := rfl
@[simp] theorem bindE_ok {d : D} {f : D → Mm → Option RE} : bindE (okE d mm) f = f d mm := rfl
end
/-! ### stores, lent objects -/
def sto3 (o : Option M) (k : Nat) (j : Int) (d : D) (sl : Sl) (mm : Mm) : Option RS := match o with
          | some (.mu (.lst xs)) => (match ixP xs.length j with
            | some p => if pureD d then some (.nx sl (mm.set k (.mu (.lst (xs.set p d))))) else none
            | none => none)
          | _ => none
def sto2 (o : Option (Option D)) (d : D) (sl : Sl) (r : Option RE) : Option RS := match o with
      | some (some (.m k)) => (match r with
        | some (.ok (.int j) mm2) => sto3 mm2[k]? k j d sl mm2
        | some (.ex x mm1) => some (.ex x sl mm1)
        | _ => none)
      | _ => none
def sto1 (i : Nat) (sl : Sl) (r : Option RE) (f : Mm → Option RE) : Option RS := match r with
    | some (.ok d mm1) => sto2 sl[i]? d sl (f mm1)
    | some (.ex x mm1) => some (.ex x sl mm1)
    | none => none
section
variable {gv : Nat → D} {cf : Nat → List D → Mm → Option FR} {sub : Nat → Nat → Option Bool} {sl : Sl} {mm : Mm}
@[simp] theorem t_sto {i : Nat} {ix e : E} : semS sub gv cf (.sto i ix e) sl mm = sto1 i sl (semE gv cf e sl mm) (semE gv cf ix sl) := by simp only [semS]; rfl
@[simp] theorem sto1_ok {i : Nat} {d : D} {f : Mm → Option RE} : sto1 i sl (okE d mm) f = sto2 sl[i]? d sl (f mm) := rfl
@[simp] theorem sto2_ok {k : Nat} {d : D} {j : Int} : sto2 (some (some (.m k))) d sl (okE (.int j) mm) = sto3 mm[k]? k j d sl mm := rfl
end
theorem lent_pure {d : D} (h : pureD d = true) (ds : List D) : lentOf (d :: ds) = lentOf ds ∧ ∀ n, argsOf n (d :: ds) = d :: argsOf n ds := by
  cases d <;> first | exact ⟨rfl, fun _ => rfl⟩ | cases h
theorem callS_m2 {cf : List D → Mm → Option FR} {k : Nat} {d v c c' : D} {mm : Mm} (hk : mm[k]? = some (.mu c)) (hd : pureD d = true) (hv : pureD v = true) (h : cf [.m 0, d] [.mu c] = some (.rt v [.mu c'] [])) : callS cf [.m k, d] mm = okE v (mm.set k (.mu c')) := by
  obtain ⟨l1, l2⟩ := lent_pure hd []
  have a1 : lentOf [.m k, d] = [k] := by show k :: lentOf [d] = _; rw [l1]; rfl
  have a2 : argsOf 0 [.m k, d] = [.m 0, d] := by show .m 0 :: argsOf 1 [d] = _; rw [l2]; rfl
  have a3 : [D.m k, d].all okArg = true := by
    show (true && (okArg d && true)) = true
    rw [okArg_pure hd]; rfl
  simp [callS, a1, a2, a3, takeMu, hk, h, backD, hv, putMu, okE]
theorem callS_m1 {cf : List D → Mm → Option FR} {k : Nat} {v c c' : D} {mm : Mm} (hk : mm[k]? = some (.mu c)) (hv : pureD v = true) (h : cf [.m 0] [.mu c] = some (.rt v [.mu c'] [])) : callS cf [.m k] mm = okE v (mm.set k (.mu c')) := by
  have a3 : [D.m k].all okArg = true := rfl
  simp [callS, lentOf, argsOf, a3, takeMu, hk, h, backD, hv, putMu, okE]
/-! ### the sack -/
abbrev sk (g s : Int) : D := .lst [.int g, .int s]
def SkOk (s : Int) : Prop := 0 ≤ s ∧ s < 2147483648
section
variable {mm : Mm}
theorem o_mul1 {i j : Int} (h : small64 j = true) : binS .mul (.int i) (.int j) mm = okE (.int (i * j)) mm := by simp [binS, rd, h]
theorem o_mul2 {i j : Int} (h : small64 i = true) : binS .mul (.int i) (.int j) mm = okE (.int (i * j)) mm := by simp [binS, rd, h]
theorem o_fdiv {i j : Int} (h : 0 < j) (h2 : j < 1073741824) : binS .fdiv (.int i) (.int j) mm = okE (.int (i / j)) mm := by simp [binS, h, h2]
theorem o_mod {i j : Int} (h : 0 < j) : binS .mod (.int i) (.int j) mm = okE (.int (i % j)) mm := by simp [binS, h]
end
inductive AllP {α : Type} (P : α → D → Prop) : List α → List D → Prop
  | nil : AllP P [] []
  | cons {x : α} {d : D} {xs : List α} {ds : List D} : P x d → AllP P xs ds → AllP P (x :: xs) (d :: ds)
theorem AllP.len {α : Type} {P : α → D → Prop} {xs : List α} {ds : List D} (h : AllP P xs ds) : ds.length = xs.length := by
  induction h with
  | nil => rfl
  | cons _ _ ih => simp [ih]
theorem AllP.cons_inv {α : Type} {P : α → D → Prop} {x : α} {xs : List α} {ds : List D} (h : AllP P (x :: xs) ds) : ∃ d es, ds = d :: es ∧ P x d ∧ AllP P xs es := by
  cases h with
  | cons a b => exact ⟨_, _, rfl, a, b⟩
theorem AllP.nil_inv {α : Type} {P : α → D → Prop} {ds : List D} (h : AllP P [] ds) : ds = [] := by
  cases h; rfl
/-- a comprehension that takes from the sack -/
theorem lcS_sack {α : Type} {tg : Tg} {cnd elt : Sl → Mm → Option RE} {sl : Sl} (f : α → D) (P : α → D → Prop) : ∀ (xs : List α) (acc : List D) (g s : Int), SkOk s →
    (∀ x ∈ xs, ∀ g s, SkOk s → ∃ sl' d g' s', bindT tg (f x) (wipeS sl (tgIx tg)) = some sl' ∧ cnd sl' [.mu (sk g s)] = okE (.bl true) [.mu (sk g s)] ∧ elt sl' [.mu (sk g s)] = okE d [.mu (sk g' s')] ∧ SkOk s' ∧ pureD d = true ∧ P x d) → acc.length + xs.length ≤ 16777216 →
    ∃ ds g' s', lcS tg cnd elt sl (xs.map f) acc [.mu (sk g s)] = okE (.lst (acc ++ ds)) [.mu (sk g' s')] ∧ SkOk s' ∧ AllP P xs ds ∧ pureDs ds = true
  | [], acc, g, s, hs, _, _ => ⟨[], g, s, by simp [lcS], hs, .nil, rfl⟩
  | x :: xs, acc, g, s, hs, h, hl => by
    obtain ⟨sl', d, g1, s1, h1, h2, h3, hs1, hp, hP⟩ := h x (by simp) g s hs
    simp only [List.length_cons] at hl
    obtain ⟨ds, g2, s2, e, hs2, hA, hD⟩ := lcS_sack f P xs (acc ++ [d]) g1 s1 hs1 (fun y hy => h y (by simp [hy])) (by simp; omega)
    refine ⟨d :: ds, g2, s2, ?_, hs2, .cons hP hA, by simp [hp, hD]⟩
    rw [List.map_cons, lcS_cons h1 h2 h3 hp (by omega), e]
    simp
@[simp] theorem e_call0 {gv : Nat → D} {cf : Nat → List D → Mm → Option FR} {sl : Sl} {mm : Mm} {f : Nat} : semE gv cf (.call0 f) sl mm = (match callS (cf f) [] mm with | some (.ok d mm1) => some (.ok d mm1) | _ => none) := by first | (simp only [semE]; done) | (simp only [semE]; rfl)
theorem forS_inv {tg : Tg} {body : Sl → Mm → Option RS} (I : Sl → Mm → Prop) : ∀ (xs : List D) (sl : Sl) (mm : Mm), I sl mm →
    (∀ x ∈ xs, ∀ sl mm, I sl mm → ∃ sl1, bindT tg x sl = some sl1 ∧ ∃ sl2 mm2, body sl1 mm = nxS sl2 mm2 ∧ I sl2 mm2) → ∃ sl' mm', forS tg body xs sl mm = nxS sl' mm' ∧ I sl' mm'
  | [], sl, mm, h, _ => ⟨sl, mm, rfl, h⟩
  | x :: xs, sl, mm, h, st => by
    obtain ⟨sl1, h1, sl2, mm2, h2, h3⟩ := st x (by simp) sl mm h
    obtain ⟨sl', mm', e, k⟩ := forS_inv I xs sl2 mm2 h3 fun y hy => st y (by simp [hy])
    refine ⟨sl', mm', ?_, k⟩
    rw [forS_cons, h1]
    show nextF (body sl1 mm) _ = _
    rw [h2, nextF_nx, e]
def tryS (sub : Nat → Nat → Option Bool) (hs : Hs) (r : Option RS) : Option RS := match r with
    | some (.ex x sl1 mm1) => (match hsS sub hs x with
      | none => none
      | some (some d) => some (.rt d mm1)
      | some none => some (.ex x sl1 mm1))
    | r => r
@[simp] theorem t_try {sub : Nat → Nat → Option Bool} {gv : Nat → D} {cf : Nat → List D → Mm → Option FR} {sl : Sl} {mm : Mm} {b : B} {hs : Hs} : semS sub gv cf (.try b hs) sl mm = tryS sub hs (semB sub gv cf b sl mm) := by simp only [semS]; rfl
/-- a value with an object of its own comes back -/
theorem resP_tm {x : D} {mm : Mm} {o : M} (h : pureD x = true) : resP (some (.rt (.tup [x, .m 0]) [] [o])) mm = okE (.tup [x, .m mm.length]) (mm ++ [o]) := by
  simp [resP, backD, pureD, pureDs, h, okE, backM]
theorem resP_m {mm : Mm} {o : M} : resP (some (.rt (.m 0) [] [o])) mm = okE (.m mm.length) (mm ++ [o]) := by
  simp [resP, backD, pureD, okE, backM]
end Mp
/-! Pv: what holds behind a piece of the small language (weakest preconditions), over Pu1. -/
namespace Mp
def WO (r : Option RE) (Q : D → Mm → Prop) : Prop := ∃ d m, r = some (.ok d m) ∧ Q d m
def WL (r : Option RL) (Q : List D → Mm → Prop) : Prop := ∃ ds m, r = some (.ok ds m) ∧ Q ds m
def WI (r : Option RI) (Q : List D → Mm → Prop) : Prop := ∃ ds m, r = some (.ok ds m) ∧ Q ds m
def WS (r : Option RS) (Q : RS → Prop) : Prop := ∃ x, r = some x ∧ Q x
/-- what a call gives: a value, the lent objects behind it, new objects -/
def WF (r : Option FR) (Q : D → Mm → Mm → Prop) : Prop := ∃ d bs new, r = some (.rt d bs new) ∧ Q d bs new
theorem WO.mono {r : Option RE} {Q Q' : D → Mm → Prop} (h : WO r Q) (f : ∀ d m, Q d m → Q' d m) : WO r Q' := by
  obtain ⟨d, m, e, q⟩ := h; exact ⟨d, m, e, f _ _ q⟩
theorem WS.mono {r : Option RS} {Q Q' : RS → Prop} (h : WS r Q) (f : ∀ x, Q x → Q' x) : WS r Q' := by
  obtain ⟨x, e, q⟩ := h; exact ⟨x, e, f _ q⟩
theorem WF.mono {r : Option FR} {Q Q' : D → Mm → Mm → Prop} (h : WF r Q) (f : ∀ d m k, Q d m k → Q' d m k) : WF r Q' := by
  obtain ⟨d, m, k, e, q⟩ := h; exact ⟨d, m, k, e, f _ _ _ q⟩
theorem WO.of {d : D} {mm : Mm} {r : Option RE} {Q : D → Mm → Prop} (e : r = okE d mm) (q : Q d mm) : WO r Q := ⟨d, mm, e, q⟩
section
variable {gv : Nat → D} {cf : Nat → List D → Mm → Option FR} {sub : Nat → Nat → Option Bool} {sl : Sl} {mm : Mm} {Q : D → Mm → Prop} {QL : List D → Mm → Prop} {QS : RS → Prop}
theorem we_var {i : Nat} {d : D} (h : sl[i]? = some (some d)) (q : Q d mm) : WO (semE gv cf (.var i) sl mm) Q := by
  rw [e_var, h]; exact ⟨d, mm, rfl, q⟩
theorem we_cst {d : D} (q : Q d mm) : WO (semE gv cf (.cst d) sl mm) Q := by rw [e_cst]; exact ⟨d, mm, rfl, q⟩
theorem we_glb {i : Nat} (q : Q (gv i) mm) : WO (semE gv cf (.glb i) sl mm) Q := by rw [e_glb]; exact ⟨gv i, mm, rfl, q⟩
theorem we_no (q : Q .non mm) : WO (semE gv cf .no sl mm) Q := by rw [e_no]; exact ⟨.non, mm, rfl, q⟩
def esLen : Es → Nat
  | .nil => 0
  | .cons _ es => esLen es + 1
theorem sem_len : ∀ (es : Es) (mm : Mm) {ds : List D} {m : Mm}, semEs gv cf es sl mm = some (.ok ds m) → ds.length = esLen es
  | .nil, mm, ds, m, h => by rw [es_nil] at h; cases h; rfl
  | .cons e es, mm, ds, m, h => by
    rw [es_cons] at h
    unfold con1 at h
    cases he : semE gv cf e sl mm with
    | none => rw [he] at h; cases h
    | some r =>
      rw [he] at h
      cases r with
      | ex x m1 => cases h
      | ok d m1 =>
        simp only [] at h
        cases h2 : semEs gv cf es sl m1 with
        | none => rw [h2] at h; cases h
        | some r2 =>
          rw [h2] at h
          cases r2 with
          | ex x m1 => cases h
          | ok ds2 m2 =>
            cases h
            simp only [List.length_cons, esLen, sem_len es m1 h2]
theorem we_tup {es : Es} (w : WL (semEs gv cf es sl mm) fun ds m => Q (.tup ds) m) (hl : esLen es ≤ 16777216 := by decide) : WO (semE gv cf (.tup es) sl mm) Q := by
  obtain ⟨ds, m, e, q⟩ := w
  have := sem_len es mm e
  rw [e_tup, e]
  exact ⟨.tup ds, m, by show (if ds.length ≤ 16777216 then _ else _) = _; rw [if_pos (by omega)]; rfl, q⟩
theorem we_lst {es : Es} (w : WL (semEs gv cf es sl mm) fun ds m => pureDs ds = true ∧ Q (.lst ds) m) (hl : esLen es ≤ 16777216 := by decide) : WO (semE gv cf (.lst es) sl mm) Q := by
  obtain ⟨ds, m, e, p, q⟩ := w
  have := sem_len es mm e
  rw [e_lst, e]
  exact ⟨.lst ds, m, by show (if pureDs ds && decide (ds.length ≤ 16777216) then _ else _) = _; rw [if_pos (by simp [p]; omega)]; rfl, q⟩
theorem we_nls {es : Es} (w : WL (semEs gv cf es sl mm) fun ds m => pureDs ds = true ∧ Q (.m m.length) (m ++ [.mu (.lst ds)])) (hl : esLen es ≤ 16777216 := by decide) : WO (semE gv cf (.nls es) sl mm) Q := by
  obtain ⟨ds, m, e, p, q⟩ := w
  have := sem_len es mm e
  rw [e_nls, e]
  exact ⟨.m m.length, m ++ [.mu (.lst ds)], by show (if pureDs ds && decide (ds.length ≤ 16777216) then _ else _) = _; rw [if_pos (by simp [p]; omega)]; rfl, q⟩
theorem wl_nil (q : QL [] mm) : WL (semEs gv cf .nil sl mm) QL := by rw [es_nil]; exact ⟨[], mm, rfl, q⟩
theorem wl_cons {e : E} {es : Es} (w : WO (semE gv cf e sl mm) fun d m => WL (semEs gv cf es sl m) fun ds m2 => QL (d :: ds) m2) : WL (semEs gv cf (.cons e es) sl mm) QL := by
  obtain ⟨d, m, e1, ds, m2, e2, q⟩ := w
  rw [es_cons, e1]
  refine ⟨d :: ds, m2, ?_, q⟩
  show con2 d (semEs gv cf es sl m) = _
  rw [e2]; rfl
theorem we_un {o : U1} {a : E} (w : WO (semE gv cf a sl mm) fun d m => WO (unS o d m) Q) : WO (semE gv cf (.un o a) sl mm) Q := by
  obtain ⟨d, m, e, d2, m2, e2, q⟩ := w
  rw [e_un, e]
  exact ⟨d2, m2, e2, q⟩
theorem we_bin {o : B2} {a b : E} (w : WO (semE gv cf a sl mm) fun d m => WO (semE gv cf b sl m) fun d2 m2 => WO (binS o d d2 m2) Q) : WO (semE gv cf (.bin o a b) sl mm) Q := by
  obtain ⟨d, m, e, d2, m2, e2, d3, m3, e3, q⟩ := w
  rw [e_bin, e]
  refine ⟨d3, m3, ?_, q⟩
  show bin2 o d (semE gv cf b sl m) = _
  rw [e2]; exact e3
theorem we_mth {o : B2} {a b : E} (w : WO (semE gv cf a sl mm) fun d m => recvOk o d m = true ∧ WO (semE gv cf b sl m) fun d2 m2 => WO (binS o d d2 m2) Q) : WO (semE gv cf (.mth o a b) sl mm) Q := by
  obtain ⟨d, m, e, hr, d2, m2, e2, d3, m3, e3, q⟩ := w
  rw [e_mth, e]
  refine ⟨d3, m3, ?_, q⟩
  show (if recvOk o d m then bin2 o d (semE gv cf b sl m) else none) = _
  rw [if_pos hr, e2]; exact e3
theorem we_not {a : E} (w : WO (semE gv cf a sl mm) fun d m => ∃ b, d = .bl b ∧ Q (.bl (!b)) m) : WO (semE gv cf (.not a) sl mm) Q := by
  obtain ⟨d, m, e, b, rfl, q⟩ := w
  rw [e_not, e]; exact ⟨_, _, rfl, q⟩
theorem we_and {a b : E} (w : WO (semE gv cf a sl mm) fun d m => ∃ p, d = .bl p ∧ (p = true → WO (semE gv cf b sl m) Q) ∧ (p = false → Q (.bl false) m)) : WO (semE gv cf (.and a b) sl mm) Q := by
  obtain ⟨d, m, e, p, rfl, h1, h2⟩ := w
  rw [e_and, e]
  cases p with
  | true => exact h1 rfl
  | false => exact ⟨_, _, rfl, h2 rfl⟩
theorem we_or {a b : E} (w : WO (semE gv cf a sl mm) fun d m => ∃ p, d = .bl p ∧ (p = true → Q (.bl true) m) ∧ (p = false → WO (semE gv cf b sl m) Q)) : WO (semE gv cf (.or a b) sl mm) Q := by
  obtain ⟨d, m, e, p, rfl, h1, h2⟩ := w
  rw [e_or, e]
  cases p with
  | true => exact ⟨_, _, rfl, h1 rfl⟩
  | false => exact h2 rfl
theorem we_ite {c a b : E} (w : WO (semE gv cf c sl mm) fun d m => ∃ p, d = .bl p ∧ (p = true → WO (semE gv cf a sl m) Q) ∧ (p = false → WO (semE gv cf b sl m) Q)) : WO (semE gv cf (.ite c a b) sl mm) Q := by
  obtain ⟨d, m, e, p, rfl, h1, h2⟩ := w
  rw [e_ite, e]
  cases p with
  | true => exact h1 rfl
  | false => exact h2 rfl
theorem we_chn {o p : B2} {a b c : E} (w : WO (semE gv cf a sl mm) fun x m1 => WO (semE gv cf b sl m1) fun y m2 => WO (binS o x y m2) fun z m3 => ∃ t, z = .bl t ∧ (t = true → WO (semE gv cf c sl m3) fun u m4 => WO (binS p y u m4) Q) ∧ (t = false → Q (.bl false) m3)) :
    WO (semE gv cf (.chn o p a b c) sl mm) Q := by
  obtain ⟨x, m1, e1, y, m2, e2, z, m3, e3, t, rfl, h1, h2⟩ := w
  rw [e_chn, e1]
  unfold chn1
  cases t with
  | true =>
    obtain ⟨u, m4, e4, v, m5, e5, q⟩ := h1 rfl
    refine ⟨v, m5, ?_, q⟩
    simp only [bindE, okE, e2, e3, e4, e5]
  | false =>
    refine ⟨.bl false, m3, ?_, h2 rfl⟩
    simp only [bindE, okE, e2, e3]
theorem we_call {f : Nat} {es : Es} (w : WL (semEs gv cf es sl mm) fun ds m => WO (callS (cf f) ds m) Q) : WO (semE gv cf (.call f es) sl mm) Q := by
  obtain ⟨ds, m, e, d2, m2, e2, q⟩ := w
  rw [e_call, e]; exact ⟨d2, m2, e2, q⟩
theorem we_call0 {f : Nat} (w : WO (callS (cf f) [] mm) Q) : WO (semE gv cf (.call0 f) sl mm) Q := by
  obtain ⟨d, m, e, q⟩ := w
  rw [e_call0, e]; exact ⟨d, m, rfl, q⟩
theorem we_slc {a lo hi : E} (w : WO (semE gv cf a sl mm) fun x m1 => WO (semE gv cf lo sl m1) fun l m2 => ∃ l', partS (isNo lo) l = some l' ∧ WO (semE gv cf hi sl m2) fun h m3 => ∃ h', partS (isNo hi) h = some h' ∧ WO (slcS x l' h' m3) Q) :
    WO (semE gv cf (.slc a lo hi) sl mm) Q := by
  obtain ⟨x, m1, e1, l, m2, e2, l', p1, h, m3, e3, h', p2, d, m4, e4, q⟩ := w
  refine ⟨d, m4, ?_, q⟩
  rw [e_slc, e1]
  unfold slc1
  simp only [bindE, e2, p1, e3, p2, e4]
theorem wi_seq {a : E} {QI : List D → Mm → Prop} (w : WO (semE gv cf a sl mm) fun d m => ∃ xs m2, bindE (okE d m) frzS = okE (.lst xs) m2 ∧ QI xs m2 ∨ bindE (okE d m) frzS = okE (.tup xs) m2 ∧ QI xs m2) : WI (semI gv cf (.seq a) sl mm) QI := by
  obtain ⟨d, m, e, xs, m2, h⟩ := w
  rw [i_seqE, e]
  rcases h with ⟨e2, q⟩ | ⟨e2, q⟩
  · refine ⟨xs, m2, ?_, q⟩
    unfold seqI
    have e2 : bindE (some (RE.ok d m)) frzS = okE (.lst xs) m2 := e2
    rw [e2]; rfl
  · refine ⟨xs, m2, ?_, q⟩
    unfold seqI
    have e2 : bindE (some (RE.ok d m)) frzS = okE (.tup xs) m2 := e2
    rw [e2]; rfl
theorem wi_tup {a : E} {QI : List D → Mm → Prop} (w : WO (semE gv cf a sl mm) fun d m => ∃ xs, d = .tup xs ∧ QI xs m) : WI (semI gv cf (.seq a) sl mm) QI := by
  obtain ⟨d, m, e, xs, rfl, q⟩ := w
  exact wi_seq ⟨_, m, e, xs, m, .inr ⟨rfl, q⟩⟩
theorem wi_lst {a : E} {QI : List D → Mm → Prop} (w : WO (semE gv cf a sl mm) fun d m => ∃ xs, d = .lst xs ∧ QI xs m) : WI (semI gv cf (.seq a) sl mm) QI := by
  obtain ⟨d, m, e, xs, rfl, q⟩ := w
  exact wi_seq ⟨_, m, e, xs, m, .inl ⟨rfl, q⟩⟩
theorem wi_rng {a : E} {QI : List D → Mm → Prop} (w : WO (semE gv cf a sl mm) fun d m => ∃ n : Nat, d = .int (n : Int) ∧ n ≤ 1000000 ∧ QI ((List.range n).map fun i : Nat => .int (i : Int)) m) : WI (semI gv cf (.rng a) sl mm) QI := by
  obtain ⟨d, m, e, n, rfl, hn, q⟩ := w
  rw [i_rngE, e]
  have hs : small64 (4 * (n : Int)) = true := by simp only [small64, Bool.and_eq_true, decide_eq_true_eq]; omega
  refine ⟨_, m, ?_, q⟩
  show (if small64 (4 * (n : Int)) = true then okI2 (rngL 0 (n : Int).toNat) m else none) = _
  rw [if_pos hs]
  show okI2 ((List.range n).map _) m = _
  simp only [Int.zero_add]
  rfl
/-! statements -/
theorem wb_nil (q : QS (.nx sl mm)) : WS (semB sub gv cf .nil sl mm) QS := by rw [b_nilE]; exact ⟨_, rfl, q⟩
/-- behind a statement -/
def thenB (k : Sl → Mm → Prop) (Q : RS → Prop) : RS → Prop
  | .nx sl mm => k sl mm
  | r => Q r
theorem wb_cons {s : S} {b : B} (w : WS (semS sub gv cf s sl mm) (thenB (fun sl1 mm1 => WS (semB sub gv cf b sl1 mm1) QS) QS)) : WS (semB sub gv cf (.cons s b) sl mm) QS := by
  obtain ⟨x, e, q⟩ := w
  rw [b_consE, e]
  cases x with
  | nx sl1 mm1 => exact q
  | rt d m => exact ⟨_, rfl, q⟩
  | bk s m => exact ⟨_, rfl, q⟩
  | ct s m => exact ⟨_, rfl, q⟩
  | ex x s m => exact ⟨_, rfl, q⟩
theorem ws_asg {i : Nat} {e : E} (w : WO (semE gv cf e sl mm) fun d m => QS (.nx (sl.set i (some d)) m)) : WS (semS sub gv cf (.asg i e) sl mm) QS := by
  obtain ⟨d, m, e, q⟩ := w
  rw [t_asg, e]; exact ⟨_, rfl, q⟩
theorem ws_unp {is : List Nat} {e : E} (w : WO (semE gv cf e sl mm) fun d m => ∃ sl1, bindT (.tp is) d sl = some sl1 ∧ QS (.nx sl1 m)) : WS (semS sub gv cf (.unp is e) sl mm) QS := by
  obtain ⟨d, m, e, sl1, h, q⟩ := w
  rw [t_unp, e]
  refine ⟨_, ?_, q⟩
  simp only [unpS, h]
theorem ws_par {i j : Nat} {a b : E} (w : WO (semE gv cf a sl mm) fun d m => WO (semE gv cf b sl m) fun d2 m2 => QS (.nx ((sl.set i (some d)).set j (some d2)) m2)) : WS (semS sub gv cf (.par i j a b) sl mm) QS := by
  obtain ⟨d, m, e, d2, m2, e2, q⟩ := w
  rw [t_par, e]
  refine ⟨_, ?_, q⟩
  show par2 i j sl d (semE gv cf b sl m) = _
  rw [e2]; rfl
theorem ws_exp {e : E} (w : WO (semE gv cf e sl mm) fun _ m => QS (.nx sl m)) : WS (semS sub gv cf (.exp e) sl mm) QS := by
  obtain ⟨d, m, e, q⟩ := w
  rw [t_exp, e]; exact ⟨_, rfl, q⟩
theorem ws_ret {e : E} (w : WO (semE gv cf e sl mm) fun d m => QS (.rt d m)) : WS (semS sub gv cf (.ret e) sl mm) QS := by
  obtain ⟨d, m, e, q⟩ := w
  rw [t_ret, e]; exact ⟨_, rfl, q⟩
theorem ws_ifs {c : E} {a b : B} (w : WO (semE gv cf c sl mm) fun d m => ∃ p, d = .bl p ∧ (p = true → WS (semB sub gv cf a sl m) QS) ∧ (p = false → WS (semB sub gv cf b sl m) QS)) : WS (semS sub gv cf (.ifs c a b) sl mm) QS := by
  obtain ⟨d, m, e, p, rfl, h1, h2⟩ := w
  rw [t_ifs, e]
  cases p with
  | true => exact h1 rfl
  | false => exact h2 rfl
/-- a test that is known to fail -/
theorem ws_if0 {c : E} {a b : B} (w : WO (semE gv cf c sl mm) fun d m => d = .bl false ∧ WS (semB sub gv cf b sl m) QS) : WS (semS sub gv cf (.ifs c a b) sl mm) QS :=
  ws_ifs (w.mono fun d m ⟨e, q⟩ => ⟨false, e, fun h => (by cases h), fun _ => q⟩)
theorem ws_if1 {c : E} {a b : B} (w : WO (semE gv cf c sl mm) fun d m => d = .bl true ∧ WS (semB sub gv cf a sl m) QS) : WS (semS sub gv cf (.ifs c a b) sl mm) QS :=
  ws_ifs (w.mono fun d m ⟨e, q⟩ => ⟨true, e, fun _ => q, fun h => (by cases h)⟩)
theorem we_or0 {a b : E} (w : WO (semE gv cf a sl mm) fun d m => d = .bl false ∧ WO (semE gv cf b sl m) Q) : WO (semE gv cf (.or a b) sl mm) Q :=
  we_or (w.mono fun d m ⟨e, q⟩ => ⟨false, e, fun h => (by cases h), fun _ => q⟩)
theorem we_or1 {a b : E} (w : WO (semE gv cf a sl mm) fun d m => d = .bl true ∧ Q (.bl true) m) : WO (semE gv cf (.or a b) sl mm) Q :=
  we_or (w.mono fun d m ⟨e, q⟩ => ⟨true, e, fun _ => q, fun h => (by cases h)⟩)
theorem we_and0 {a b : E} (w : WO (semE gv cf a sl mm) fun d m => d = .bl false ∧ Q (.bl false) m) : WO (semE gv cf (.and a b) sl mm) Q :=
  we_and (w.mono fun d m ⟨e, q⟩ => ⟨false, e, fun h => (by cases h), fun _ => q⟩)
theorem we_and1 {a b : E} (w : WO (semE gv cf a sl mm) fun d m => d = .bl true ∧ WO (semE gv cf b sl m) Q) : WO (semE gv cf (.and a b) sl mm) Q :=
  we_and (w.mono fun d m ⟨e, q⟩ => ⟨true, e, fun _ => q, fun h => (by cases h)⟩)
theorem ws_for {tg : Tg} {it : It} {b : B} (w : WI (semI gv cf it sl mm) fun xs m => WS (forS tg (semB sub gv cf b) xs sl m) QS) : WS (semS sub gv cf (.for tg it b) sl mm) QS := by
  obtain ⟨xs, m, e, q⟩ := w
  rw [t_for, e]; exact q
/-- a for by its invariant (behind so many items); the body goes on -/
theorem wf_inv {tg : Tg} {body : Sl → Mm → Option RS} {QS : RS → Prop} (I : List D → Sl → Mm → Prop) : ∀ (xs : List D) (sl : Sl) (mm : Mm), I xs sl mm →
    (∀ x r sl mm, I (x :: r) sl mm → ∃ sl1, bindT tg x sl = some sl1 ∧ WS (body sl1 mm) fun y => match y with | .nx sl2 mm2 => I r sl2 mm2 | .ct sl2 mm2 => I r sl2 mm2 | _ => False) →
    (∀ sl mm, I [] sl mm → QS (.nx sl mm)) → WS (forS tg body xs sl mm) QS
  | [], sl, mm, h, _, q => ⟨_, rfl, q sl mm h⟩
  | x :: xs, sl, mm, h, st, q => by
    obtain ⟨sl1, e1, y, e2, hy⟩ := st x xs sl mm h
    rw [forS_cons, e1]
    show WS (nextF (body sl1 mm) _) QS
    rw [e2]
    cases y with
    | nx sl2 mm2 => exact wf_inv I xs sl2 mm2 hy st q
    | ct sl2 mm2 => exact wf_inv I xs sl2 mm2 hy st q
    | rt _ _ => exact hy.elim
    | bk _ _ => exact hy.elim
    | ex _ _ _ => exact hy.elim
/-- the same, where the items are known to be some list's -/
theorem wf_mem {tg : Tg} {body : Sl → Mm → Option RS} {QS : RS → Prop} (I : Sl → Mm → Prop) (xs : List D) (sl : Sl) (mm : Mm) (h : I sl mm)
    (st : ∀ x ∈ xs, ∀ sl mm, I sl mm → ∃ sl1, bindT tg x sl = some sl1 ∧ WS (body sl1 mm) fun y => match y with | .nx sl2 mm2 => I sl2 mm2 | .ct sl2 mm2 => I sl2 mm2 | _ => False)
    (q : ∀ sl mm, I sl mm → QS (.nx sl mm)) : WS (forS tg body xs sl mm) QS := by
  refine wf_inv (fun r sl mm => (∀ x ∈ r, x ∈ xs) ∧ I sl mm) xs sl mm ⟨fun _ h => h, h⟩ (fun x r sl mm hI => ?_) fun sl mm h => q sl mm h.2
  obtain ⟨sl1, e1, w⟩ := st x (hI.1 x (by simp)) sl mm hI.2
  refine ⟨sl1, e1, w.mono fun y hy => ?_⟩
  have hr : ∀ x ∈ r, x ∈ xs := fun z hz => hI.1 z (by simp [hz])
  cases y with
  | nx sl2 mm2 => exact ⟨hr, hy⟩
  | ct sl2 mm2 => exact ⟨hr, hy⟩
  | rt _ _ => exact hy
  | bk _ _ => exact hy
  | ex _ _ _ => exact hy
theorem ws_sto {i : Nat} {ix e : E} (w : WO (semE gv cf e sl mm) fun d m => ∃ k, sl[i]? = some (some (.m k)) ∧ pureD d = true ∧ WO (semE gv cf ix sl m) fun j m2 => ∃ (n : Nat) (xs : List D), j = .int (n : Int) ∧ m2[k]? = some (.mu (.lst xs)) ∧ n < xs.length ∧ QS (.nx sl (m2.set k (.mu (.lst (xs.set n d)))))) :
    WS (semS sub gv cf (.sto i ix e) sl mm) QS := by
  obtain ⟨d, m, e1, k, hk, hp, j, m2, e2, n, xs, rfl, hm, hn, q⟩ := w
  rw [t_sto, e1]
  refine ⟨_, ?_, q⟩
  show sto2 sl[i]? d sl (semE gv cf ix sl m) = _
  rw [hk, e2]
  show sto3 m2[k]? k n d sl m2 = _
  rw [hm]
  have hx : ixP xs.length (n : Int) = some n := by
    show L2.ixN xs.length (n : Int) = _
    unfold L2.ixN
    rw [if_pos (by omega), if_pos (by omega)]
    rfl
  simp only [sto3, hx, hp, if_true]
theorem wo_app {k : Nat} {xs : List D} {b : D} (hk : mm[k]? = some (.mu (.lst xs))) (hp : pureD b = true) (hl : xs.length < 16777216) (q : Q .non (mm.set k (.mu (.lst (xs ++ [b]))))) : WO (binS .app (.m k) b mm) Q :=
  ⟨_, _, by simp only [binS, hk, hp, Bool.true_and, szl, hl, decide_true, if_true]; rfl, q⟩
theorem recv_app {k : Nat} {xs : List D} (hk : mm[k]? = some (.mu (.lst xs))) : recvOk .app (.m k) mm = true := by simp [recvOk, rd, hk, M.val]
/-! calls -/
theorem wc_pure {g : List D → Mm → Option FR} {ds : List D} {d : D} (h : g ds [] = some (.rt d [] [])) (hp : pureDs ds = true) (hd : pureD d = true) (q : Q d mm) : WO (callS g ds mm) Q := by
  rw [callS_pp hp, h, resP_rt, if_pos hd]; exact ⟨_, _, rfl, q⟩
theorem wc_new {g : List D → Mm → Option FR} {ds : List D} {o : M} (h : g ds [] = some (.rt (.m 0) [] [o])) (hp : pureDs ds = true) (q : Q (.m mm.length) (mm ++ [o])) : WO (callS g ds mm) Q := by
  rw [callS_pp hp, h, resP_m]; exact ⟨_, _, rfl, q⟩
theorem wc_m1 {g : List D → Mm → Option FR} {k : Nat} {v c c' : D} (hk : mm[k]? = some (.mu c)) (h : g [.m 0] [.mu c] = some (.rt v [.mu c'] [])) (hv : pureD v = true) (q : Q v (mm.set k (.mu c'))) : WO (callS g [.m k] mm) Q := by
  rw [callS_m1 hk hv h]; exact ⟨_, _, rfl, q⟩
theorem wc_m2 {g : List D → Mm → Option FR} {k : Nat} {d v c c' : D} (hk : mm[k]? = some (.mu c)) (hd : pureD d = true) (h : g [.m 0, d] [.mu c] = some (.rt v [.mu c'] [])) (hv : pureD v = true) (q : Q v (mm.set k (.mu c'))) : WO (callS g [.m k, d] mm) Q := by
  rw [callS_m2 hk hd hv h]; exact ⟨_, _, rfl, q⟩
end
/-! the sack, drawn from -/
def SkC (c : D) : Prop := ∃ g s, SkOk s ∧ c = sk g s
/-- a draw: a value with P, the sack behind it -/
def Dr (g : List D → Mm → Option FR) (ds : List D) (P : D → Prop) : Prop := ∀ c, SkC c → ∃ v c', SkC c' ∧ P v ∧ pureD v = true ∧ g (.m 0 :: ds) [.mu c] = some (.rt v [.mu c'] [])
theorem wc_dr1 {g : List D → Mm → Option FR} {P : D → Prop} (h : Dr g [] P) {mm : Mm} {k : Nat} {c : D} {Q : D → Mm → Prop} (hk : mm[k]? = some (.mu c)) (hc : SkC c)
    (q : ∀ v c', P v → pureD v = true → SkC c' → Q v (mm.set k (.mu c'))) : WO (callS g [.m k] mm) Q := by
  obtain ⟨v, c', h1, h2, h3, e⟩ := h c hc
  exact wc_m1 hk e h3 (q v c' h2 h3 h1)
theorem wc_dr2 {g : List D → Mm → Option FR} {P : D → Prop} {d : D} (h : Dr g [d] P) {mm : Mm} {k : Nat} {c : D} {Q : D → Mm → Prop} (hk : mm[k]? = some (.mu c)) (hc : SkC c) (hd : pureD d = true)
    (q : ∀ v c', P v → pureD v = true → SkC c' → Q v (mm.set k (.mu c'))) : WO (callS g [.m k, d] mm) Q := by
  obtain ⟨v, c', h1, h2, h3, e⟩ := h c hc
  exact wc_m2 hk hd e h3 (q v c' h2 h3 h1)
/-- a def's body, from what holds behind it -/
theorem callF_of {sub : Nat → Nat → Option Bool} {T : Nat → FDef} {gv : Nat → D} {n f : Nat} {args : List D} {bs : Mm} {r : Option FR} {fd : FDef} (hT : T f = fd) (hn : (args.length == fd.np) = true)
    (w : WS (semB sub gv (callF sub T gv n) fd.body (startS fd.ns args) bs) fun x => match x with | .nx _ mm => finF bs.length .non mm = r | .rt d mm => finF bs.length d mm = r | .ex x _ mm => exF bs.length x mm = r | _ => False) :
    callF sub T gv (n + 1) f args bs = r := by
  obtain ⟨x, e, q⟩ := w
  rw [callF_succ, hT, if_pos hn, e]
  cases x with
  | nx s m => exact q
  | rt d m => exact q
  | ex x s m => exact q
  | bk _ _ => exact q.elim
  | ct _ _ => exact q.elim
/-- the same, for a draw: the sack alone is lent -/
theorem callF_dr {sub : Nat → Nat → Option Bool} {T : Nat → FDef} {gv : Nat → D} {n f : Nat} {ds : List D} {P : D → Prop} {fd : FDef} (hT : T f = fd) (hn : ((D.m 0 :: ds).length == fd.np) = true)
    (w : ∀ c, SkC c → WS (semB sub gv (callF sub T gv n) fd.body (startS fd.ns (.m 0 :: ds)) [.mu c]) fun x => match x with | .rt d m => P d ∧ pureD d = true ∧ ∃ c', SkC c' ∧ m[0]? = some (.mu c') | _ => False) :
    Dr (callF sub T gv (n + 1) f) ds P := fun c hc => by
  obtain ⟨x, e, q⟩ := w c hc
  cases x with
  | rt d m =>
    obtain ⟨h1, h2, c', h3, h4⟩ := q
    refine ⟨d, c', h3, h1, h2, ?_⟩
    rw [callF_succ, hT, if_pos hn, e]
    have ht : m.take 1 = [.mu c'] := by
      cases m with
      | nil => simp at h4
      | cons a m => simp at h4; subst h4; rfl
    show finF 1 d m = _
    unfold finF
    rw [ht, h2]
    rfl
  | nx s m => exact q.elim
  | ex x s m => exact q.elim
  | bk _ _ => exact q.elim
  | ct _ _ => exact q.elim
end Mp
/-! Pv2: more rules over Pv: comprehensions, equality, turns one by one. -/
namespace Mp
theorem WO.eq {r : Option RE} {v : D} {mm : Mm} (h : WO r fun d m => d = v ∧ m = mm) : r = okE v mm := by
  obtain ⟨d, m, e, rfl, rfl⟩ := h; exact e
theorem lcS_fm {tg : Tg} {cnd elt : Sl → Mm → Option RE} {sl : Sl} {mm : Mm} (p : D → Bool) (g : D → D) : ∀ (xs acc : List D), (∀ x ∈ xs, ∃ sl', bindT tg x (wipeS sl (tgIx tg)) = some sl' ∧ cnd sl' mm = okE (.bl (p x)) mm ∧ (p x = true → elt sl' mm = okE (g x) mm ∧ pureD (g x) = true)) →
    acc.length + xs.length ≤ 16777216 → lcS tg cnd elt sl xs acc mm = okE (.lst (acc ++ (xs.filter p).map g)) mm
  | [], acc, _, _ => by simp [lcS]
  | x :: xs, acc, h, hl => by
    obtain ⟨sl', h1, h2, h3⟩ := h x (by simp)
    simp only [List.length_cons] at hl
    cases hp : p x with
    | true =>
      rw [hp] at h2
      obtain ⟨h4, h5⟩ := h3 hp
      rw [lcS_cons h1 h2 h4 h5 (by omega), lcS_fm p g xs _ (fun y hy => h y (by simp [hy])) (by simp; omega)]
      simp [hp]
    | false =>
      rw [hp] at h2
      have e : lcS tg cnd elt sl (x :: xs) acc mm = lcS tg cnd elt sl xs acc mm := by
        simp only [okE] at h2
        simp [lcS, h1, h2]
      rw [e, lcS_fm p g xs acc (fun y hy => h y (by simp [hy])) (by omega)]
      simp [hp]
section
variable {gv : Nat → D} {cf : Nat → List D → Mm → Option FR} {sub : Nat → Nat → Option Bool} {sl : Sl} {mm : Mm} {Q : D → Mm → Prop} {QL : List D → Mm → Prop} {QS : RS → Prop}
/-- a comprehension whose test and element leave all as it is -/
theorem we_lc {tg : Tg} {elt cnd : E} {it : It} (p : D → Bool) (g : D → D) (w : WI (semI gv cf it sl mm) fun xs m => xs.length ≤ 16777216 ∧
    (∀ x ∈ xs, ∃ sl', bindT tg x (wipeS sl (tgIx tg)) = some sl' ∧ WO (semE gv cf cnd sl' m) (fun d m' => d = .bl (p x) ∧ m' = m) ∧ (p x = true → WO (semE gv cf elt sl' m) (fun d m' => d = g x ∧ m' = m) ∧ pureD (g x) = true)) ∧
    Q (.lst ((xs.filter p).map g)) m) : WO (semE gv cf (.lc false tg elt it cnd) sl mm) Q := by
  obtain ⟨xs, m, e, hl, h, q⟩ := w
  rw [e_lc, e]
  refine ⟨_, m, ?_, q⟩
  show bindE (lcS tg _ _ sl xs [] m) _ = _
  rw [lcS_fm p g xs [] (fun x hx => by
    obtain ⟨sl', h1, h2, h3⟩ := h x hx
    exact ⟨sl', h1, h2.eq, fun hp => ⟨(h3 hp).1.eq, (h3 hp).2⟩⟩) (by simpa using hl)]
  rfl
theorem we_lcM {tg : Tg} {elt cnd : E} {it : It} (p : D → Bool) (g : D → D) (w : WI (semI gv cf it sl mm) fun xs m => xs.length ≤ 16777216 ∧
    (∀ x ∈ xs, ∃ sl', bindT tg x (wipeS sl (tgIx tg)) = some sl' ∧ WO (semE gv cf cnd sl' m) (fun d m' => d = .bl (p x) ∧ m' = m) ∧ (p x = true → WO (semE gv cf elt sl' m) (fun d m' => d = g x ∧ m' = m) ∧ pureD (g x) = true)) ∧
    Q (.m m.length) (m ++ [.mu (.lst ((xs.filter p).map g))])) : WO (semE gv cf (.lc true tg elt it cnd) sl mm) Q := by
  obtain ⟨xs, m, e, hl, h, q⟩ := w
  rw [e_lc, e]
  refine ⟨_, _, ?_, q⟩
  show bindE (lcS tg _ _ sl xs [] m) _ = _
  rw [lcS_fm p g xs [] (fun x hx => by
    obtain ⟨sl', h1, h2, h3⟩ := h x hx
    exact ⟨sl', h1, h2.eq, fun hp => ⟨(h3 hp).1.eq, (h3 hp).2⟩⟩) (by simpa using hl)]
  rfl
theorem filter_none {p : D → Bool} : ∀ {xs : List D}, (∀ x ∈ xs, p x = false) → xs.filter p = []
  | [], _ => rfl
  | x :: xs, h => by rw [List.filter_cons, h x (by simp)]; exact filter_none fun y hy => h y (by simp [hy])
theorem wf_nil {tg : Tg} {body : Sl → Mm → Option RS} (q : QS (.nx sl mm)) : WS (forS tg body [] sl mm) QS := ⟨_, rfl, q⟩
/-- behind a turn -/
def turnF (k : Sl → Mm → Prop) (Q : RS → Prop) : RS → Prop
  | .nx sl mm => k sl mm
  | .ct sl mm => k sl mm
  | .bk sl mm => Q (.nx sl mm)
  | r => Q r
theorem wf_cons {tg : Tg} {body : Sl → Mm → Option RS} {x : D} {xs : List D} {sl1 : Sl} (h : bindT tg x sl = some sl1) (w : WS (body sl1 mm) (turnF (fun sl2 mm2 => WS (forS tg body xs sl2 mm2) QS) QS)) : WS (forS tg body (x :: xs) sl mm) QS := by
  obtain ⟨y, e, q⟩ := w
  rw [forS_cons, h]
  show WS (nextF (body sl1 mm) _) QS
  rw [e]
  cases y with
  | nx sl2 mm2 => exact q
  | ct sl2 mm2 => exact q
  | bk sl2 mm2 => exact ⟨_, rfl, q⟩
  | rt d m => exact ⟨_, rfl, q⟩
  | ex x s m => exact ⟨_, rfl, q⟩
end
mutual
theorem eqD_self : ∀ v : D, hgt v < 100 → eqD v v = true
  | .non, _ => rfl
  | .bl b, _ => by simp [eqD]
  | .int _, _ => by simp [eqD]
  | .str _, _ => by simp [eqD]
  | .tup xs, h => by
    simp only [hgt] at h
    simp only [eqD]; exact eqDs_self xs (by omega)
  | .lst xs, h => by
    simp only [hgt] at h
    simp only [eqD]; exact eqDs_self xs (by omega)
  | .dct _ _, h => by simp only [hgt] at h; omega
  | .dtu _ _, h => by simp only [hgt] at h; omega
  | .obj _ _, h => by simp only [hgt] at h; omega
  | .m _, h => by simp only [hgt] at h; omega
theorem eqDs_self : ∀ xs : List D, hgts xs < 100 → eqDs xs xs = true
  | [], _ => rfl
  | x :: xs, h => by
    simp only [hgts] at h
    simp only [eqDs, eqD_self x (by omega), eqDs_self xs (by omega), Bool.and_self]
end
theorem rd_low {v : D} (h : hgt v < 100) {mm : Mm} : rd mm v = v := by
  cases v <;> first | rfl | (simp only [hgt] at h; omega)
theorem wo_eqL {a b : D} {mm : Mm} {Q : D → Mm → Prop} (ha : hgt a ≤ 64) (hb : hgt b ≤ 64) (q : Q (.bl (eqD a b)) mm) : WO (binS .eq a b mm) Q := by
  refine WO.of ?_ q
  show eqS a b false mm = _
  unfold eqS
  rw [rd_low (show hgt a < 100 by omega), rd_low (show hgt b < 100 by omega)]
  simp [okEq, ha, hb]
theorem wo_neL {a b : D} {mm : Mm} {Q : D → Mm → Prop} (ha : hgt a ≤ 64) (hb : hgt b ≤ 64) (q : Q (.bl (!eqD a b)) mm) : WO (binS .ne a b mm) Q := by
  refine WO.of ?_ q
  show eqS a b true mm = _
  unfold eqS
  rw [rd_low (show hgt a < 100 by omega), rd_low (show hgt b < 100 by omega)]
  simp [okEq, ha, hb]
/-- two equal things of any kind (what is read) -/
theorem wo_ne0 {a b v : D} {mm : Mm} {Q : D → Mm → Prop} (ha : rd mm a = v) (hb : rd mm b = v) (hv : hgt v ≤ 64) (q : Q (.bl false) mm) : WO (binS .ne a b mm) Q := by
  refine WO.of ?_ q
  show eqS a b true mm = _
  unfold eqS
  rw [ha, hb]
  simp [okEq, hv, eqD_self v (by omega)]
theorem wo_eq1 {a b v : D} {mm : Mm} {Q : D → Mm → Prop} (ha : rd mm a = v) (hb : rd mm b = v) (hv : hgt v ≤ 64) (q : Q (.bl true) mm) : WO (binS .eq a b mm) Q := by
  refine WO.of ?_ q
  show eqS a b false mm = _
  unfold eqS
  rw [ha, hb]
  simp [okEq, hv, eqD_self v (by omega)]
end Mp
/-! Pv3: while, dicts, three names at once, over Pv2. -/
namespace Mp
section
variable {gv : Nat → D} {cf : Nat → List D → Mm → Option FR} {sub : Nat → Nat → Option Bool} {sl : Sl} {mm : Mm} {Q : D → Mm → Prop} {QL : List D → Mm → Prop} {QS : RS → Prop}
theorem bindE_some {d : D} {m : Mm} {f : D → Mm → Option RE} {r : Option RE} (h : r = some (.ok d m)) : bindE r f = f d m := by rw [h]; rfl
theorem we_dn {tk : Bool} (q : Q (.m mm.length) (mm ++ [.mu (if tk then .dtu [] [] else .dct [] [])])) : WO (semE gv cf (.dn tk) sl mm) Q := ⟨_, _, by simp only [semE]; rfl, q⟩
theorem we_d1 {k v : E} (w : WO (semE gv cf k sl mm) fun y m => WO (semE gv cf v sl m) fun d m2 => isKD y = true ∧ pureD d = true ∧ Q (.m m2.length) (m2 ++ [.mu (.dtu [y] [d])])) : WO (semE gv cf (.d1 k v) sl mm) Q := by
  obtain ⟨y, m, e1, d, m2, e2, h1, h2, q⟩ := w
  refine ⟨_, _, ?_, q⟩
  simp only [semE]
  rw [bindE_some e1, bindE_some e2, h1, h2]; rfl
theorem we_get1 {a k : E} (w : WO (semE gv cf a sl mm) fun c m => isDct (rd m c) = true ∧ WO (semE gv cf k sl m) fun y m2 => WO (getS c y .non m2) Q) : WO (semE gv cf (.get1 a k) sl mm) Q := by
  obtain ⟨c, m, e1, h, y, m2, e2, d, m3, e3, q⟩ := w
  refine ⟨d, m3, ?_, q⟩
  simp only [semE]
  rw [bindE_some e1, h, if_pos rfl, bindE_some e2]; exact e3
theorem we_get2 {a k x : E} (w : WO (semE gv cf a sl mm) fun c m => isDct (rd m c) = true ∧ WO (semE gv cf k sl m) fun y m2 => WO (semE gv cf x sl m2) fun z m3 => WO (getS c y z m3) Q) : WO (semE gv cf (.get2 a k x) sl mm) Q := by
  obtain ⟨c, m, e1, h, y, m2, e2, z, m3, e3, d, m4, e4, q⟩ := w
  refine ⟨d, m4, ?_, q⟩
  simp only [semE]
  rw [bindE_some e1, h, if_pos rfl, bindE_some e2, bindE_some e3]; exact e4
theorem ws_par3 {i j l : Nat} {a b c : E} (w : WO (semE gv cf a sl mm) fun u m1 => WO (semE gv cf b sl m1) fun v m2 => WO (semE gv cf c sl m2) fun x m3 => QS (.nx (((sl.set i (some u)).set j (some v)).set l (some x)) m3)) : WS (semS sub gv cf (.par3 i j l a b c) sl mm) QS := by
  obtain ⟨u, m1, e1, v, m2, e2, x, m3, e3, q⟩ := w
  refine ⟨_, ?_, q⟩
  simp only [semS, semEs, e1, e2, e3]
theorem ws_std {i : Nat} {ix e : E} (w : WO (semE gv cf e sl mm) fun d m => ∃ k, sl[i]? = some (some (.m k)) ∧ pureD d = true ∧ WO (semE gv cf ix sl m) fun y m2 => ∃ c c', m2[k]? = some (.mu c) ∧ putD c y d = some c' ∧ QS (.nx sl (m2.set k (.mu c')))) :
    WS (semS sub gv cf (.std i ix e) sl mm) QS := by
  obtain ⟨d, m, e1, k, hk, hp, y, m2, e2, c, c', hm, hc, q⟩ := w
  refine ⟨_, ?_, q⟩
  simp only [semS, e1, hk, e2, hm, hp, if_true, hc]
/-- in, not in a dict of tuples -/
theorem wo_memU {a b : D} {ks vs : List D} (hb : rd mm b = .dtu ks vs) (ha : isKD a = true) (hk : ks.all isKD = true) (q : Q (.bl (memD a ks)) mm) : WO (binS .mem a b mm) Q :=
  WO.of (by
    show memS a b false mm = _
    unfold memS
    rw [hb]
    simp [ha, hk]) q
theorem wo_nmemU {a b : D} {ks vs : List D} (hb : rd mm b = .dtu ks vs) (ha : isKD a = true) (hk : ks.all isKD = true) (q : Q (.bl (!memD a ks)) mm) : WO (binS .nmem a b mm) Q :=
  WO.of (by
    show memS a b true mm = _
    unfold memS
    rw [hb]
    simp [ha, hk]) q
theorem wo_idxU {a b : D} {ks vs : List D} {j : Nat} {x : D} (ha : rd mm a = .dtu ks vs) (hb : isKD b = true) (hk : ks.all isKD = true) (hj : idxOfD b ks = some j) (hx : vs[j]? = some x) (q : Q x mm) : WO (binS .idx a b mm) Q :=
  WO.of (by
    show idxS a b mm = _
    unfold idxS
    rw [ha]
    simp [hb, hk, hj, hx]) q
theorem putD_newU {ks vs : List D} {y d : D} (h1 : isKD y = true) (h2 : ks.all isKD = true) (h3 : ks.length < 16777216) (h4 : idxOfD y ks = none) : putD (.dtu ks vs) y d = some (.dtu (ks ++ [y]) (vs ++ [d])) := by
  have h3 : ks.length < szl := h3
  simp only [putD, h1, h2, h3, decide_true, Bool.and_self, if_true, h4]
theorem putD_oldU {ks vs : List D} {y d : D} {j : Nat} (h1 : isKD y = true) (h2 : ks.all isKD = true) (h3 : ks.length < 16777216) (h4 : idxOfD y ks = some j) : putD (.dtu ks vs) y d = some (.dtu ks (vs.set j d)) := by
  have h3 : ks.length < szl := h3
  simp only [putD, h1, h2, h3, decide_true, Bool.and_self, if_true, h4]
theorem putD_newK {ks vs : List D} {y d : D} (h1 : isKT y = true) (h2 : ks.all isKT = true) (h3 : ks.length < 16777216) (h4 : idxOfD y ks = none) : putD (.dct ks vs) y d = some (.dct (ks ++ [y]) (vs ++ [d])) := by
  have h3 : ks.length < szl := h3
  simp only [putD, h1, h2, h3, decide_true, Bool.and_self, if_true, h4]
theorem putD_oldK {ks vs : List D} {y d : D} {j : Nat} (h1 : isKT y = true) (h2 : ks.all isKT = true) (h3 : ks.length < 16777216) (h4 : idxOfD y ks = some j) : putD (.dct ks vs) y d = some (.dct ks (vs.set j d)) := by
  have h3 : ks.length < szl := h3
  simp only [putD, h1, h2, h3, decide_true, Bool.and_self, if_true, h4]
theorem wo_memK {a b : D} {ks vs : List D} (hb : rd mm b = .dct ks vs) (ha : isKT a = true) (hk : ks.all isKT = true) (q : Q (.bl (memD a ks)) mm) : WO (binS .mem a b mm) Q :=
  WO.of (by
    show memS a b false mm = _
    unfold memS
    rw [hb]
    simp [ha, hk]) q
theorem wo_nmemK {a b : D} {ks vs : List D} (hb : rd mm b = .dct ks vs) (ha : isKT a = true) (hk : ks.all isKT = true) (q : Q (.bl (!memD a ks)) mm) : WO (binS .nmem a b mm) Q :=
  WO.of (by
    show memS a b true mm = _
    unfold memS
    rw [hb]
    simp [ha, hk]) q
theorem wo_idxK {a b : D} {ks vs : List D} {j : Nat} {x : D} (ha : rd mm a = .dct ks vs) (hb : isKT b = true) (hk : ks.all isKT = true) (hj : idxOfD b ks = some j) (hx : vs[j]? = some x) (q : Q x mm) : WO (binS .idx a b mm) Q :=
  WO.of (by
    show idxS a b mm = _
    unfold idxS
    rw [ha]
    simp [hb, hk, hj, hx]) q
/-- what a while's turn leaves -/
def turnW (k : Sl → Mm → Prop) (Q : RS → Prop) : RS → Prop
  | .nx sl mm => k sl mm
  | .ct sl mm => k sl mm
  | .bk sl mm => Q (.nx sl mm)
  | r => Q r
theorem whl_by {cnd : Sl → Mm → Option RE} {body : Sl → Mm → Option RS} (I : Nat → Sl → Mm → Prop)
    (st : ∀ n sl mm, I n sl mm → WO (cnd sl mm) fun d m => ∃ t, d = .bl t ∧ (t = true → WS (body sl m) (turnW (fun sl2 mm2 => ∃ n', n' < n ∧ I n' sl2 mm2) QS)) ∧ (t = false → QS (.nx sl m))) :
    ∀ (fuel n : Nat) (sl : Sl) (mm : Mm), n < fuel → I n sl mm → WS (whlS cnd body fuel sl mm) QS := by
  intro fuel
  induction fuel with
  | zero => intro n sl mm h; omega
  | succ fuel ih =>
    intro n sl mm hn hI
    obtain ⟨d, m, e, t, rfl, h1, h2⟩ := st n sl mm hI
    cases t with
    | false => exact ⟨.nx sl m, by simp only [whlS, e], h2 rfl⟩
    | true =>
      obtain ⟨y, e2, hy⟩ := h1 rfl
      cases y with
      | nx sl2 mm2 =>
        obtain ⟨n', hn', hI'⟩ := hy
        obtain ⟨z, e3, hz⟩ := ih n' sl2 mm2 (by omega) hI'
        exact ⟨z, by simp only [whlS, e, e2]; exact e3, hz⟩
      | ct sl2 mm2 =>
        obtain ⟨n', hn', hI'⟩ := hy
        obtain ⟨z, e3, hz⟩ := ih n' sl2 mm2 (by omega) hI'
        exact ⟨z, by simp only [whlS, e, e2]; exact e3, hz⟩
      | bk sl2 mm2 => exact ⟨_, by simp only [whlS, e, e2], hy⟩
      | rt d m => exact ⟨_, by simp only [whlS, e, e2], hy⟩
      | ex x s m => exact ⟨_, by simp only [whlS, e, e2], hy⟩
theorem ws_whl {c : E} {b : B} (I : Nat → Sl → Mm → Prop) {n : Nat} (hI : I n sl mm) (hn : n < 1000000000000)
    (st : ∀ n sl mm, I n sl mm → WO (semE gv cf c sl mm) fun d m => ∃ t, d = .bl t ∧ (t = true → WS (semB sub gv cf b sl m) (turnW (fun sl2 mm2 => ∃ n', n' < n ∧ I n' sl2 mm2) QS)) ∧ (t = false → QS (.nx sl m))) :
    WS (semS sub gv cf (.whl c b) sl mm) QS := by
  have h := whl_by (QS := QS) I st wMost n sl mm hn hI
  obtain ⟨x, e, q⟩ := h
  exact ⟨x, by simp only [semS]; exact e, q⟩
theorem wi_dtu {a : E} {QI : List D → Mm → Prop} (w : WO (semE gv cf a sl mm) fun d m => ∃ ks vs, d = .dtu ks vs ∧ QI ks m) : WI (semI gv cf (.seq a) sl mm) QI := by
  obtain ⟨d, m, e, ks, vs, rfl, q⟩ := w
  rw [i_seqE, e]
  exact ⟨ks, m, rfl, q⟩
/-- a list of the activation is walked -/
theorem wi_m {a : E} {QI : List D → Mm → Prop} (w : WO (semE gv cf a sl mm) fun d m => ∃ k xs, d = .m k ∧ m[k]? = some (.mu (.lst xs)) ∧ QI xs (m.set k (.fz (.lst xs)))) : WI (semI gv cf (.seq a) sl mm) QI := by
  obtain ⟨d, m, e, k, xs, rfl, hk, q⟩ := w
  refine wi_seq ⟨_, m, e, xs, _, .inl ⟨?_, q⟩⟩
  simp only [bindE, okE, frzS, hk, isObj, Bool.false_eq_true, if_false]
theorem wo_frzM {k : Nat} {c : D} (hk : mm[k]? = some (.mu c)) (q : Q c (mm.set k (.fz c))) (ho : isObj c = false := by rfl) : WO (unS .frz (.m k) mm) Q :=
  WO.of (by simp only [unS, frzS, hk, ho, Bool.false_eq_true, if_false]) q
theorem wo_frzD {d : D} (h : ∀ k, d ≠ .m k) (q : Q d mm) : WO (unS .frz d mm) Q :=
  WO.of (by cases d <;> first | rfl | exact absurd rfl (h _)) q
/-- a for, by what holds behind the items done -/
theorem wf_pre {α : Type} {tg : Tg} {body : Sl → Mm → Option RS} {QS : RS → Prop} (f : α → D) (I : List α → Sl → Mm → Prop) (xs : List α) (sl : Sl) (mm : Mm) (h0 : I [] sl mm)
    (st : ∀ a x b, xs = a ++ x :: b → ∀ sl mm, I a sl mm → ∃ sl1, bindT tg (f x) sl = some sl1 ∧ WS (body sl1 mm) fun y => match y with | .nx sl2 mm2 => I (a ++ [x]) sl2 mm2 | .ct sl2 mm2 => I (a ++ [x]) sl2 mm2 | _ => False)
    (q : ∀ sl mm, I xs sl mm → QS (.nx sl mm)) : WS (forS tg body (xs.map f) sl mm) QS := by
  refine wf_inv (fun r sl mm => ∃ a b, xs = a ++ b ∧ r = b.map f ∧ I a sl mm) (xs.map f) sl mm ⟨[], xs, rfl, rfl, h0⟩ (fun y r sl mm hI => ?_) fun sl mm hI => ?_
  · obtain ⟨a, b, e, hb, h⟩ := hI
    cases b with
    | nil => cases hb
    | cons x b =>
      injection hb with e1 e2
      subst e1; subst e2
      obtain ⟨sl1, h1, w⟩ := st a x b e sl mm h
      refine ⟨sl1, h1, w.mono fun y hy => ?_⟩
      cases y with
      | nx sl2 mm2 => exact ⟨a ++ [x], b, by simp [e], rfl, hy⟩
      | ct sl2 mm2 => exact ⟨a ++ [x], b, by simp [e], rfl, hy⟩
      | rt _ _ => exact hy
      | bk _ _ => exact hy
      | ex _ _ _ => exact hy
  · obtain ⟨a, b, e, hb, h⟩ := hI
    cases b with
    | nil => rw [List.append_nil] at e; subst e; exact q sl mm h
    | cons x b => cases hb
/-- the same, where a turn may also hand a value back -/
theorem wf_preR {α : Type} {tg : Tg} {body : Sl → Mm → Option RS} {QS : RS → Prop} (f : α → D) (I : List α → Sl → Mm → Prop) (xs : List α)
    (st : ∀ a x b, xs = a ++ x :: b → ∀ sl mm, I a sl mm → ∃ sl1, bindT tg (f x) sl = some sl1 ∧ WS (body sl1 mm) fun y => match y with | .nx sl2 mm2 => I (a ++ [x]) sl2 mm2 | .ct sl2 mm2 => I (a ++ [x]) sl2 mm2 | .rt d m => QS (.rt d m) | _ => False)
    (q : ∀ sl mm, I xs sl mm → QS (.nx sl mm)) : ∀ (b a : List α), xs = a ++ b → ∀ sl mm, I a sl mm → WS (forS tg body (b.map f) sl mm) QS
  | [], a, e, sl, mm, h => by
    rw [List.append_nil] at e; subst e
    exact ⟨_, rfl, q sl mm h⟩
  | x :: b, a, e, sl, mm, h => by
    obtain ⟨sl1, e1, y, e2, hy⟩ := st a x b e sl mm h
    rw [List.map_cons, forS_cons, e1]
    show WS (nextF (body sl1 mm) _) QS
    rw [e2]
    cases y with
    | nx sl2 mm2 => exact wf_preR f I xs st q b (a ++ [x]) (by simp [e]) sl2 mm2 hy
    | ct sl2 mm2 => exact wf_preR f I xs st q b (a ++ [x]) (by simp [e]) sl2 mm2 hy
    | rt d m => exact ⟨_, rfl, hy⟩
    | bk _ _ => exact hy.elim
    | ex _ _ _ => exact hy.elim
end
end Mp
/-! Pw: the operators, each by what it gives, over Pv3. -/
namespace Mp
section
variable {mm : Mm} {Q : D → Mm → Prop}
theorem wo_eqI {a b : Int} (q : Q (.bl (decide (a = b))) mm) : WO (binS .eq (.int a) (.int b) mm) Q := WO.of (by simp) q
theorem wo_neI {a b : Int} (q : Q (.bl (!decide (a = b))) mm) : WO (binS .ne (.int a) (.int b) mm) Q := WO.of (by show eqS _ _ _ _ = _; simp [eqS, okEq, hgt, eqD, rd]) q
theorem wo_eqT {a b : Tx} (q : Q (.bl (decide (a = b))) mm) : WO (binS .eq (.str a) (.str b) mm) Q := WO.of (by simp) q
theorem wo_neT {a b : Tx} (q : Q (.bl (!decide (a = b))) mm) : WO (binS .ne (.str a) (.str b) mm) Q := WO.of (by show eqS _ _ _ _ = _; simp [eqS, okEq, hgt, eqD, rd]) q
theorem wo_ltI {a b : Int} (q : Q (.bl (decide (a < b))) mm) : WO (binS .lt (.int a) (.int b) mm) Q := WO.of rfl q
theorem wo_leI {a b : Int} (q : Q (.bl (decide (a ≤ b))) mm) : WO (binS .le (.int a) (.int b) mm) Q := WO.of rfl q
theorem wo_gtI {a b : Int} (q : Q (.bl (decide (b < a))) mm) : WO (binS .gt (.int a) (.int b) mm) Q := WO.of rfl q
theorem wo_geI {a b : Int} (q : Q (.bl (decide (b ≤ a))) mm) : WO (binS .ge (.int a) (.int b) mm) Q := WO.of rfl q
theorem wo_addI {a b : Int} (q : Q (.int (a + b)) mm) : WO (binS .add (.int a) (.int b) mm) Q := WO.of rfl q
theorem wo_subI {a b : Int} (q : Q (.int (a - b)) mm) : WO (binS .sub (.int a) (.int b) mm) Q := WO.of rfl q
theorem wo_min2 {a b : Int} (q : Q (.int (if b < a then b else a)) mm) : WO (binS .min2 (.int a) (.int b) mm) Q := WO.of rfl q
theorem wo_max2 {a b : Int} (q : Q (.int (if b > a then b else a)) mm) : WO (binS .max2 (.int a) (.int b) mm) Q := WO.of rfl q
theorem wo_intB {p : Prop} [Decidable p] (q : Q (.int (if p then 1 else 0)) mm) : WO (unS .int (.bl (decide p)) mm) Q := WO.of (by by_cases h : p <;> simp [unS, h]) q
theorem wo_intb {b : Bool} (q : Q (.int (if b then 1 else 0)) mm) : WO (unS .int (.bl b) mm) Q := WO.of rfl q
theorem wo_addT {xs ys : List D} (h : xs.length + ys.length ≤ 16777216) (q : Q (.tup (xs ++ ys)) mm) : WO (binS .add (.tup xs) (.tup ys) mm) Q :=
  WO.of (by show (if xs.length + ys.length ≤ 16777216 then _ else _) = _; rw [if_pos h]) q
theorem wo_addL {a b : D} {xs ys : List D} (ha : rd mm a = .lst xs) (hb : rd mm b = .lst ys) (h : xs.length + ys.length ≤ 16777216) (q : Q (.lst (xs ++ ys)) mm) : WO (binS .add a b mm) Q :=
  WO.of (by
    show addS a b mm = _
    unfold addS
    rw [ha, hb]
    show (if xs.length + ys.length ≤ 16777216 then _ else _) = _; rw [if_pos h]) q
/-- an index that is not negative -/
theorem wo_ixT {a : D} {xs : List D} {i : Nat} {x : D} (ha : rd mm a = .tup xs) (hx : xs[i]? = some x) (q : Q x mm) : WO (binS .idx a (.int (i : Int)) mm) Q :=
  WO.of (by
    show idxS a (.int (i : Int)) mm = _
    unfold idxS
    rw [ha]
    have hi : i < xs.length := (List.getElem?_eq_some_iff.mp hx).1
    have hn : L2.ixN xs.length (i : Int) = some i := by
      unfold L2.ixN
      rw [if_pos (by omega), if_pos (by omega)]
      rfl
    show (match L2.atI xs (i : Int) with | some x => okE x mm | none => none) = _
    unfold L2.atI
    rw [hn]
    simp only [Option.bind_some, hx]) q
theorem wo_ixL {a : D} {xs : List D} {i : Nat} {x : D} (ha : rd mm a = .lst xs) (hx : xs[i]? = some x) (q : Q x mm) : WO (binS .idx a (.int (i : Int)) mm) Q :=
  WO.of (by
    show idxS a (.int (i : Int)) mm = _
    unfold idxS
    rw [ha]
    have hi : i < xs.length := (List.getElem?_eq_some_iff.mp hx).1
    have hn : L2.ixN xs.length (i : Int) = some i := by
      unfold L2.ixN
      rw [if_pos (by omega), if_pos (by omega)]
      rfl
    show (match L2.atI xs (i : Int) with | some x => okE x mm | none => none) = _
    unfold L2.atI
    rw [hn]
    simp only [Option.bind_some, hx]) q
theorem wo_lenL {a : D} {xs : List D} (ha : rd mm a = .lst xs) (q : Q (.int (xs.length : Int)) mm) : WO (unS .len a mm) Q :=
  WO.of (by
    show (match rd mm a with | .str s => _ | .tup xs => _ | .lst xs => okE (.int (xs.length : Int)) mm | _ => none) = _
    rw [ha]) q
theorem wo_lenT {xs : List D} (q : Q (.int (xs.length : Int)) mm) : WO (unS .len (.tup xs) mm) Q := WO.of rfl q
theorem rd_m {k : Nat} {c : M} (h : mm[k]? = some c) : rd mm (.m k) = c.val := by
  show (match mm[k]? with | some x => x.val | none => .non) = _
  rw [h]
theorem wo_memL {a b : D} {xs : List D} (hb : rd mm b = .lst xs) (ha : hgt a ≤ 64) (hx : hgts xs + 1 ≤ 64) (q : Q (.bl (memD a xs)) mm) : WO (binS .mem a b mm) Q :=
  WO.of (by
    show memS a b false mm = _
    unfold memS
    rw [hb]
    simp [okEq, hgt, ha, hx]) q
theorem wo_memT {a b : D} {xs : List D} (hb : rd mm b = .tup xs) (ha : hgt a ≤ 64) (hx : hgts xs + 1 ≤ 64) (q : Q (.bl (memD a xs)) mm) : WO (binS .mem a b mm) Q :=
  WO.of (by
    show memS a b false mm = _
    unfold memS
    rw [hb]
    simp [okEq, hgt, ha, hx]) q
theorem wo_getN {a b x : D} {ks vs : List D} (ha : rd mm a = .dct ks vs) (hb : isKT b = true) (hk : ks.all isKT = true) (hi : idxOfD b ks = none) (q : Q x mm) : WO (getS a b x mm) Q :=
  WO.of (by unfold getS; rw [ha]; simp [hb, hk, hi]) q
theorem wo_getK {a b x y : D} {ks vs : List D} {j : Nat} (ha : rd mm a = .dct ks vs) (hb : isKT b = true) (hk : ks.all isKT = true) (hi : idxOfD b ks = some j) (hy : vs[j]? = some y) (q : Q y mm) : WO (getS a b x mm) Q :=
  WO.of (by unfold getS; rw [ha]; simp [hb, hk, hi, hy]) q
end
/-- a try whose body raises what is caught -/
theorem ws_tryX {sub : Nat → Nat → Option Bool} {gv : Nat → D} {cf : Nat → List D → Mm → Option FR} {sl sl1 : Sl} {mm mm1 : Mm} {QS : RS → Prop} {b : B} {hs : Hs} {x : Ex} {d : D} (h : semB sub gv cf b sl mm = some (.ex x sl1 mm1)) (hh : hsS sub hs x = some (some d)) (q : QS (.rt d mm1)) : WS (semS sub gv cf (.try b hs) sl mm) QS := by
  rw [t_try, h]
  exact ⟨_, by simp only [tryS, hh], q⟩
end Mp
/-! Ba: rules, parts, stands, events, what events do (no program in sight), over Pv. -/
namespace Mp
structure Ru where
  c : Int
  b : Tx
  p : Tx
  o : Int
  k : Int
  l : Tx
  m : Tx
  a : Bool
  r : Bool
abbrev Ru.d (r : Ru) : D := .tup [.int r.c, .str r.b, .str r.p, .int r.o, .int r.k, .str r.l, .str r.m, .bl r.a, .bl r.r]
structure Good (r : Ru) : Prop where
  c1 : 1 ≤ r.c
  c2 : r.c ≤ 4
  b : r.b = tAnew ∨ r.b = tLonger ∨ r.b = tNew ∨ r.b = tSame
  p : r.p = tAnew ∨ r.p = tLonger ∨ r.p = tSame
  o1 : 0 ≤ r.o
  o2 : r.o ≤ 3
  k1 : 0 ≤ r.k
  k2 : r.k ≤ 8
  l : r.l = tEither ∨ r.l = tFirst ∨ r.l = tThing
  m : r.m = tEnds ∨ r.m = tStays
  ck : r.k = 0 ∨ r.c ≤ r.k
structure Pt where
  k : Tx
  w : Int
  s : Tx
  deriving DecidableEq
abbrev Pt.d (p : Pt) : D := .tup [.str p.k, .int p.w, .str p.s]
def dQ : Option Pt → D
  | none => .non
  | some p => p.d
structure Sd where
  age : Int
  left : Int
  p : Pt
  q : Option Pt
  deriving DecidableEq
abbrev Sd.d (s : Sd) : D := .tup [.int s.age, .int s.left, s.p.d, dQ s.q]
@[simp] theorem dQ_some {p : Pt} : dQ (some p) = .tup [.str p.k, .int p.w, .str p.s] := rfl
@[simp] theorem dQ_none : dQ none = .non := rfl
@[simp] theorem dQ_pure {q : Option Pt} : pureD (dQ q) = true := by cases q <;> simp [dQ]
@[simp] theorem dQ_isN {q : Option Pt} {mm : Mm} : unS .isN (dQ q) mm = okE (.bl q.isNone) mm := by cases q <;> rfl
@[simp] theorem dQ_notN {q : Option Pt} {mm : Mm} : unS .notN (dQ q) mm = okE (.bl q.isSome) mm := by cases q <;> rfl
def changedM (r : Ru) (age left : Int) (w : Tx) : Int :=
  let l := if w = tAnew ∨ w = tNew then r.c else if w = tLonger then min (left + 1) r.c else left
  if r.k = 0 then l else min l (r.k - age)
def coveredM (r : Ru) (left : Int) (p : Pt) : Bool :=
  let t := decide (0 < left) && (!decide (p.k = tAlien) || r.a)
  if r.l = tFirst then (if p.k = tCame then decide (0 < p.w) else t) else t || (decide (r.l = tEither) && decide (0 < p.w))
def movedM (r : Ru) (p : Pt) : Pt := if r.m = tStays then p else ⟨p.k, 0, p.s⟩
def olderM (p : Pt) : Pt := ⟨p.k, max 0 (p.w - 1), p.s⟩
def claimedM (r : Ru) (s : Sd) : Sd × Tx :=
  if s.p.s = tGood then (s, tNothing) else if coveredM r s.left s.p = false then (s, tRefused) else
    (⟨s.age, changedM r s.age s.left r.p, ⟨tCame, r.o, tGood⟩, if r.r = true then s.q else some ⟨(movedM r s.p).k, (movedM r s.p).w, tPaid⟩⟩, tPaid)
def bodiedM (r : Ru) (s : Sd) : Sd × Tx :=
  if s.left = 0 then (s, tRefused) else (⟨s.age, changedM r s.age s.left r.b, if r.b = tNew then ⟨tFirst, 0, tGood⟩ else s.p, s.q⟩, tPaid)
def dayM (r : Ru) (s : Sd) : Sd := ⟨if r.k = 0 then s.age else min (s.age + 1) r.k, max 0 (s.left - 1), olderM s.p, s.q.map olderM⟩
inductive Ev where | body | break | claim | day | fetch | put
  deriving DecidableEq
def Ev.t : Ev → Tx
  | .body => tBody
  | .break => tBreak
  | .claim => tClaim
  | .day => tDay
  | .fetch => tFetch
  | .put => tPut
abbrev Ev.d (e : Ev) : D := .tup [.str e.t]
def stepM (r : Ru) (s : Sd) (e : Ev) : Sd × Tx := match e with
  | .body => bodiedM r s
  | .claim => claimedM r s
  | .day => (dayM r s, tDone)
  | .break => let t : Sd := if s.p.s = tGood then ⟨s.age, s.left, ⟨s.p.k, s.p.w, tBroken⟩, s.q⟩ else s
    (t, if t = s then tNothing else tDone)
  | .fetch => let t : Sd := ⟨s.age, s.left, s.p, some ⟨tAlien, 0, tBroken⟩⟩
    (t, if t = s then tNothing else tDone)
  | .put => let t : Sd := match s.q with
      | none => s
      | some q => ⟨s.age, s.left, movedM r q, some (movedM r s.p)⟩
    (t, if t = s then tNothing else tDone)
theorem eq_Pt (p q : Pt) : eqD p.d q.d = decide (p = q) := by
  cases p; cases q
  simp [eqD, eqDs, Pt.d, Bool.and_comm]
theorem eq_dQ (p q : Option Pt) : eqD (dQ p) (dQ q) = decide (p = q) := by
  cases p <;> cases q
  · rfl
  · rfl
  · rfl
  · rename_i a b
    show eqD a.d b.d = _
    rw [eq_Pt]; simp
theorem eq_Sd (s t : Sd) : eqD s.d t.d = decide (s = t) := by
  rcases s with ⟨a, l, ⟨k, w, x⟩, q⟩
  rcases t with ⟨a', l', ⟨k', w', x'⟩, q'⟩
  simp only [eqD, eqDs, Sd.d, Pt.d, eq_dQ]
  simp [Sd.mk.injEq, Pt.mk.injEq, Bool.and_assoc]
theorem hgt_dQ (q : Option Pt) : hgt (dQ q) ≤ 1 := by cases q <;> simp [dQ, hgt, hgts]
theorem ne_Sd (s t : Sd) (mm : Mm) : binS .ne s.d t.d mm = okE (.bl (!decide (s = t))) mm := by
  have h1 := hgt_dQ s.q
  have h2 := hgt_dQ t.q
  have o1 : okEq s.d = true := by simp [okEq, Sd.d, hgt, hgts]; omega
  have o2 : okEq t.d = true := by simp [okEq, Sd.d, hgt, hgts]; omega
  show eqS s.d t.d true mm = _
  unfold eqS
  simp only [rdv_tup, o1, o2, Bool.and_self, if_true, eq_Sd]
structure GoodS (r : Ru) (s : Sd) : Prop where
  age : 0 ≤ s.age
  left : 0 ≤ s.left
  cap : r.k = 0 → s.age = 0
  own : 0 ≤ s.p.w
  loose : ∀ q, s.q = some q → 0 ≤ q.w
section
variable {mm : Mm}
@[simp] theorem slc_two {a b c : D} : slcS (.tup [a, b, c]) none (some 2) mm = okE (.tup [a, b]) mm := rfl
@[simp] theorem o_addT {xs ys : List D} : binS .add (.tup xs) (.tup ys) mm = if xs.length + ys.length ≤ 16777216 then okE (.tup (xs ++ ys)) mm else none := rfl
@[simp] theorem o_eqT1 {x y : Tx} : binS .eq (.tup [.str x]) (.tup [.str y]) mm = okE (.bl (decide (x = y))) mm := by
  show eqS _ _ _ _ = _
  simp [eqS, okEq, hgt, hgts, eqD, eqDs]
theorem eq_Sd2 (s t : Sd) (mm : Mm) : binS .eq s.d t.d mm = okE (.bl (decide (s = t))) mm := by
  have h1 := hgt_dQ s.q
  have h2 := hgt_dQ t.q
  have o1 : okEq s.d = true := by simp [okEq, Sd.d, hgt, hgts]; omega
  have o2 : okEq t.d = true := by simp [okEq, Sd.d, hgt, hgts]; omega
  show eqS s.d t.d false mm = _
  unfold eqS
  simp only [rdv_tup, o1, o2, Bool.and_self, if_true, eq_Sd]
  rfl
end
/-! ### what stays -/
theorem changed_nn {r : Ru} (g : Good r) {age left : Int} {w : Tx} (ha : r.k = 0 ∨ age ≤ r.k) (hl : 0 ≤ left) : 0 ≤ changedM r age left w := by
  have := g.c1
  unfold changedM
  simp only []
  split <;> split <;> (try split) <;> omega
abbrev s0 (r : Ru) : Sd := ⟨0, r.c, ⟨tFirst, 0, tGood⟩, none⟩
/-! ### stands stay good -/
structure GoodT (r : Ru) (s : Sd) : Prop extends GoodS r s where
  capb : s.age ≤ r.k
theorem good_s0 {r : Ru} (g : Good r) : GoodT r (s0 r) := by
  have h1 := g.c1
  have h2 := g.k1
  exact { age := by simp, left := by show 0 ≤ r.c; omega, cap := fun _ => rfl, own := by simp, loose := fun q h => (by cases h), capb := by show (0 : Int) ≤ r.k; omega }
theorem moved_own {r : Ru} {p : Pt} (h : 0 ≤ p.w) : 0 ≤ (movedM r p).w := by
  unfold movedM
  split
  · exact h
  · exact Int.le_refl 0
theorem good_step {r : Ru} (g : Good r) {s : Sd} (t : GoodT r s) (e : Ev) : GoodT r (stepM r s e).1 := by
  have c1 := g.c1
  have o1 := g.o1
  have k1 := g.k1
  have ta := t.age
  have tl := t.left
  have tc := t.cap
  have tw := t.own
  have tq := t.loose
  have tb := t.capb
  cases e
  · show GoodT r (bodiedM r s).1
    unfold bodiedM
    split
    · exact t
    · refine { age := ta, left := changed_nn g (.inr tb) tl, cap := tc, own := ?_, loose := tq, capb := tb }
      show 0 ≤ (if r.b = tNew then (⟨tFirst, 0, tGood⟩ : Pt) else s.p).w
      split
      · exact Int.le_refl 0
      · exact tw
  · show GoodT r (if s.p.s = tGood then (⟨s.age, s.left, ⟨s.p.k, s.p.w, tBroken⟩, s.q⟩ : Sd) else s)
    split
    · exact { age := ta, left := tl, cap := tc, own := tw, loose := tq, capb := tb }
    · exact t
  · show GoodT r (claimedM r s).1
    unfold claimedM
    split
    · exact t
    · split
      · exact t
      · refine { age := ta, left := changed_nn g (.inr tb) tl, cap := tc, own := o1, loose := fun q h => ?_, capb := tb }
        have h : (if r.r = true then s.q else some (⟨(movedM r s.p).k, (movedM r s.p).w, tPaid⟩ : Pt)) = some q := h
        split at h
        · exact tq q h
        · cases h; exact moved_own tw
  · show GoodT r (dayM r s)
    refine { age := ?_, left := ?_, cap := fun h => ?_, own := ?_, loose := fun q h => ?_, capb := ?_ }
    · show 0 ≤ (if r.k = 0 then s.age else min (s.age + 1) r.k); split <;> omega
    · show 0 ≤ max 0 (s.left - 1); omega
    · show (if r.k = 0 then s.age else min (s.age + 1) r.k) = 0; rw [if_pos h]; exact tc h
    · show 0 ≤ max 0 (s.p.w - 1); omega
    · have h : s.q.map olderM = some q := h
      obtain ⟨q', _, rfl⟩ := Option.map_eq_some_iff.mp h
      show 0 ≤ max 0 (q'.w - 1); omega
    · show (if r.k = 0 then s.age else min (s.age + 1) r.k) ≤ r.k; split <;> omega
  · exact { age := ta, left := tl, cap := tc, own := tw, loose := fun q h => (by cases h; exact Int.le_refl 0), capb := tb }
  · show GoodT r (match s.q with | none => s | some q => (⟨s.age, s.left, movedM r q, some (movedM r s.p)⟩ : Sd))
    cases hq : s.q with
    | none => exact t
    | some q => exact { age := ta, left := tl, cap := tc, own := moved_own (tq q hq), loose := fun q h => (by cases h; exact moved_own tw), capb := tb }
abbrev rowD (evs : List Ev) : D := .tup (evs.map Ev.d)
theorem pure_evs : ∀ evs : List Ev, pureDs (evs.map Ev.d) = true
  | [] => rfl
  | e :: evs => by rw [List.map_cons, pu_cons, pure_evs evs]; simp [Ev.d]
def runM (r : Ru) : Sd → List Ev → Sd × List Tx
  | s, [] => (s, [])
  | s, e :: es => ((runM r (stepM r s e).1 es).1, (stepM r s e).2 :: (runM r (stepM r s e).1 es).2)
theorem pure_strs : ∀ ws : List Tx, pureDs (ws.map .str) = true
  | [] => rfl
  | _ :: ws => by rw [List.map_cons, pu_cons, pure_strs ws]; rfl
end Mp
/-! StA: what the program does at an event (12 .. 20) -/
namespace Mp
abbrev cF := callF sub T gv
theorem T13 : T 13 = p_changed := rfl
theorem changed_ok (n : Nat) (r : Ru) (age left : Int) (w : Tx) : cF (n + 1) 13 [r.d, .int age, .int left, .str w] [] = some (.rt (.int (changedM r age left w)) [] []) := by
  simp [cF, callF_succ, T13, p_changed, startS, ifS_b, iteE_b, andE_b, orE_b, Ru.d]
  by_cases h1 : w = tAnew <;> by_cases h2 : w = tNew <;> by_cases h3 : w = tLonger <;> by_cases h4 : r.k = 0 <;> simp [h1, h2, h3, h4, changedM]
theorem begin_ok (n : Nat) (r : Ru) : cF (n + 1) 12 [r.d] [] = some (.rt (Sd.d ⟨0, r.c, ⟨tFirst, 0, tGood⟩, none⟩) [] []) := rfl
theorem T14 : T 14 = p_is_covered := rfl
theorem is_covered_ok (n : Nat) (r : Ru) (left : Int) (p : Pt) : cF (n + 1) 14 [r.d, .int left, p.d] [] = some (.rt (.bl (coveredM r left p)) [] []) := by
  simp [cF, callF_succ, T14, p_is_covered, startS, ifS_b, iteE_b, andE_b, orE_b, Ru.d, Pt.d]
  by_cases h1 : r.l = tFirst <;> by_cases h2 : p.k = tCame <;> by_cases h3 : r.l = tEither <;> simp [h1, h2, h3, coveredM]
theorem T15 : T 15 = p_moved := rfl
theorem moved_ok (n : Nat) (r : Ru) (p : Pt) : cF (n + 1) 15 [r.d, p.d] [] = some (.rt (movedM r p).d [] []) := by
  simp [cF, callF_succ, T15, p_moved, startS, ifS_b, iteE_b, andE_b, orE_b, Ru.d, Pt.d]
  by_cases h1 : r.m = tStays <;> simp [h1, movedM]
theorem T16 : T 16 = p_day_older := rfl
theorem older_ok (n : Nat) (p : Option Pt) : cF (n + 1) 16 [dQ p] [] = some (.rt (dQ (p.map olderM)) [] []) := by
  cases p <;> simp [cF, callF_succ, T16, p_day_older, startS, ifS_b, iteE_b, andE_b, orE_b, Pt.d, dQ, olderM]
theorem T17 : T 17 = p_claimed := rfl
theorem claimed_ok (n : Nat) (r : Ru) (s : Sd) : cF (n + 2) 17 [r.d, s.d] [] = some (.rt (.tup [(claimedM r s).1.d, .str (claimedM r s).2]) [] []) := by
  have e1 := changed_ok n r
  have e2 := is_covered_ok n r
  have e3 := moved_ok n r
  simp only [cF, Ru.d, Pt.d] at e1 e2 e3
  simp [cF, callF_succ (n := n + 1), T17, p_claimed, startS, ifS_b, iteE_b, andE_b, orE_b, Ru.d, Pt.d, Sd.d, e1, e2, e3]
  by_cases h1 : s.p.s = tGood <;> cases h2 : coveredM r s.left s.p <;> cases h3 : r.r <;> simp [h1, h2, h3, claimedM]
theorem T18 : T 18 = p_bodied := rfl
theorem bodied_ok (n : Nat) (r : Ru) (s : Sd) : cF (n + 2) 18 [r.d, s.d] [] = some (.rt (.tup [(bodiedM r s).1.d, .str (bodiedM r s).2]) [] []) := by
  have e1 := changed_ok n r
  simp only [cF, Ru.d, Pt.d] at e1
  simp [cF, callF_succ (n := n + 1), T18, p_bodied, startS, ifS_b, iteE_b, andE_b, orE_b, Ru.d, Pt.d, Sd.d, e1]
  by_cases h1 : s.left = 0 <;> by_cases h2 : r.b = tNew <;> simp [h1, h2, bodiedM]
theorem T19 : T 19 = p_a_day_later := rfl
theorem older_p (n : Nat) (p : Pt) : cF (n + 1) 16 [p.d] [] = some (.rt (olderM p).d [] []) := older_ok n (some p)
theorem day_ok (n : Nat) (r : Ru) (s : Sd) : cF (n + 2) 19 [r.d, s.d] [] = some (.rt (dayM r s).d [] []) := by
  have e1 := older_ok n
  have e2 := older_p n
  simp only [cF, Ru.d, Pt.d] at e1 e2
  simp [cF, callF_succ (n := n + 1), T19, p_a_day_later, startS, ifS_b, iteE_b, andE_b, orE_b, Ru.d, Pt.d, Sd.d, e1, e2]
  by_cases h1 : r.k = 0 <;> simp [h1, dayM]
theorem T20 : T 20 = p_step := rfl
theorem step_ok (n : Nat) (r : Ru) (s : Sd) (e : Ev) : cF (n + 3) 20 [r.d, s.d, e.d] [] = some (.rt (.tup [(stepM r s e).1.d, .str (stepM r s e).2]) [] []) := by
  have e1 := claimed_ok n r s
  have e2 := bodied_ok n r s
  have e3 := day_ok n r s
  have e4 := moved_ok (n + 1) r
  simp only [cF, Ru.d, Pt.d, Sd.d] at e1 e2 e3 e4
  have f0 := fun mm => ne_Sd s s mm
  have f1 := fun mm => ne_Sd ⟨s.age, s.left, ⟨s.p.k, s.p.w, tBroken⟩, s.q⟩ s mm
  have f2 := fun mm => ne_Sd ⟨s.age, s.left, s.p, some ⟨tAlien, 0, tBroken⟩⟩ s mm
  simp only [Sd.d, Pt.d, dQ_some] at f0 f1 f2
  cases e
  · simp [cF, callF_succ (n := n + 2), T20, p_step, startS, ifS_b, iteE_b, andE_b, orE_b, Ru.d, Pt.d, Sd.d, Ev.d, Ev.t, e2, stepM]
  · by_cases h : s.p.s = tGood
    · simp only [h] at f1
      simp [cF, callF_succ (n := n + 2), T20, p_step, startS, ifS_b, iteE_b, andE_b, orE_b, Ru.d, Pt.d, Sd.d, Ev.d, Ev.t, stepM, h, f1]
      by_cases h2 : (⟨s.age, s.left, ⟨s.p.k, s.p.w, tBroken⟩, s.q⟩ : Sd) = s <;> simp [h2]
    · simp [cF, callF_succ (n := n + 2), T20, p_step, startS, ifS_b, iteE_b, andE_b, orE_b, Ru.d, Pt.d, Sd.d, Ev.d, Ev.t, stepM, h, f0]
  · simp [cF, callF_succ (n := n + 2), T20, p_step, startS, ifS_b, iteE_b, andE_b, orE_b, Ru.d, Pt.d, Sd.d, Ev.d, Ev.t, e1, stepM]
  · simp [cF, callF_succ (n := n + 2), T20, p_step, startS, ifS_b, iteE_b, andE_b, orE_b, Ru.d, Pt.d, Sd.d, Ev.d, Ev.t, e3, stepM]
  · simp [cF, callF_succ (n := n + 2), T20, p_step, startS, ifS_b, iteE_b, andE_b, orE_b, Ru.d, Pt.d, Sd.d, Ev.d, Ev.t, stepM, f2]
    by_cases h2 : (⟨s.age, s.left, s.p, some ⟨tAlien, 0, tBroken⟩⟩ : Sd) = s <;> simp [h2]
  · cases hq : s.q with
    | none =>
      rw [hq] at f0
      simp only [dQ_none] at f0
      simp [cF, callF_succ (n := n + 2), T20, p_step, startS, ifS_b, iteE_b, andE_b, orE_b, Ru.d, Pt.d, Sd.d, Ev.d, Ev.t, stepM, hq, f0]
    | some q =>
      have f3 := fun mm => ne_Sd ⟨s.age, s.left, movedM r q, some (movedM r s.p)⟩ s mm
      simp only [Sd.d, Pt.d, dQ_some, hq] at f3
      simp [cF, callF_succ (n := n + 2), T20, p_step, startS, ifS_b, iteE_b, andE_b, orE_b, Ru.d, Pt.d, Sd.d, Ev.d, Ev.t, e4, stepM, hq, f3]
      by_cases h2 : (⟨s.age, s.left, movedM r q, some (movedM r s.p)⟩ : Sd) = s <;> simp [h2]
end Mp
/-! StR: rules are rules (0 .. 3, 6) -/
namespace Mp
abbrev cR := callF sub T gv
/-! ### rules -/
theorem T3 : T 3 = p_is_rule := rfl
abbrev isRuleB : B := (.cons (.ifs (.not (.un .any (.lc false (.nm 3) (.call 2 (.cons (.var 2) (.cons (.var 3) .nil))) (.seq (.call 0 (.cons (.var 1) .nil))) (.cst (.bl true)))))
    (.cons (.ret (.cst (.bl false)))
    .nil)
    .nil)
    .nil)
abbrev pn (i : Nat) : D := match gv 0 with
  | .tup xs => xs.getD i .non
  | _ => .non
def turn (n : Nat) (rd p v : D) : Prop := ∀ x, semB sub gv (callF sub T gv (n + 2)) isRuleB [some rd, some p, some v, x] [] = nxS [some rd, some p, some v, x] []
theorem turn_c (n : Nat) (rd : D) {c : Int} (h1 : 1 ≤ c) (h2 : c ≤ 4) : turn n rd (pn 0) (.int c) := fun x => by
  have h : c = 1 ∨ c = 2 ∨ c = 3 ∨ c = 4 := by omega
  rcases h with h | h | h | h <;> subst h <;> rfl
theorem words_b {mm : Mm} : binS .split (.str [97, 110, 101, 119, 32, 108, 111, 110, 103, 101, 114, 32, 110, 101, 119, 32, 115, 97, 109, 101]) (.str [32]) mm = okE (.lst [.str tAnew, .str tLonger, .str tNew, .str tSame]) mm := by
  have h : splitT [97, 110, 101, 119, 32, 108, 111, 110, 103, 101, 114, 32, 110, 101, 119, 32, 115, 97, 109, 101] [32] = [tAnew, tLonger, tNew, tSame] := by rw [splitT_spl (by simp) (by decide)]; rfl
  simp [binS, h, okT, szl]
theorem values_b (n : Nat) : callF sub T gv (n + 1) 0 [pn 1] [] = some (.rt (.lst [.str tAnew, .str tLonger, .str tNew, .str tSame]) [] []) := by
  rw [callF_succ]
  show endF 0 (seqS (retS _ (binS .split (.str [97, 110, 101, 119, 32, 108, 111, 110, 103, 101, 114, 32, 110, 101, 119, 32, 115, 97, 109, 101]) (.str [32]) [])) _) = _
  rw [words_b]
  rfl
theorem words_p {mm : Mm} : binS .split (.str [97, 110, 101, 119, 32, 108, 111, 110, 103, 101, 114, 32, 115, 97, 109, 101]) (.str [32]) mm = okE (.lst [.str tAnew, .str tLonger, .str tSame]) mm := by
  have h : splitT [97, 110, 101, 119, 32, 108, 111, 110, 103, 101, 114, 32, 115, 97, 109, 101] [32] = [tAnew, tLonger, tSame] := by rw [splitT_spl (by simp) (by decide)]; rfl
  simp [binS, h, okT, szl]
theorem values_p (n : Nat) : callF sub T gv (n + 1) 0 [pn 2] [] = some (.rt (.lst [.str tAnew, .str tLonger, .str tSame]) [] []) := by
  rw [callF_succ]
  show endF 0 (seqS (retS _ (binS .split (.str [97, 110, 101, 119, 32, 108, 111, 110, 103, 101, 114, 32, 115, 97, 109, 101]) (.str [32]) [])) _) = _
  rw [words_p]
  rfl
theorem words_l {mm : Mm} : binS .split (.str [101, 105, 116, 104, 101, 114, 32, 102, 105, 114, 115, 116, 32, 116, 104, 105, 110, 103]) (.str [32]) mm = okE (.lst [.str tEither, .str tFirst, .str tThing]) mm := by
  have h : splitT [101, 105, 116, 104, 101, 114, 32, 102, 105, 114, 115, 116, 32, 116, 104, 105, 110, 103] [32] = [tEither, tFirst, tThing] := by rw [splitT_spl (by simp) (by decide)]; rfl
  simp [binS, h, okT, szl]
theorem values_l (n : Nat) : callF sub T gv (n + 1) 0 [pn 5] [] = some (.rt (.lst [.str tEither, .str tFirst, .str tThing]) [] []) := by
  rw [callF_succ]
  show endF 0 (seqS (retS _ (binS .split (.str [101, 105, 116, 104, 101, 114, 32, 102, 105, 114, 115, 116, 32, 116, 104, 105, 110, 103]) (.str [32]) [])) _) = _
  rw [words_l]
  rfl
theorem turn_b (n : Nat) (rd : D) {b : Tx} (h : b = tAnew ∨ b = tLonger ∨ b = tNew ∨ b = tSame) : turn n rd (pn 1) (.str b) := fun x => by
  have hI : ∀ v, semI gv (callF sub T gv (n + 2)) (.seq (.call 0 (.cons (.var 1) .nil))) [some rd, some (pn 1), some v, x] [] = okI2 [.str tAnew, .str tLonger, .str tNew, .str tSame] [] := fun v => by
    rw [i_seqE, e_call, es_cons, e_var]
    show seqI (callS (callF sub T gv (n + 2) 0) [pn 1] []) = _
    rw [callS_pp (by rfl), values_b]
    rfl
  rw [b_consE, t_ifs, e_not, e_un, e_lc, hI]
  rcases h with h | h | h | h <;> subst h <;> rfl
theorem turn_p (n : Nat) (rd : D) {b : Tx} (h : b = tAnew ∨ b = tLonger ∨ b = tSame) : turn n rd (pn 2) (.str b) := fun x => by
  have hI : ∀ v, semI gv (callF sub T gv (n + 2)) (.seq (.call 0 (.cons (.var 1) .nil))) [some rd, some (pn 2), some v, x] [] = okI2 [.str tAnew, .str tLonger, .str tSame] [] := fun v => by
    rw [i_seqE, e_call, es_cons, e_var]
    show seqI (callS (callF sub T gv (n + 2) 0) [pn 2] []) = _
    rw [callS_pp (by rfl), values_p]
    rfl
  rw [b_consE, t_ifs, e_not, e_un, e_lc, hI]
  rcases h with h | h | h <;> subst h <;> rfl
theorem turn_o (n : Nat) (rd : D) {c : Int} (h1 : 0 ≤ c) (h2 : c ≤ 3) : turn n rd (pn 3) (.int c) := fun x => by
  have h : c = 0 ∨ c = 1 ∨ c = 2 ∨ c = 3 := by omega
  rcases h with h | h | h | h <;> subst h <;> rfl
theorem turn_k (n : Nat) (rd : D) {c : Int} (h1 : 0 ≤ c) (h2 : c ≤ 8) : turn n rd (pn 4) (.int c) := fun x => by
  have h : c = 0 ∨ c = 1 ∨ c = 2 ∨ c = 3 ∨ c = 4 ∨ c = 5 ∨ c = 6 ∨ c = 7 ∨ c = 8 := by omega
  rcases h with h | h | h | h | h | h | h | h | h <;> subst h <;> rfl
theorem turn_l (n : Nat) (rd : D) {b : Tx} (h : b = tEither ∨ b = tFirst ∨ b = tThing) : turn n rd (pn 5) (.str b) := fun x => by
  have hI : ∀ v, semI gv (callF sub T gv (n + 2)) (.seq (.call 0 (.cons (.var 1) .nil))) [some rd, some (pn 5), some v, x] [] = okI2 [.str tEither, .str tFirst, .str tThing] [] := fun v => by
    rw [i_seqE, e_call, es_cons, e_var]
    show seqI (callS (callF sub T gv (n + 2) 0) [pn 5] []) = _
    rw [callS_pp (by rfl), values_l]
    rfl
  rw [b_consE, t_ifs, e_not, e_un, e_lc, hI]
  rcases h with h | h | h <;> subst h <;> rfl
theorem turn_m (n : Nat) (rd : D) {b : Tx} (h : b = tEnds ∨ b = tStays) : turn n rd (pn 6) (.str b) := fun x => by
  rcases h with h | h <;> subst h <;> rfl
theorem turn_a (n : Nat) (rd : D) (b : Bool) : turn n rd (pn 7) (.bl b) := fun x => by cases b <;> rfl
theorem turn_r (n : Nat) (rd : D) (b : Bool) : turn n rd (pn 8) (.bl b) := fun x => by cases b <;> rfl
theorem is_rule_ok (n : Nat) (r : Ru) (g : Good r) : cR (n + 3) 3 [r.d] [] = some (.rt (.bl true) [] []) := by
  have e0 := turn_c n r.d g.c1 g.c2
  have e1 := turn_b n r.d g.b
  have e2 := turn_p n r.d g.p
  have e3 := turn_o n r.d g.o1 g.o2
  have e4 := turn_k n r.d g.k1 g.k2
  have e5 := turn_l n r.d g.l
  have e6 := turn_m n r.d g.m
  have e7 := turn_a n r.d r.a
  have e8 := turn_r n r.d r.r
  simp only [turn] at e0 e1 e2 e3 e4 e5 e6 e7 e8
  have hz : ∀ x1 x2 x3, forS (.tp [1, 2]) (semB sub gv (callF sub T gv (n + 2)) isRuleB) (zipD (match gv 0 with | .tup xs => xs | _ => []) [.int r.c, .str r.b, .str r.p, .int r.o, .int r.k, .str r.l, .str r.m, .bl r.a, .bl r.r]) [some r.d, x1, x2, x3] [] = nxS [some r.d, some (pn 8), some (.bl r.r), x3] [] := by
    intro x1 x2 x3
    show forS (.tp [1, 2]) _ [.tup [pn 0, .int r.c], .tup [pn 1, .str r.b], .tup [pn 2, .str r.p], .tup [pn 3, .int r.o], .tup [pn 4, .int r.k], .tup [pn 5, .str r.l], .tup [pn 6, .str r.m], .tup [pn 7, .bl r.a], .tup [pn 8, .bl r.r]] _ _ = _
    rw [forS_cons]; show nextF (semB _ _ _ _ [some r.d, some (pn 0), some (.int r.c), x3] []) _ = _; rw [e0, nextF_nx]
    rw [forS_cons]; show nextF (semB _ _ _ _ [some r.d, some (pn 1), some (.str r.b), x3] []) _ = _; rw [e1, nextF_nx]
    rw [forS_cons]; show nextF (semB _ _ _ _ [some r.d, some (pn 2), some (.str r.p), x3] []) _ = _; rw [e2, nextF_nx]
    rw [forS_cons]; show nextF (semB _ _ _ _ [some r.d, some (pn 3), some (.int r.o), x3] []) _ = _; rw [e3, nextF_nx]
    rw [forS_cons]; show nextF (semB _ _ _ _ [some r.d, some (pn 4), some (.int r.k), x3] []) _ = _; rw [e4, nextF_nx]
    rw [forS_cons]; show nextF (semB _ _ _ _ [some r.d, some (pn 5), some (.str r.l), x3] []) _ = _; rw [e5, nextF_nx]
    rw [forS_cons]; show nextF (semB _ _ _ _ [some r.d, some (pn 6), some (.str r.m), x3] []) _ = _; rw [e6, nextF_nx]
    rw [forS_cons]; show nextF (semB _ _ _ _ [some r.d, some (pn 7), some (.bl r.a), x3] []) _ = _; rw [e7, nextF_nx]
    rw [forS_cons]; show nextF (semB _ _ _ _ [some r.d, some (pn 8), some (.bl r.r), x3] []) _ = _; rw [e8, nextF_nx]
    rfl
  show callF sub T gv (n + 2 + 1) 3 [r.d] [] = _
  rw [callF_succ, T3]
  show endF 0 (semB sub gv (callF sub T gv (n + 2)) p_is_rule.body [some r.d, none, none, none] []) = _
  show endF 0 (semB sub gv (callF sub T gv (n + 2)) (.cons _ (.cons (.for (.tp [1, 2]) (.zip (.glb 0) (.var 0)) isRuleB) (.cons (.ret (.or (.bin .eq (.bin .idx (.var 0) (.cst (.int 4))) (.cst (.int 0))) (.bin .ge (.bin .idx (.var 0) (.cst (.int 4))) (.bin .idx (.var 0) (.cst (.int 0)))))) .nil))) [some r.d, none, none, none] []) = _
  rw [b_consE]
  have hf : semS sub gv (callF sub T gv (n + 2)) (.ifs (.or (.not (.un (.isi .tuple) (.var 0))) (.bin .ne (.un .len (.var 0)) (.un .len (.glb 0)))) (.cons (.ret (.cst (.bl false))) .nil) .nil) [some r.d, none, none, none] [] = nxS [some r.d, none, none, none] [] := rfl
  rw [hf, seqS_nx, b_consE, t_for]
  have hi : semI gv (callF sub T gv (n + 2)) (.zip (.glb 0) (.var 0)) [some r.d, none, none, none] [] = okI2 (zipD (match gv 0 with | .tup xs => xs | _ => []) [.int r.c, .str r.b, .str r.p, .int r.o, .int r.k, .str r.l, .str r.m, .bl r.a, .bl r.r]) [] := rfl
  rw [hi, forI_ok, hz, seqS_nx]
  simp [Ru.d, orE_b]
  rcases g.ck with h | h <;> simp [h]
theorem T6 : T 6 = p_need_rule := rfl
theorem need_rule_ok (n : Nat) (r : Ru) (g : Good r) : cR (n + 4) 6 [r.d] [] = some (.rt .non [] []) := by
  have q := is_rule_ok n r g
  simp only [cR, Ru.d] at q
  simp [cR, callF_succ (n := n + 3), T6, p_need_rule, startS, Ru.d, q]
end Mp
/-! StE: rows are rows (4, 5, 7) -/
namespace Mp
theorem T4 : T 4 = p_is_event := rfl
theorem T5 : T 5 = p_are_events := rfl
theorem T7 : T 7 = p_need_row := rfl
theorem gv2 : gv 2 = .int 60 := rfl
theorem is_event_ok (n : Nat) (e : Ev) : callF sub T gv (n + 1) 4 [e.d] [] = some (.rt (.bl true) [] []) := by cases e <;> rfl
theorem are_events_ok (n : Nat) (evs : List Ev) (h : evs.length ≤ 60) : callF sub T gv (n + 2) 5 [rowD evs] [] = some (.rt (.bl true) [] []) := by
  have hl : lcS (.nm 1) (semE gv (callF sub T gv (n + 1)) (.cst (.bl true))) (semE gv (callF sub T gv (n + 1)) (.call 4 (.cons (.var 1) .nil))) [some (rowD evs), none] (evs.map Ev.d) [] [] = okE (.lst ([] ++ evs.map fun _ => D.bl true)) [] := by
    refine lcS_map Ev.d _ evs [] (fun e _ => ⟨[some (rowD evs), some e.d], rfl, by simp, ?_, rfl⟩) (by simp; omega)
    have q := is_event_ok n e
    simp only [Ev.d] at q
    simp [q, Ev.d]
  have hl2 : ((evs.map Ev.d).length : Int) ≤ 60 := by simp; omega
  have hall : unS .all (.lst (evs.map fun _ => D.bl true)) [] = okE (.bl true) [] := by
    have ha : (evs.map fun _ => true).all id = true := by
      rw [List.all_eq_true]
      intro b hb
      obtain ⟨_, _, rfl⟩ := List.mem_map.mp hb
      rfl
    simp only [unS, rd, allBl_rep, ha]
  rw [callF_succ, T5]
  show endF 0 (semB sub gv (callF sub T gv (n + 1)) p_are_events.body [some (rowD evs), none] []) = _
  simp only [p_are_events, b_consE, t_ret, e_and, e_un, e_var, List.getElem?_cons_zero, varE_ok, un1_ok, u_isTup, andE_t, e_bin, u_lenT, bin1_ok, e_glb, gv2, bin2_ok, o_le, hl2, decide_true, e_lc, i_seqE, seqI_tup, lcI_ok, hl, bindE_ok, List.nil_append, Bool.false_eq_true, if_false, hall, retS_ok, seqS_rt, endF_rt, finF_p, pu_bl, if_true]
theorem need_row_ok (n : Nat) (evs : List Ev) (h : evs.length ≤ 60) : callF sub T gv (n + 3) 7 [rowD evs] [] = some (.rt .non [] []) := by
  have q := are_events_ok n evs h
  have hp := pure_evs evs
  simp [callF_succ (n := n + 2), T7, p_need_row, startS, q, hp]
end Mp
/-! Led: a row, event by event (21), and its laws. -/
namespace Mp
theorem T21 : T 21 = p_led := rfl
abbrev ledB : B := (.cons (.unp [2, 5] (.call 20 (.cons (.var 0) (.cons (.var 2) (.cons (.var 4) .nil)))))
    (.cons (.exp (.mth .app (.var 3) (.var 5)))
    .nil))
theorem led_loop (n : Nat) (r : Ru) (row : D) : ∀ (evs : List Ev) (s : Sd) (ws : List Tx) (o4 o5 : Option D), ws.length + evs.length < 16777216 →
    ∃ p4 p5, forS (.nm 4) (semB sub gv (callF sub T gv (n + 3)) ledB) (evs.map Ev.d) [some r.d, some row, some s.d, some (.m 0), o4, o5] [.mu (.lst (ws.map .str))] =
      nxS [some r.d, some row, some (runM r s evs).1.d, some (.m 0), p4, p5] [.mu (.lst ((ws ++ (runM r s evs).2).map .str))]
  | [], s, ws, o4, o5, _ => ⟨o4, o5, by simp [runM]⟩
  | e :: evs, s, ws, o4, o5, h => by
    have hl : ws.length < 16777216 := by omega
    have q := step_ok n r s e
    simp only [cF] at q
    obtain ⟨p4, p5, ih⟩ := led_loop n r row evs (stepM r s e).1 (ws ++ [(stepM r s e).2]) (some e.d) (some (.str (stepM r s e).2)) (by simp at h ⊢; omega)
    refine ⟨p4, p5, ?_⟩
    rw [List.map_cons, forS_cons]
    show nextF (semB sub gv (callF sub T gv (n + 3)) ledB [some r.d, some row, some s.d, some (.m 0), some e.d, o5] [.mu (.lst (ws.map .str))]) _ = _
    have hb : semB sub gv (callF sub T gv (n + 3)) ledB [some r.d, some row, some s.d, some (.m 0), some e.d, o5] [.mu (.lst (ws.map .str))] = nxS [some r.d, some row, some (stepM r s e).1.d, some (.m 0), some e.d, some (.str (stepM r s e).2)] [.mu (.lst ((ws ++ [(stepM r s e).2]).map .str))] := by
      simp only [Ru.d, Sd.d, Pt.d, Ev.d] at q ⊢
      simp [q, recvOk, rd, binS, szl, hl, M.val]
    rw [hb, nextF_nx, ih]
    simp [runM]
theorem led_ok (n : Nat) (r : Ru) (evs : List Ev) (h : evs.length ≤ 60) : cF (n + 4) 21 [r.d, rowD evs] [] =
    some (.rt (.tup [(runM r ⟨0, r.c, ⟨tFirst, 0, tGood⟩, none⟩ evs).1.d, .m 0]) [] [.mu (.lst ((runM r ⟨0, r.c, ⟨tFirst, 0, tGood⟩, none⟩ evs).2.map .str))]) := by
  obtain ⟨p4, p5, hl⟩ := led_loop n r (rowD evs) evs ⟨0, r.c, ⟨tFirst, 0, tGood⟩, none⟩ [] none none (by simp; omega)
  have q := begin_ok (n + 2) r
  simp only [cF] at q ⊢
  rw [callF_succ, T21]
  show endF 0 (semB sub gv (callF sub T gv (n + 3)) (.cons (.asg 2 (.call 12 (.cons (.var 0) .nil))) (.cons (.asg 3 (.nls .nil)) (.cons (.for (.nm 4) (.seq (.var 1)) ledB) (.cons (.ret (.tup (.cons (.var 2) (.cons (.var 3) .nil)))) .nil)))) [some r.d, some (rowD evs), none, none, none, none] []) = _
  have h1 : semS sub gv (callF sub T gv (n + 3)) (.asg 2 (.call 12 (.cons (.var 0) .nil))) [some r.d, some (rowD evs), none, none, none, none] [] = nxS [some r.d, some (rowD evs), some (Sd.d ⟨0, r.c, ⟨tFirst, 0, tGood⟩, none⟩), none, none, none] [] := by
    simp only [Ru.d, Sd.d, Pt.d, dQ_none] at q ⊢
    simp [q]
  rw [b_consE, h1, seqS_nx, b_consE]
  have h2 : ∀ x, semS sub gv (callF sub T gv (n + 3)) (.asg 3 (.nls .nil)) [some r.d, some (rowD evs), x, none, none, none] [] = nxS [some r.d, some (rowD evs), x, some (.m 0), none, none] [.mu (.lst [])] := fun x => rfl
  rw [h2, seqS_nx, b_consE, t_for, i_seqE, e_var]
  show endF 0 (seqS (forS (.nm 4) (semB sub gv (callF sub T gv (n + 3)) ledB) (evs.map Ev.d) [some r.d, some (rowD evs), some (Sd.d ⟨0, r.c, ⟨tFirst, 0, tGood⟩, none⟩), some (.m 0), none, none] [.mu (.lst (([] : List Tx).map .str))]) _) = _
  rw [hl, seqS_nx]
  simp [finF, finF2]
/-! ### the words -/
theorem runM_app (r : Ru) : ∀ (a : List Ev) (s : Sd) (b : List Ev), runM r s (a ++ b) = ((runM r (runM r s a).1 b).1, (runM r s a).2 ++ (runM r (runM r s a).1 b).2)
  | [], _, _ => rfl
  | e :: a, s, b => by
    show ((runM r (stepM r s e).1 (a ++ b)).1, (stepM r s e).2 :: (runM r (stepM r s e).1 (a ++ b)).2) = _
    rw [runM_app r a]
    rfl
theorem runM_len (r : Ru) : ∀ (a : List Ev) (s : Sd), (runM r s a).2.length = a.length
  | [], _ => rfl
  | e :: a, s => congrArg (· + 1) (runM_len r a _)
def busy (w : Tx) : Bool := decide (w = tDone) || decide (w = tPaid)
def idle (w : Tx) : Bool := decide (w = tRefused) || decide (w = tNothing)
theorem step_word (r : Ru) (s : Sd) (e : Ev) : (busy (stepM r s e).2 = true ∧ idle (stepM r s e).2 = false) ∨ (busy (stepM r s e).2 = false ∧ idle (stepM r s e).2 = true ∧ (stepM r s e).1 = s) := by
  have pd : busy tPaid = true ∧ idle tPaid = false := by decide
  have dn : busy tDone = true ∧ idle tDone = false := by decide
  have rf : busy tRefused = false ∧ idle tRefused = true := by decide
  have nt : busy tNothing = false ∧ idle tNothing = true := by decide
  have two : ∀ t : Sd, (busy (if t = s then tNothing else tDone) = true ∧ idle (if t = s then tNothing else tDone) = false) ∨ (busy (if t = s then tNothing else tDone) = false ∧ idle (if t = s then tNothing else tDone) = true ∧ t = s) := by
    intro t
    by_cases h : t = s
    · rw [if_pos h]; exact .inr ⟨nt.1, nt.2, h⟩
    · rw [if_neg h]; exact .inl dn
  cases e
  · show (busy (bodiedM r s).2 = true ∧ _) ∨ _
    simp only [stepM, bodiedM]
    split
    · exact .inr ⟨rf.1, rf.2, rfl⟩
    · exact .inl pd
  · exact two _
  · simp only [stepM, claimedM]
    split
    · exact .inr ⟨nt.1, nt.2, rfl⟩
    · split
      · exact .inr ⟨rf.1, rf.2, rfl⟩
      · exact .inl pd
  · exact .inl dn
  · exact two _
  · exact two _
/-- the events at which something was done -/
def keptM (r : Ru) : Sd → List Ev → List Ev
  | _, [] => []
  | s, e :: es => if busy (stepM r s e).2 = true then e :: keptM r (stepM r s e).1 es else keptM r (stepM r s e).1 es
theorem kept_run (r : Ru) : ∀ (es : List Ev) (s : Sd), (runM r s (keptM r s es)).1 = (runM r s es).1 ∧ ∀ w ∈ (runM r s (keptM r s es)).2, idle w = false
  | [], _ => ⟨rfl, fun _ h => by cases h⟩
  | e :: es, s => by
    obtain ⟨h1, h2⟩ := kept_run r es (stepM r s e).1
    rcases step_word r s e with ⟨b, i⟩ | ⟨b, i, t⟩
    · simp only [keptM, b, if_true]
      refine ⟨h1, fun w hw => ?_⟩
      rcases List.mem_cons.mp hw with rfl | hw
      · exact i
      · exact h2 w hw
    · simp only [keptM, b, Bool.false_eq_true, if_false]
      rw [t] at h1 h2 ⊢
      refine ⟨?_, h2⟩
      show _ = (runM r (stepM r s e).1 es).1
      rw [t]
      exact h1
theorem kept_len (r : Ru) : ∀ (es : List Ev) (s : Sd), (keptM r s es).length ≤ es.length
  | [], _ => Nat.le_refl _
  | e :: es, s => by
    have := kept_len r es (stepM r s e).1
    simp only [keptM]
    split <;> simp only [List.length_cons] <;> omega
/-- as the law takes them -/
theorem kept_zip (r : Ru) (f : D → Bool) (hf : ∀ (e : Ev) (w : Tx), f (.tup [e.d, .str w]) = busy w) (g : D → D) (hg : ∀ (e : Ev) (w : Tx), g (.tup [e.d, .str w]) = e.d) : ∀ (es : List Ev) (s : Sd), ((zipD (es.map Ev.d) ((runM r s es).2.map .str)).filter f).map g = (keptM r s es).map Ev.d
  | [], _ => rfl
  | e :: es, s => by
    show ((D.tup [e.d, .str (stepM r s e).2] :: zipD (es.map Ev.d) ((runM r (stepM r s e).1 es).2.map .str)).filter f).map g = _
    rw [List.filter_cons, hf]
    simp only [keptM]
    split
    · rw [List.map_cons, hg, kept_zip r f hf g hg es, List.map_cons]
    · exact kept_zip r f hf g hg es _
/-- an idle event changes nothing -/
theorem idle_at (r : Ru) (es : List Ev) (s : Sd) (i : Nat) (w : Tx) (h : (runM r s es).2[i]? = some w) (hw : idle w = true) : (runM r s (es.take (i + 1))).1 = (runM r s (es.take i)).1 := by
  induction es generalizing s i with
  | nil => cases h
  | cons e es ih =>
    cases i with
    | zero =>
      have hw2 : w = (stepM r s e).2 := (Option.some.inj h).symm
      subst hw2
      rcases step_word r s e with ⟨_, i⟩ | ⟨_, _, t⟩
      · rw [i] at hw; cases hw
      · exact t
    | succ i => exact ih (stepM r s e).1 i h
end Mp
/-! Tt: texts joined and split (no program in sight), over Pw, Ba. -/
namespace Mp
theorem joinT_eq (sep : Tx) (ts : List Tx) : joinT sep ts = TL.joinL sep ts := by
  unfold joinT
  rw [show PySem.Txt.join (toS sep) (ts.map toS) = SX.S (TL.joinL sep ts) from SX.join_S sep ts]
theorem okT_appT {a b : Tx} (ha : okT a = true) (hb : okT b = true) : okT (a ++ b) = true := by
  unfold okT at *
  rw [List.all_append, ha, hb]; rfl
theorem okT_join {s : Tx} (hs : okT s = true) : ∀ {ps : List Tx}, (∀ p ∈ ps, okT p = true) → okT (TL.joinL s ps) = true
  | [], _ => rfl
  | [p], h => h p (by simp)
  | p :: q :: r, h => by
    show okT (p ++ (s ++ TL.joinL s (q :: r))) = true
    exact okT_appT (h p (by simp)) (okT_appT hs (okT_join hs fun z hz => h z (by simp [hz])))
theorem len_join (s : Tx) (k : Nat) : ∀ {ps : List Tx}, (∀ p ∈ ps, p.length ≤ k) → (TL.joinL s ps).length ≤ ps.length * (k + s.length)
  | [], _ => by simp [TL.joinL]
  | [p], h => by have := h p (by simp); show p.length ≤ 1 * _; omega
  | p :: q :: r, h => by
    have ih := len_join s k (ps := q :: r) fun z hz => h z (by simp [hz])
    have h0 := h p (by simp)
    show (p ++ (s ++ TL.joinL s (q :: r))).length ≤ (r.length + 1 + 1) * (k + s.length)
    rw [List.length_append, List.length_append, Nat.add_mul (r.length + 1)]
    simp only [List.length_cons] at ih
    omega
theorem sum_le (k : Nat) : ∀ {ps : List Tx}, (∀ p ∈ ps, p.length ≤ k) → (ps.map (·.length)).sum ≤ ps.length * k
  | [], _ => by simp
  | p :: r, h => by
    have ih := sum_le k (ps := r) fun z hz => h z (by simp [hz])
    have h0 := h p (by simp)
    rw [List.map_cons, List.sum_cons, List.length_cons, Nat.add_mul]
    omega
section
variable {mm : Mm} {Q : D → Mm → Prop}
theorem allStr_map' : ∀ ts : List Tx, allStr (ts.map .str) = some ts
  | [] => rfl
  | t :: ts => by show (allStr (ts.map .str)).map _ = _; rw [allStr_map' ts]; rfl
theorem wo_join {s : Tx} {b : D} {ts : List Tx} {k : Nat} (hb : rd mm b = .lst (ts.map .str)) (hs : okT s = true) (ht : ∀ p ∈ ts, okT p = true ∧ p.length ≤ k) (hl : ts.length * (k + s.length) ≤ 16777216) (q : Q (.str (TL.joinL s ts)) mm) : WO (binS .join (.str s) b mm) Q := by
  refine WO.of ?_ q
  have h1 : decide ((ts.map (·.length)).sum + ts.length * s.length ≤ 16777216) = true := by
    refine decide_eq_true ?_
    have := sum_le k fun p hp => (ht p hp).2
    rw [Nat.mul_add] at hl
    omega
  have h2 : okT (TL.joinL s ts) = true := okT_join hs fun p hp => (ht p hp).1
  simp only [binS, hb, allStr_map', joinT_eq, h1, h2, Bool.and_self, if_true]
theorem wo_split {s : Nat} {S : Tx} {ts : List Tx} {k : Nat} (hn : ts ≠ []) (hk : (s :: S).all (· < 256) = true) (hs : ∀ p ∈ ts, s ∉ p ∧ okT p = true ∧ p.length ≤ k) (hl : ts.length * (k + (s :: S).length) + 2 ≤ 16777216) (q : Q (.lst (ts.map .str)) mm) : WO (binS .split (.str (TL.joinL (s :: S) ts)) (.str (s :: S)) mm) Q := by
  refine WO.of ?_ q
  have e : splitT (TL.joinL (s :: S) ts) (s :: S) = ts := by
    rw [splitT_spl (by simp) hk]
    exact TL.spl_join hn fun p hp => (hs p hp).1
  have h1 : decide ((s :: S) ≠ []) = true := by simp
  have h2 : decide ((TL.joinL (s :: S) ts).length + 2 ≤ szl) = true := by
    refine decide_eq_true ?_
    have := len_join (s :: S) k (ps := ts) fun p hp => (hs p hp).2.2
    show _ ≤ 16777216
    omega
  have h3 : ts.all okT = true := by
    rw [List.all_eq_true]
    exact fun p hp => (hs p hp).2.1
  simp only [binS, e, h1, h2, h3, Bool.and_self, if_true]
theorem wo_addS {x y : Tx} (h : x.length + y.length ≤ 16777216) (q : Q (.str (x ++ y)) mm) : WO (binS .add (.str x) (.str y) mm) Q :=
  WO.of (by show (if x.length + y.length ≤ 16777216 then _ else _) = _; rw [if_pos h]) q
end
section
variable {gv : Nat → D} {cf : Nat → List D → Mm → Option FR} {sl : Sl} {mm : Mm}
theorem wi_zip {a b : E} {QI : List D → Mm → Prop} {xs ys : List D} (ha : semE gv cf a sl mm = okE (.tup xs) mm) (hb : semE gv cf b sl mm = okE (.tup ys) mm) (q : QI (zipD xs ys) mm) : WI (semI gv cf (.zip a b) sl mm) QI := by
  rw [i_zipE, ha, zip1_tup hb]
  exact ⟨_, mm, rfl, q⟩
end
/-! words of values -/
def wM : D → Tx
  | .bl b => if b then [121, 101, 115] else [110, 111]
  | .int i => intT i
  | .str s => s
  | _ => []
def pcM (nm : Tx) (v : D) : Tx := nm ++ [32] ++ wM v
def nmsM : List Tx := [[99, 111, 118, 101, 114], [98, 111, 100, 121], [112, 97, 114, 116], [111, 119, 110], [99, 97, 112], [108, 111, 111, 107, 115], [109, 111, 118, 101, 100], [97, 108, 105, 101, 110], [98, 97, 99, 107]]
/-- the values of the parts -/
def valsM : List (List D) := [[.int 1, .int 2, .int 3, .int 4], [.str tAnew, .str tLonger, .str tNew, .str tSame], [.str tAnew, .str tLonger, .str tSame], [.int 0, .int 1, .int 2, .int 3], [.int 0, .int 1, .int 2, .int 3, .int 4, .int 5, .int 6, .int 7, .int 8], [.str tEither, .str tFirst, .str tThing], [.str tEnds, .str tStays], [.bl false, .bl true], [.bl false, .bl true]]
abbrev rvs (r : Ru) : List D := [.int r.c, .str r.b, .str r.p, .int r.o, .int r.k, .str r.l, .str r.m, .bl r.a, .bl r.r]
def line9 : List Tx → List D → List Tx
  | nm :: ns, v :: vs => pcM nm v :: line9 ns vs
  | _, _ => []
abbrev lnM (r : Ru) : List Tx := line9 nmsM (rvs r)
def textM (r : Ru) : Tx := TL.joinL [44, 32] (lnM r)
/-- a value of a part: its word, its piece -/
structure VOk (nm : Tx) (V : List D) (v : D) : Prop where
  mem : v ∈ V
  fil : V.filter (fun x => decide (pcM nm x = pcM nm v)) = [v]
  sep : 44 ∉ pcM nm v
  ok : okT (pcM nm v) = true
  len : (pcM nm v).length ≤ 20
theorem vok_all {i : Nat} {nm : Tx} {V : List D} (hn : nmsM[i]? = some nm) (hV : valsM[i]? = some V) {v : D} (hv : v ∈ V) : VOk nm V v := by
  have hi : i < 9 := by have := (List.getElem?_eq_some_iff.mp hn).1; exact this
  have h : i = 0 ∨ i = 1 ∨ i = 2 ∨ i = 3 ∨ i = 4 ∨ i = 5 ∨ i = 6 ∨ i = 7 ∨ i = 8 := by omega
  rcases h with rfl | rfl | rfl | rfl | rfl | rfl | rfl | rfl | rfl <;> (cases hn; cases hV; simp only [List.mem_cons, List.not_mem_nil, or_false] at hv)
  · rcases hv with rfl | rfl | rfl | rfl <;> exact ⟨by simp, rfl, by decide, rfl, by decide⟩
  · rcases hv with rfl | rfl | rfl | rfl <;> exact ⟨by simp, rfl, by decide, rfl, by decide⟩
  · rcases hv with rfl | rfl | rfl <;> exact ⟨by simp, rfl, by decide, rfl, by decide⟩
  · rcases hv with rfl | rfl | rfl | rfl <;> exact ⟨by simp, rfl, by decide, rfl, by decide⟩
  · rcases hv with rfl | rfl | rfl | rfl | rfl | rfl | rfl | rfl | rfl <;> exact ⟨by simp, rfl, by decide, rfl, by decide⟩
  · rcases hv with rfl | rfl | rfl <;> exact ⟨by simp, rfl, by decide, rfl, by decide⟩
  · rcases hv with rfl | rfl <;> exact ⟨by simp, rfl, by decide, rfl, by decide⟩
  · rcases hv with rfl | rfl <;> exact ⟨by simp, rfl, by decide, rfl, by decide⟩
  · rcases hv with rfl | rfl <;> exact ⟨by simp, rfl, by decide, rfl, by decide⟩
/-- the parts of a good rule -/
theorem rule_vals {r : Ru} (g : Good r) : ∀ (i : Nat) (v : D) (V : List D), (rvs r)[i]? = some v → valsM[i]? = some V → v ∈ V := by
  intro i v V hv hV
  have hi : i < 9 := (List.getElem?_eq_some_iff.mp hV).1
  have h : i = 0 ∨ i = 1 ∨ i = 2 ∨ i = 3 ∨ i = 4 ∨ i = 5 ∨ i = 6 ∨ i = 7 ∨ i = 8 := by omega
  have c1 := g.c1
  have c2 := g.c2
  have o1 := g.o1
  have o2 := g.o2
  have k1 := g.k1
  have k2 := g.k2
  rcases h with rfl | rfl | rfl | rfl | rfl | rfl | rfl | rfl | rfl <;> (cases hv; cases hV; simp only [List.mem_cons, List.not_mem_nil, or_false])
  · have : r.c = 1 ∨ r.c = 2 ∨ r.c = 3 ∨ r.c = 4 := by omega
    rcases this with h | h | h | h <;> simp [h]
  · rcases g.b with h | h | h | h <;> simp [h]
  · rcases g.p with h | h | h <;> simp [h]
  · have : r.o = 0 ∨ r.o = 1 ∨ r.o = 2 ∨ r.o = 3 := by omega
    rcases this with h | h | h | h <;> simp [h]
  · have : r.k = 0 ∨ r.k = 1 ∨ r.k = 2 ∨ r.k = 3 ∨ r.k = 4 ∨ r.k = 5 ∨ r.k = 6 ∨ r.k = 7 ∨ r.k = 8 := by omega
    rcases this with h | h | h | h | h | h | h | h | h <;> simp [h]
  · rcases g.l with h | h | h <;> simp [h]
  · rcases g.m with h | h <;> simp [h]
  · cases r.a <;> simp
  · cases r.r <;> simp
theorem ln_ok {r : Ru} (g : Good r) : ∀ p ∈ lnM r, 44 ∉ p ∧ okT p = true ∧ p.length ≤ 20 := by
  intro p hp
  have key : ∀ (i : Nat) (v : D) (nm : Tx), (rvs r)[i]? = some v → nmsM[i]? = some nm → i < 9 → 44 ∉ pcM nm v ∧ okT (pcM nm v) = true ∧ (pcM nm v).length ≤ 20 := by
    intro i v nm hv hn hi
    obtain ⟨V, hV⟩ : ∃ V, valsM[i]? = some V := ⟨_, List.getElem?_eq_getElem (by exact hi)⟩
    have := vok_all hn hV (rule_vals g i v V hv hV)
    exact ⟨this.sep, this.ok, this.len⟩
  simp only [lnM, nmsM, rvs, line9, List.mem_cons, List.not_mem_nil, or_false] at hp
  rcases hp with rfl | rfl | rfl | rfl | rfl | rfl | rfl | rfl | rfl
  · exact key 0 _ _ rfl rfl (by decide)
  · exact key 1 _ _ rfl rfl (by decide)
  · exact key 2 _ _ rfl rfl (by decide)
  · exact key 3 _ _ rfl rfl (by decide)
  · exact key 4 _ _ rfl rfl (by decide)
  · exact key 5 _ _ rfl rfl (by decide)
  · exact key 6 _ _ rfl rfl (by decide)
  · exact key 7 _ _ rfl rfl (by decide)
  · exact key 8 _ _ rfl rfl (by decide)
/-! words of rows -/
def rowT (evs : List Ev) : Tx := TL.joinL [10] (evs.map Ev.t)
theorem ev_ok (e : Ev) : 10 ∉ e.t ∧ okT e.t = true ∧ e.t.length ≤ 20 := by cases e <;> decide
theorem evs_ok (evs : List Ev) : ∀ p ∈ evs.map Ev.t, 10 ∉ p ∧ okT p = true ∧ p.length ≤ 20 := by
  intro p hp
  obtain ⟨e, _, rfl⟩ := List.mem_map.mp hp
  exact ev_ok e
theorem rowT_ne {evs : List Ev} (h : evs ≠ []) : rowT evs ≠ [] := by
  cases evs with
  | nil => exact absurd rfl h
  | cons e evs =>
    unfold rowT
    cases evs with
    | nil => show e.t ≠ []; cases e <;> decide
    | cons f evs =>
      show e.t ++ ([10] ++ TL.joinL [10] (f.t :: evs.map Ev.t)) ≠ []
      simp
end Mp
/-! Txa: the program's texts of rules (26, 27, 29, 30) -/
namespace Mp
theorem T26 : T 26 = p_word_of := rfl
theorem T27 : T 27 = p_rule_line := rfl
theorem T29 : T 29 = p_values_in := rfl
theorem T30 : T 30 = p_read_rule := rfl
theorem gvN : gv 0 = .tup (nmsM.map .str) := rfl
theorem word_ok (n : Nat) {i : Nat} {V : List D} (hV : valsM[i]? = some V) {v : D} (hv : v ∈ V) : callF sub T gv (n + 1) 26 [v] [] = some (.rt (.str (wM v)) [] []) := by
  have hi : i < 9 := (List.getElem?_eq_some_iff.mp hV).1
  have h : i = 0 ∨ i = 1 ∨ i = 2 ∨ i = 3 ∨ i = 4 ∨ i = 5 ∨ i = 6 ∨ i = 7 ∨ i = 8 := by omega
  rcases h with rfl | rfl | rfl | rfl | rfl | rfl | rfl | rfl | rfl <;> (cases hV; simp only [List.mem_cons, List.not_mem_nil, or_false] at hv)
  · rcases hv with rfl | rfl | rfl | rfl <;> rfl
  · rcases hv with rfl | rfl | rfl | rfl <;> rfl
  · rcases hv with rfl | rfl | rfl <;> rfl
  · rcases hv with rfl | rfl | rfl | rfl <;> rfl
  · rcases hv with rfl | rfl | rfl | rfl | rfl | rfl | rfl | rfl | rfl <;> rfl
  · rcases hv with rfl | rfl | rfl <;> rfl
  · rcases hv with rfl | rfl <;> rfl
  · rcases hv with rfl | rfl <;> rfl
  · rcases hv with rfl | rfl <;> rfl
theorem vals_ok10 (n : Nat) {i : Nat} {nm : Tx} {V : List D} (hn : nmsM[i]? = some nm) (hV : valsM[i]? = some V) : callF sub T gv (n + 2) 0 [.str nm] [] = some (.rt (.lst V) [] []) := by
  have hi : i < 9 := (List.getElem?_eq_some_iff.mp hV).1
  have h : i = 0 ∨ i = 1 ∨ i = 2 ∨ i = 3 ∨ i = 4 ∨ i = 5 ∨ i = 6 ∨ i = 7 ∨ i = 8 := by omega
  rcases h with rfl | rfl | rfl | rfl | rfl | rfl | rfl | rfl | rfl <;> (cases hn; cases hV)
  · rfl
  · exact values_b (n + 1)
  · exact values_p (n + 1)
  · rfl
  · rfl
  · exact values_l (n + 1)
  · rfl
  · rfl
  · rfl
theorem pure_val {i : Nat} {V : List D} (hV : valsM[i]? = some V) {v : D} (hv : v ∈ V) : pureD v = true ∧ hgt v = 0 := by
  have hi : i < 9 := (List.getElem?_eq_some_iff.mp hV).1
  have h : i = 0 ∨ i = 1 ∨ i = 2 ∨ i = 3 ∨ i = 4 ∨ i = 5 ∨ i = 6 ∨ i = 7 ∨ i = 8 := by omega
  rcases h with rfl | rfl | rfl | rfl | rfl | rfl | rfl | rfl | rfl <;> (cases hV; simp only [List.mem_cons, List.not_mem_nil, or_false] at hv)
  · rcases hv with rfl | rfl | rfl | rfl <;> exact ⟨rfl, rfl⟩
  · rcases hv with rfl | rfl | rfl | rfl <;> exact ⟨rfl, rfl⟩
  · rcases hv with rfl | rfl | rfl <;> exact ⟨rfl, rfl⟩
  · rcases hv with rfl | rfl | rfl | rfl <;> exact ⟨rfl, rfl⟩
  · rcases hv with rfl | rfl | rfl | rfl | rfl | rfl | rfl | rfl | rfl <;> exact ⟨rfl, rfl⟩
  · rcases hv with rfl | rfl | rfl <;> exact ⟨rfl, rfl⟩
  · rcases hv with rfl | rfl <;> exact ⟨rfl, rfl⟩
  · rcases hv with rfl | rfl <;> exact ⟨rfl, rfl⟩
  · rcases hv with rfl | rfl <;> exact ⟨rfl, rfl⟩
theorem pure_vals {i : Nat} {V : List D} (hV : valsM[i]? = some V) : pureDs V = true := by
  have hi : i < 9 := (List.getElem?_eq_some_iff.mp hV).1
  have h : i = 0 ∨ i = 1 ∨ i = 2 ∨ i = 3 ∨ i = 4 ∨ i = 5 ∨ i = 6 ∨ i = 7 ∨ i = 8 := by omega
  rcases h with rfl | rfl | rfl | rfl | rfl | rfl | rfl | rfl | rfl <;> (cases hV; rfl)
/-- the places of the parts -/
theorem zip_parts {r : Ru} (g : Good r) {x : D} (hx : x ∈ zipD (nmsM.map .str) (rvs r)) : ∃ (i : Nat) (nm : Tx) (V : List D) (v : D), x = .tup [.str nm, v] ∧ nmsM[i]? = some nm ∧ valsM[i]? = some V ∧ v ∈ V := by
  have key : ∀ (i : Nat) (v : D) (nm : Tx), (rvs r)[i]? = some v → nmsM[i]? = some nm → i < 9 → x = .tup [.str nm, v] → ∃ (i : Nat) (nm : Tx) (V : List D) (v : D), x = .tup [.str nm, v] ∧ nmsM[i]? = some nm ∧ valsM[i]? = some V ∧ v ∈ V := by
    intro i v nm hv hn hi hx
    obtain ⟨V, hV⟩ : ∃ V, valsM[i]? = some V := ⟨_, List.getElem?_eq_getElem (by exact hi)⟩
    exact ⟨i, nm, V, v, hx, hn, hV, rule_vals g i v V hv hV⟩
  simp only [nmsM, rvs, List.map_cons, List.map_nil, zipD, List.mem_cons, List.not_mem_nil, or_false] at hx
  rcases hx with rfl | rfl | rfl | rfl | rfl | rfl | rfl | rfl | rfl
  · exact key 0 _ _ rfl rfl (by decide) rfl
  · exact key 1 _ _ rfl rfl (by decide) rfl
  · exact key 2 _ _ rfl rfl (by decide) rfl
  · exact key 3 _ _ rfl rfl (by decide) rfl
  · exact key 4 _ _ rfl rfl (by decide) rfl
  · exact key 5 _ _ rfl rfl (by decide) rfl
  · exact key 6 _ _ rfl rfl (by decide) rfl
  · exact key 7 _ _ rfl rfl (by decide) rfl
  · exact key 8 _ _ rfl rfl (by decide) rfl
def gPc : D → D
  | .tup [.str nm, v] => .str (pcM nm v)
  | _ => .non
theorem nm_len {i : Nat} {nm : Tx} (h : nmsM[i]? = some nm) : nm.length ≤ 6 := by
  have : nmsM.all (fun x => decide (x.length ≤ 6)) = true := by decide
  exact of_decide_eq_true (List.all_eq_true.mp this nm (List.mem_iff_getElem?.mpr ⟨i, h⟩))
theorem wm_len {i : Nat} {nm : Tx} {V : List D} (hn : nmsM[i]? = some nm) (hV : valsM[i]? = some V) {v : D} (hv : v ∈ V) : (wM v).length ≤ 20 := by
  have := (vok_all hn hV hv).len
  unfold pcM at this
  simp only [List.length_append] at this
  omega
/-- a piece, computed -/
theorem we_piece {n i : Nat} {nm : Tx} {V : List D} (hn : nmsM[i]? = some nm) (hV : valsM[i]? = some V) {v : D} (hv : v ∈ V) {a b : Nat} {sl : Sl} {mm : Mm} (ha : sl[a]? = some (some (.str nm))) (hb : sl[b]? = some (some v)) {Q : D → Mm → Prop} (q : Q (.str (pcM nm v)) mm) :
    WO (semE gv (callF sub T gv (n + 1)) (.bin .add (.bin .add (.var a) (.cst (.str [32]))) (.call 26 (.cons (.var b) .nil))) sl mm) Q := by
  have h1 := nm_len hn
  have h2 := wm_len hn hV hv
  refine we_bin (we_bin (we_var ha (we_cst (wo_addS (by simp; omega) (we_call (wl_cons (we_var hb (wl_nil (wc_pure (word_ok n hV hv) (by rw [pu_cons, (pure_val hV hv).1]; rfl) rfl ?_)))))))))
  exact wo_addS (by simp; omega) q
theorem lnM_eq {r : Ru} : ((zipD (nmsM.map .str) (rvs r)).filter fun _ => true).map gPc = (lnM r).map .str := rfl
theorem line_ok (n : Nat) (r : Ru) (g : Good r) : callF sub T gv (n + 2) 27 [r.d] [] = some (.rt (.str (textM r)) [] []) := by
  refine callF_of T27 rfl ?_
  refine wb_cons (ws_ret (we_mth (we_cst ⟨rfl, ?_⟩)))
  refine we_lc (fun _ => true) gPc (wi_zip (xs := nmsM.map .str) (ys := rvs r) rfl rfl ⟨by show (9 : Nat) ≤ _; decide, fun x hx => ?_, ?_⟩)
  · obtain ⟨i, nm, V, v, rfl, hn, hV, hv⟩ := zip_parts g hx
    exact ⟨_, rfl, we_cst ⟨rfl, rfl⟩, fun _ => ⟨we_piece hn hV hv rfl rfl ⟨rfl, rfl⟩, rfl⟩⟩
  · rw [lnM_eq]
    refine wo_join (k := 20) rfl rfl (fun p hp => (ln_ok g p hp).2) (by show 9 * (20 + 2) ≤ _; decide) ?_
    rfl
/-! ### read -/
abbrev inB : B := (.cons (.asg 5 (.lc false (.nm 6) (.var 6) (.seq (.call 0 (.cons (.var 3) .nil))) (.bin .eq (.bin .add (.bin .add (.var 3) (.cst (.str [32]))) (.call 26 (.cons (.var 6) .nil))) (.var 4))))
    (.cons (.ifs (.bin .eq (.var 5) (.lst .nil))
    (.cons (.ret (.tup .nil))
    .nil)
    .nil)
    (.cons (.asg 2 (.bin .add (.var 2) (.tup (.cons (.bin .idx (.var 5) (.cst (.int 0))) .nil))))
    .nil)))
theorem in_turn (n : Nat) {i : Nat} {nm : Tx} {V : List D} (hn : nmsM[i]? = some nm) (hV : valsM[i]? = some V) {v : D} (hv : v ∈ V) (x0 x1 x5 x6 : Option D) (acc : List D) (ha : acc.length ≤ 100) {QS : RS → Prop}
    (q : ∀ y5, QS (.nx [x0, x1, some (.tup (acc ++ [v])), some (.str nm), some (.str (pcM nm v)), y5, x6] [])) :
    WS (semB sub gv (callF sub T gv (n + 3)) inB [x0, x1, some (.tup acc), some (.str nm), some (.str (pcM nm v)), x5, x6] []) QS := by
  have vk := vok_all hn hV hv
  have hVl : V.length ≤ 16777216 := by
    have : valsM.all (fun x => decide (x.length ≤ 10)) = true := by decide
    have := of_decide_eq_true (List.all_eq_true.mp this V (List.mem_iff_getElem?.mpr ⟨i, hV⟩))
    omega
  refine wb_cons (ws_asg (we_lc (fun x => decide (pcM nm x = pcM nm v)) id (wi_lst (we_call (wl_cons (we_var rfl (wl_nil (wc_pure (vals_ok10 (n + 1) hn hV) rfl (by rw [pu_lst]; exact pure_vals hV) ⟨_, rfl, hVl, fun x hx => ?_, ?_⟩))))))))
  · refine ⟨_, rfl, ?_, fun _ => ⟨we_var rfl ⟨rfl, rfl⟩, (pure_val hV hx).1⟩⟩
    exact we_bin (we_piece (n := n + 2) hn hV hx rfl rfl (we_var rfl (wo_eqT ⟨rfl, rfl⟩)))
  · rw [List.map_id, vk.fil]
    refine wb_cons (ws_if0 (we_bin (we_var rfl (we_lst (wl_nil ⟨rfl, wo_eqL (by simp [hgt, hgts, (pure_val hV hv).2]) (by decide) ⟨rfl, wb_nil ?_⟩⟩)))))
    refine wb_cons (ws_asg (we_bin (we_var rfl (we_tup (wl_cons (we_bin (we_var rfl (we_cst (WO.of (d := v) (mm := []) rfl (wl_nil (wo_addT (by simp; omega) (wb_nil (q _)))))))))))))
theorem values_in_ok (n : Nat) (r : Ru) (g : Good r) : callF sub T gv (n + 4) 29 [.str (textM r)] [] = some (.rt r.d [] []) := by
  refine callF_of T29 rfl ?_
  refine wb_cons (ws_par (we_mth (we_var rfl ⟨rfl, we_cst (wo_split (k := 20) (by simp [lnM, nmsM, line9]) rfl (ln_ok g) (by show 9 * (20 + 2) + 2 ≤ _; decide) (we_tup (wl_nil ?_)))⟩)))
  refine wb_cons (ws_if0 (we_bin (we_un (we_var rfl (wo_lenL rfl (we_un (we_glb (WO.of (d := .int 9) (mm := []) rfl (wo_neI ⟨by simp [lnM, nmsM, line9], wb_nil ?_⟩)))))))))
  have hz : ∀ sl : Sl, sl[1]? = some (some (.lst ((lnM r).map .str))) → semI gv (callF sub T gv (n + 3)) (.zip (.glb 0) (.var 1)) sl [] = okI2 (zipD (nmsM.map .str) ((lnM r).map .str)) [] := by
    intro sl h
    rw [i_zipE]
    show (zip1 (okE _ []) fun mm => semE gv _ (.var 1) sl mm) = _
    simp only [e_var, h]
    rfl
  have vv := rule_vals g
  refine wb_cons (ws_for ⟨_, [], hz _ rfl, ?_⟩)
  refine wf_cons rfl (in_turn n (i := 0) rfl rfl (vv 0 _ _ rfl rfl) _ _ _ _ [] (by decide) fun y5 => ?_)
  refine wf_cons rfl (in_turn n (i := 1) rfl rfl (vv 1 _ _ rfl rfl) _ _ _ _ _ (by simp) fun y5 => ?_)
  refine wf_cons rfl (in_turn n (i := 2) rfl rfl (vv 2 _ _ rfl rfl) _ _ _ _ _ (by simp) fun y5 => ?_)
  refine wf_cons rfl (in_turn n (i := 3) rfl rfl (vv 3 _ _ rfl rfl) _ _ _ _ _ (by simp) fun y5 => ?_)
  refine wf_cons rfl (in_turn n (i := 4) rfl rfl (vv 4 _ _ rfl rfl) _ _ _ _ _ (by simp) fun y5 => ?_)
  refine wf_cons rfl (in_turn n (i := 5) rfl rfl (vv 5 _ _ rfl rfl) _ _ _ _ _ (by simp) fun y5 => ?_)
  refine wf_cons rfl (in_turn n (i := 6) rfl rfl (vv 6 _ _ rfl rfl) _ _ _ _ _ (by simp) fun y5 => ?_)
  refine wf_cons rfl (in_turn n (i := 7) rfl rfl (vv 7 _ _ rfl rfl) _ _ _ _ _ (by simp) fun y5 => ?_)
  refine wf_cons rfl (in_turn n (i := 8) rfl rfl (vv 8 _ _ rfl rfl) _ _ _ _ _ (by simp) fun y5 => ?_)
  exact wf_nil (wb_cons (ws_ret (we_var rfl rfl)))
theorem read_rule_ok (n : Nat) (r : Ru) (g : Good r) : callF sub T gv (n + 5) 30 [.str (textM r)] [] = some (.rt r.d [] []) := by
  refine callF_of T30 rfl ?_
  refine wb_cons (ws_asg (we_ite (we_un (we_var rfl (WO.of (d := .bl true) (mm := []) rfl ⟨true, rfl, fun _ => ?_, fun h => (by cases h)⟩)))))
  refine we_call (wl_cons (we_var rfl (wl_nil (wc_pure (values_in_ok n r g) rfl (by simp) ?_))))
  refine wb_cons (ws_if0 (we_not (we_call (wl_cons (we_var rfl (wl_nil (wc_pure (is_rule_ok (n + 1) r g) (by simp) rfl ⟨true, rfl, rfl, wb_nil ?_⟩)))))))
  exact wb_cons (ws_ret (we_var rfl rfl))
end Mp
/-! Dw: what is drawn from the sack (ids 1000 .. 1006, the same in all laws). -/
namespace Mp
theorem T1000 : T 1000 = l_law_sack := rfl
theorem T1001 : T 1001 = l_law_grab := rfl
theorem T1002 : T 1002 = l_law_one_of := rfl
theorem sack_new (n : Nat) (c salt : Int) : ∃ o, SkC o ∧ callF sub T gv (n + 1) 1000 [.int c, .int salt] [] = some (.rt (.m 0) [] [.mu o]) := by
  refine ⟨sk (if 1000000000000000000 ≤ c then c / 2 - 3 else 0) ((c * 37 + 8009 * salt) % 1789569707 + 4), ⟨_, _, by unfold SkOk; omega, rfl⟩, ?_⟩
  have hp : binS .pow (.int 10) (.int 18) [] = okE (.int 1000000000000000000) [] := rfl
  rw [callF_succ, T1000]
  by_cases h : 1000000000000000000 ≤ c <;>
    simp [l_law_sack, startS, hp, h, o_mul1 (show small64 37 = true from rfl), o_mul2 (show small64 8009 = true from rfl), o_fdiv, o_mod, finF2, finF]
theorem grab_dr (n : Nat) (many : Int) (h1 : 0 < many) (h2 : many < 1073741824) : Dr (callF sub T gv (n + 1) 1001) [.int many] (fun v => ∃ j : Nat, v = .int (j : Int) ∧ (j : Int) < many) := by
  rintro _ ⟨g, s, hs, rfl⟩
  suffices H : ∃ v g' s', SkOk s' ∧ 0 ≤ v ∧ v < many ∧ callF sub T gv (n + 1) 1001 [.m 0, .int many] [.mu (sk g s)] = some (.rt (.int v) [.mu (sk g' s')] []) by
    obtain ⟨v, g', s', hs', v1, v2, e⟩ := H
    obtain ⟨j, rfl⟩ := Int.eq_ofNat_of_zero_le v1
    exact ⟨_, _, ⟨_, _, hs', rfl⟩, ⟨j, rfl, v2⟩, rfl, e⟩
  rw [callF_succ, T1001]
  have i0 : ∀ a b : Int, binS .idx (.m 0) (.int 0) [.mu (sk a b)] = okE (.int a) [.mu (sk a b)] := fun _ _ => rfl
  have i1 : ∀ a b : Int, binS .idx (.m 0) (.int 1) [.mu (sk a b)] = okE (.int b) [.mu (sk a b)] := fun _ _ => rfl
  have t0 : ∀ (a b x : Int) (sl : Sl), sto3 (some (.mu (sk a b))) 0 0 (.int x) sl [.mu (sk a b)] = nxS sl [.mu (sk x b)] := fun _ _ _ _ => rfl
  have t1 : ∀ (a b x : Int) (sl : Sl), sto3 (some (.mu (sk a b))) 0 1 (.int x) sl [.mu (sk a b)] = nxS sl [.mu (sk a x)] := fun _ _ _ _ => rfl
  have hm := Int.emod_nonneg g (show many ≠ 0 by omega)
  have hm2 := Int.emod_lt_of_pos g h1
  by_cases hg : 0 < g
  · refine ⟨g % many, g / many, s, hs, hm, hm2, ?_⟩
    simp [l_law_grab, startS, i0, i1, t0, t1, hg, o_mod h1, o_fdiv h1 h2, finF, M.isMu]
  · have e1 := Int.emod_nonneg (s * 69069 + 362437) (show (2147483423 : Int) ≠ 0 by omega)
    have e2 := Int.emod_lt_of_pos (s * 69069 + 362437) (show (0 : Int) < 2147483423 by omega)
    have hsm : small64 ((s * 69069 + 362437) % 2147483423) = true := by simp only [small64, Bool.and_eq_true, decide_eq_true_eq]; omega
    refine ⟨(((s * 69069 + 362437) % 2147483423 * ((s * 69069 + 362437) % 2147483423 + 53)) % 2147483399 / 881) % many, g, (s * 69069 + 362437) % 2147483423, ⟨e1, by omega⟩, Int.emod_nonneg _ (by omega), Int.emod_lt_of_pos _ h1, ?_⟩
    simp [l_law_grab, startS, i0, i1, t0, t1, hg, o_mod h1, o_mod, o_fdiv, o_mul1 (show small64 69069 = true from rfl), o_mul2 hsm, finF, M.isMu]
theorem pure_in : ∀ {ys : List D} {x : D}, pureDs ys = true → x ∈ ys → pureD x = true
  | y :: ys, x, hp, h => by
    rw [pu_cons, Bool.and_eq_true] at hp
    rcases List.mem_cons.mp h with rfl | h
    · exact hp.1
    · exact pure_in hp.2 h
theorem one_dr (n : Nat) (xs : List D) (hp : pureDs xs = true) (h1 : 0 < xs.length) (h2 : xs.length < 1073741824) : Dr (callF sub T gv (n + 2) 1002) [.lst xs] (· ∈ xs) := by
  refine callF_dr T1002 rfl fun c hc => ?_
  refine wb_cons (ws_ret (we_bin (we_var rfl (we_call (wl_cons (we_var rfl (wl_cons (we_un (we_var rfl (WO.of u_lenL (wl_nil ?_)))))))))))
  refine wc_dr2 (grab_dr n xs.length (by omega) (by omega)) rfl hc rfl ?_
  rintro _ c' ⟨j, rfl, hj⟩ _ hc'
  have hj : j < xs.length := by omega
  refine WO.of (ix_lst j (List.getElem?_eq_getElem hj)) ⟨List.getElem_mem hj, pure_in hp (List.getElem_mem hj), c', hc', rfl⟩
theorem T1003 : T 1003 = l_law_values := rfl
theorem T1004 : T 1004 = l_law_rule := rfl
def valsA : List (List D) := [[.int 1, .int 2, .int 3, .int 4], [.str tAnew, .str tLonger, .str tNew, .str tSame], [.str tAnew, .str tLonger, .str tSame], [.int 0, .int 1, .int 2, .int 3],
  [.int 0, .int 1, .int 2, .int 3, .int 4, .int 5, .int 6, .int 7, .int 8], [.str tEither, .str tFirst, .str tThing], [.str tEnds, .str tStays], [.bl false, .bl true], [.bl false, .bl true]]
theorem values_ok (n : Nat) : callF sub T gv (n + 1) 1003 [] [] = some (.rt (.lst (valsA.map .lst)) [] []) := rfl
theorem vals_ok : ∀ x ∈ valsA, pureDs x = true ∧ 0 < x.length ∧ x.length < 1073741824 := by
  intro x hx
  simp only [valsA, List.mem_cons, List.not_mem_nil, or_false] at hx
  rcases hx with rfl | rfl | rfl | rfl | rfl | rfl | rfl | rfl | rfl <;> exact ⟨rfl, by decide, by decide⟩
/-- one of the things, in a comprehension -/
theorem elt_one (n : Nat) (i : Nat) (sl : Sl) (h0 : sl[0]? = some (some (.m 0))) (xs : List D) (hi : sl[i]? = some (some (.lst xs))) (hp : pureDs xs = true) (h1 : 0 < xs.length) (h2 : xs.length < 1073741824) (g s : Int) (hs : SkOk s) :
    ∃ d g' s', semE gv (callF sub T gv (n + 2)) (.call 1002 (.cons (.var 0) (.cons (.var i) .nil))) sl [.mu (sk g s)] = okE d [.mu (sk g' s')] ∧ SkOk s' ∧ pureD d = true ∧ d ∈ xs := by
  have w : WO (semE gv (callF sub T gv (n + 2)) (.call 1002 (.cons (.var 0) (.cons (.var i) .nil))) sl [.mu (sk g s)]) fun d m => ∃ g' s', m = [.mu (sk g' s')] ∧ SkOk s' ∧ pureD d = true ∧ d ∈ xs := by
    refine we_call (wl_cons (we_var h0 (wl_cons (we_var hi (wl_nil ?_)))))
    refine wc_dr2 (one_dr n xs hp h1 h2) rfl ⟨g, s, hs, rfl⟩ (by rw [pu_lst]; exact hp) ?_
    rintro v _ hv hpv ⟨g', s', hs', rfl⟩
    exact ⟨g', s', rfl, hs', hpv, hv⟩
  obtain ⟨d, m, e, g', s', rfl, h3, h4, h5⟩ := w
  exact ⟨d, g', s', e, h3, h4, h5⟩
theorem rule_dr (n : Nat) : Dr (callF sub T gv (n + 3) 1004) [] (fun v => ∃ r, Good r ∧ v = Ru.d r) := by
  rintro _ ⟨g, s, hs, rfl⟩
  suffices H : ∃ r g' s', SkOk s' ∧ Good r ∧ callF sub T gv (n + 3) 1004 [.m 0] [.mu (sk g s)] = some (.rt (Ru.d r) [.mu (sk g' s')] []) by
    obtain ⟨r, g', s', hs', gr, e⟩ := H
    exact ⟨_, _, ⟨_, _, hs', rfl⟩, ⟨r, gr, rfl⟩, rfl, e⟩
  obtain ⟨ds, g', s', hl, hs', hA, hD⟩ := lcS_sack (tg := .nm 2) (cnd := semE gv (callF sub T gv (n + 2)) (.cst (.bl true))) (elt := semE gv (callF sub T gv (n + 2)) (.call 1002 (.cons (.var 0) (.cons (.var 2) .nil)))) (sl := [some (.m 0), none, none]) D.lst (fun x d => d ∈ x) valsA [] g s hs
    (fun x hx g s hs => by
      obtain ⟨h1, h2, h3⟩ := vals_ok x hx
      obtain ⟨d, g', s', e, k1, k2, k3⟩ := elt_one n 2 [some (.m 0), none, some (.lst x)] rfl x rfl h1 h2 h3 g s hs
      exact ⟨_, d, g', s', rfl, by simp, e, k1, k2, k3⟩) (by decide)
  unfold valsA at hA
  obtain ⟨d0, e0, rfl, p0, hA⟩ := hA.cons_inv
  obtain ⟨d1, e1, rfl, p1, hA⟩ := hA.cons_inv
  obtain ⟨d2, e2, rfl, p2, hA⟩ := hA.cons_inv
  obtain ⟨d3, e3, rfl, p3, hA⟩ := hA.cons_inv
  obtain ⟨d4, e4, rfl, p4, hA⟩ := hA.cons_inv
  obtain ⟨d5, e5, rfl, p5, hA⟩ := hA.cons_inv
  obtain ⟨d6, e6, rfl, p6, hA⟩ := hA.cons_inv
  obtain ⟨d7, e7, rfl, p7, hA⟩ := hA.cons_inv
  obtain ⟨d8, e8, rfl, p8, hA⟩ := hA.cons_inv
  obtain rfl := hA.nil_inv
  simp only [List.mem_cons, List.not_mem_nil, or_false] at p0 p1 p2 p3 p4 p5 p6 p7 p8
  obtain ⟨c, rfl, c1, c2⟩ : ∃ c, d0 = .int c ∧ 1 ≤ c ∧ c ≤ 4 := by
    rcases p0 with rfl | rfl | rfl | rfl <;> exact ⟨_, rfl, by decide, by decide⟩
  obtain ⟨b, rfl, hb⟩ : ∃ b, d1 = .str b ∧ (b = tAnew ∨ b = tLonger ∨ b = tNew ∨ b = tSame) := by
    rcases p1 with rfl | rfl | rfl | rfl <;> exact ⟨_, rfl, by simp⟩
  obtain ⟨p, rfl, hp⟩ : ∃ b, d2 = .str b ∧ (b = tAnew ∨ b = tLonger ∨ b = tSame) := by
    rcases p2 with rfl | rfl | rfl <;> exact ⟨_, rfl, by simp⟩
  obtain ⟨o, rfl, o1, o2⟩ : ∃ c, d3 = .int c ∧ 0 ≤ c ∧ c ≤ 3 := by
    rcases p3 with rfl | rfl | rfl | rfl <;> exact ⟨_, rfl, by decide, by decide⟩
  obtain ⟨k, rfl, k1, k2⟩ : ∃ c, d4 = .int c ∧ 0 ≤ c ∧ c ≤ 8 := by
    rcases p4 with rfl | rfl | rfl | rfl | rfl | rfl | rfl | rfl | rfl <;> exact ⟨_, rfl, by decide, by decide⟩
  obtain ⟨l, rfl, hl5⟩ : ∃ b, d5 = .str b ∧ (b = tEither ∨ b = tFirst ∨ b = tThing) := by
    rcases p5 with rfl | rfl | rfl <;> exact ⟨_, rfl, by simp⟩
  obtain ⟨m, rfl, hm⟩ : ∃ b, d6 = .str b ∧ (b = tEnds ∨ b = tStays) := by
    rcases p6 with rfl | rfl <;> exact ⟨_, rfl, by simp⟩
  obtain ⟨a, rfl⟩ : ∃ b, d7 = .bl b := by rcases p7 with rfl | rfl <;> exact ⟨_, rfl⟩
  obtain ⟨r, rfl⟩ : ∃ b, d8 = .bl b := by rcases p8 with rfl | rfl <;> exact ⟨_, rfl⟩
  refine ⟨⟨c, b, p, o, if 0 < k ∧ k < c then c else k, l, m, a, r⟩, g', s', hs', ⟨c1, c2, hb, hp, o1, o2, ?_, ?_, hl5, hm, ?_⟩, ?_⟩
  · show 0 ≤ (if 0 < k ∧ k < c then c else k); split <;> omega
  · show (if 0 < k ∧ k < c then c else k) ≤ 8; split <;> omega
  · show (if 0 < k ∧ k < c then c else k) = 0 ∨ c ≤ (if 0 < k ∧ k < c then c else k); split <;> omega
  · rw [callF_succ, T1004]
    have hI : semI gv (callF sub T gv (n + 2)) (.seq (.call0 1003)) [some (.m 0), none, none] [.mu (sk g s)] = okI2 (valsA.map .lst) [.mu (sk g s)] := by
      rw [i_seqE, e_call0, callS_pp rfl, values_ok]
      rfl
    show endF 1 (semB sub gv (callF sub T gv (n + 2)) l_law_rule.body [some (.m 0), none, none] [.mu (sk g s)]) = _
    have i0 : ∀ k : Int, binS .idx (.m 1) (.int 0) [.mu (sk g' s'), .mu (.lst [.int c, .str b, .str p, .int o, .int k, .str l, .str m, .bl a, .bl r])] = okE (.int c) [.mu (sk g' s'), .mu (.lst [.int c, .str b, .str p, .int o, .int k, .str l, .str m, .bl a, .bl r])] := fun _ => rfl
    have i4 : ∀ k : Int, binS .idx (.m 1) (.int 4) [.mu (sk g' s'), .mu (.lst [.int c, .str b, .str p, .int o, .int k, .str l, .str m, .bl a, .bl r])] = okE (.int k) [.mu (sk g' s'), .mu (.lst [.int c, .str b, .str p, .int o, .int k, .str l, .str m, .bl a, .bl r])] := fun _ => rfl
    have st : ∀ sl, sto3 (some (.mu (.lst [.int c, .str b, .str p, .int o, .int k, .str l, .str m, .bl a, .bl r]))) 1 4 (.int c) sl [.mu (sk g' s'), .mu (.lst [.int c, .str b, .str p, .int o, .int k, .str l, .str m, .bl a, .bl r])] = nxS sl [.mu (sk g' s'), .mu (.lst [.int c, .str b, .str p, .int o, .int c, .str l, .str m, .bl a, .bl r])] := fun _ => rfl
    have tp : ∀ k : Int, unS .tuple (.m 1) [.mu (sk g' s'), .mu (.lst [.int c, .str b, .str p, .int o, .int k, .str l, .str m, .bl a, .bl r])] = okE (.tup [.int c, .str b, .str p, .int o, .int k, .str l, .str m, .bl a, .bl r]) [.mu (sk g' s'), .mu (.lst [.int c, .str b, .str p, .int o, .int k, .str l, .str m, .bl a, .bl r])] := fun _ => rfl
    simp only [l_law_rule, b_consE, t_asg, e_lc, hI, lcI_ok, hl, List.nil_append, bindE_ok, if_true, asgS_ok, List.set_cons_succ, List.set_cons_zero, seqS_nx, List.length_cons, List.length_nil, List.cons_append, Nat.zero_add]
    by_cases h1 : 0 < k <;> by_cases h2 : k < c <;>
      simp [h1, h2, i0, i4, st, tp, finF, M.isMu, chn2_ok, Ru.d]
end Mp
/-! Dwr: a row that is drawn (1006) -/
namespace Mp
theorem T1006 : T 1006 = l_law_row := rfl
def evL : List D := [Ev.body.d, Ev.break.d, Ev.claim.d, Ev.day.d, Ev.fetch.d, Ev.put.d, Ev.break.d, Ev.claim.d, Ev.claim.d, Ev.day.d, Ev.put.d]
theorem AllP_evs {α : Type} : ∀ {xs : List α} {ds : List D}, AllP (fun _ d => d ∈ evL) xs ds → ∃ evs : List Ev, ds = evs.map Ev.d
  | _, _, .nil => ⟨[], rfl⟩
  | _, _, .cons h t => by
    obtain ⟨evs, rfl⟩ := AllP_evs t
    simp only [evL, List.mem_cons, List.not_mem_nil, or_false] at h
    rcases h with rfl | rfl | rfl | rfl | rfl | rfl | rfl | rfl | rfl | rfl | rfl
    · exact ⟨.body :: evs, rfl⟩
    · exact ⟨.break :: evs, rfl⟩
    · exact ⟨.claim :: evs, rfl⟩
    · exact ⟨.day :: evs, rfl⟩
    · exact ⟨.fetch :: evs, rfl⟩
    · exact ⟨.put :: evs, rfl⟩
    · exact ⟨.break :: evs, rfl⟩
    · exact ⟨.claim :: evs, rfl⟩
    · exact ⟨.claim :: evs, rfl⟩
    · exact ⟨.day :: evs, rfl⟩
    · exact ⟨.put :: evs, rfl⟩
theorem row_dr (n m : Nat) (hm : m ≤ 1000) : Dr (callF sub T gv (n + 3) 1006) [.int (m : Int)] (fun v => ∃ evs : List Ev, evs.length ≤ m ∧ v = rowD evs) := by
  rintro _ ⟨g, s, hs, rfl⟩
  obtain ⟨_, _, ⟨g1, s1, hs1, rfl⟩, ⟨j, rfl, v2⟩, _, q⟩ := grab_dr (n + 1) ((m : Int) + 1) (by omega) (by omega) (sk g s) ⟨g, s, hs, rfl⟩
  suffices H : ∃ evs g' s', SkOk s' ∧ evs.length ≤ m ∧ callF sub T gv (n + 3) 1006 [.m 0, .int (m : Int)] [.mu (sk g s)] = some (.rt (rowD evs) [.mu (sk g' s')] []) by
    obtain ⟨evs, g', s', hs', he, e⟩ := H
    exact ⟨_, _, ⟨_, _, hs', rfl⟩, ⟨evs, he, rfl⟩, by rw [pu_tup]; exact pure_evs evs, e⟩
  obtain ⟨ds, g', s', hl, hs', hA, hD⟩ := lcS_sack (tg := .nm 3) (cnd := semE gv (callF sub T gv (n + 2)) (.cst (.bl true))) (elt := semE gv (callF sub T gv (n + 2)) (.call 1002 (.cons (.var 0) (.cons (.var 2) .nil)))) (sl := [some (.m 0), some (.int (m : Int)), some (.lst evL), none]) (fun i : Nat => D.int (0 + (i : Int))) (fun _ d => d ∈ evL) (List.range j) [] g1 s1 hs1
    (fun x hx g s hs => by
      obtain ⟨d, g', s', e, k1, k2, k3⟩ := elt_one n 2 [some (.m 0), some (.int (m : Int)), some (.lst evL), some (.int (0 + (x : Int)))] rfl evL rfl rfl (by decide) (by decide) g s hs
      exact ⟨_, d, g', s', rfl, by simp, e, k1, k2, k3⟩) (by simp; omega)
  obtain ⟨evs, rfl⟩ := AllP_evs hA
  have hlen := hA.len
  simp only [List.length_map, List.length_range] at hlen
  refine ⟨evs, g', s', hs', by omega, ?_⟩
  have hc := callS_m2 (cf := callF sub T gv (n + 2) 1001) (k := 0) (mm := [.mu (sk g s)]) rfl rfl rfl q
  have hp := pure_evs evs
  have hsm : small64 (4 * (j : Int)) = true := by simp only [small64, Bool.and_eq_true, decide_eq_true_eq]; omega
  rw [callF_succ, T1006]
  show endF 1 (semB sub gv (callF sub T gv (n + 2)) l_law_row.body [some (.m 0), some (.int (m : Int)), none, none] [.mu (sk g s)]) = _
  have h1 : semS sub gv (callF sub T gv (n + 2)) (.asg 2 (.bin .add (.call0 1005) (.lst (.cons (.tup (.cons (.cst (.str [98, 114, 101, 97, 107])) .nil)) (.cons (.tup (.cons (.cst (.str [99, 108, 97, 105, 109])) .nil)) (.cons (.tup (.cons (.cst (.str [99, 108, 97, 105, 109])) .nil)) (.cons (.tup (.cons (.cst (.str [100, 97, 121])) .nil)) (.cons (.tup (.cons (.cst (.str [112, 117, 116])) .nil)) .nil)))))))) [some (.m 0), some (.int (m : Int)), none, none] [.mu (sk g s)] = nxS [some (.m 0), some (.int (m : Int)), some (.lst evL), none] [.mu (sk g s)] := rfl
  have h2 : semI gv (callF sub T gv (n + 2)) (.rng (.call 1001 (.cons (.var 0) (.cons (.bin .add (.var 1) (.cst (.int 1))) .nil)))) [some (.m 0), some (.int (m : Int)), some (.lst evL), none] [.mu (sk g s)] = okI2 ((List.range j).map fun i : Nat => D.int (0 + (i : Int))) [.mu (sk g1 s1)] := by
    rw [i_rngE, e_call]
    show rng1 (callS (callF sub T gv (n + 2) 1001) [.m 0, .int ((m : Int) + 1)] [.mu (sk g s)]) = _
    rw [hc]
    show rng1 (okE (.int (j : Int)) [.mu (sk g1 s1)]) = _
    rw [rng1_ok, if_pos hsm]
    rfl
  have ht : ∀ mm, unS .tuple (.lst (evs.map Ev.d)) mm = okE (rowD evs) mm := fun _ => rfl
  simp only [l_law_row, b_consE, h1, seqS_nx, t_ret, e_un, e_lc, h2, lcI_ok, hl, List.nil_append, bindE_ok, Bool.false_eq_true, if_false, un1_ok, ht, retS_ok, seqS_rt, endF_rt]
  simp [finF, M.isMu, hp]
end Mp
/-! Po: policies (60, 200 .. 212) -/
namespace Mp
abbrev pol (r : Ru) : D := .obj 50 [r.d]
abbrev toldM (r : Ru) (evs : List Ev) : List Tx := (runM r (s0 r) evs).2
theorem T200 : T 200 = c_Policy_init := rfl
theorem T201 : T 201 = c_Policy_of := rfl
theorem T202 : T 202 = c_Policy_rule := rfl
theorem T204 : T 204 = c_Policy_having := rfl
theorem T205 : T 205 = c_Policy_call := rfl
theorem T206 : T 206 = c_Policy_rshift := rfl
theorem T211 : T 211 = c_Policy_str := rfl
theorem T212 : T 212 = c_Policy_eq := rfl
theorem T60 : T 60 = p_policy_of := rfl
theorem finM {b : Nat} {d : D} {mm : Mm} (h : (mm.take b).all M.isMu = true) (hp : pureD d = true) : finF b d mm = some (.rt d (mm.take b) []) := by
  unfold finF; rw [if_pos h, hp]
theorem finN {b k : Nat} {mm : Mm} {c : D} (h : (mm.take b).all M.isMu = true) (hk : b ≤ k) (hc : mm[k]? = some (.mu c)) : finF b (.m k) mm = some (.rt (.m b) (mm.take b) [.mu c]) := by
  unfold finF
  rw [if_pos h]
  show (if k < b then _ else (match mm[k]? with | some (.mu c) => _ | _ => none)) = _
  rw [if_neg (by omega), hc]
theorem callI {n f : Nat} {args : List D} {bs : Mm} {r : Option FR} (hn : (args.length == (T f).np) = true) (w : WS (semB sub gv (callF sub T gv n) (T f).body (startS (T f).ns args) bs) fun y => match y with
    | .nx _ mm => finF bs.length .non mm = r
    | .rt d mm => finF bs.length d mm = r
    | .ex x _ mm => exF bs.length x mm = r
    | _ => False) : callF sub T gv (n + 1) f args bs = r := by
  obtain ⟨y, e, q⟩ := w
  unfold callF
  rw [if_pos hn, e]
  cases y <;> first | exact q | exact q.elim
theorem init_ok (n : Nat) (r : Ru) (g : Good r) : callF sub T gv (n + 5) 200 [.m 0, .int r.c, .str r.b, .str r.p, .int r.o, .int r.k, .str r.l, .str r.m, .bl r.a, .bl r.r] [.mu (.obj 50 [])] = some (.rt .non [.mu (pol r)] []) := by
  refine callI rfl ?_
  rw [T200]
  refine wb_cons (ws_asg (WO.of (d := r.d) (mm := [.mu (.obj 50 [])]) rfl ?_))
  refine wb_cons (ws_exp (we_call (wl_cons (we_var rfl (wl_nil (wc_pure (need_rule_ok n r g) (by simp) rfl ?_))))))
  exact ⟨_, rfl, rfl⟩
theorem set_same {mm : Mm} {k : Nat} {x : M} (hk : mm[k]? = some x) : mm.set k x = mm := by
  obtain ⟨h, e⟩ := List.getElem?_eq_some_iff.mp hk
  rw [← e]
  exact List.set_getElem_self h
theorem callS_i {cf : List D → Mm → Option FR} {k : Nat} {ds : List D} {v v' c c' : D} {mm new : Mm} (hk : mm[k]? = some (.mu c)) (hp : pureDs ds = true) (h : cf (.m 0 :: ds) [.mu c] = some (.rt v [.mu c'] new)) (hb : backD [k] mm.length v = some v') : callS cf (.m k :: ds) mm = okE v' (mm.set k (.mu c') ++ new) := by
  obtain ⟨a, b, e⟩ := all_pure hp
  have a1 : lentOf (.m k :: ds) = [k] := by show k :: lentOf ds = _; rw [b]
  have a2 : argsOf 0 (.m k :: ds) = .m 0 :: ds := by show .m 0 :: argsOf 1 ds = _; rw [e]
  have a3 : (D.m k :: ds).all okArg = true := by
    show (true && ds.all okArg) = true
    rw [a]; rfl
  simp [callS, a1, a2, a3, takeMu, hk, h, putMu, okE, hb]
section
variable {g : List D → Mm → Option FR} {ds : List D} {c : D} {mm : Mm} {k : Nat} {Q : D → Mm → Prop}
/-- asked of an instance: a value -/
theorem wc_iv {v : D} (hk : mm[k]? = some (.mu c)) (hp : pureDs ds = true) (h : g (.m 0 :: ds) [.mu c] = some (.rt v [.mu c] [])) (hv : pureD v = true) (q : Q v mm) : WO (callS g (.m k :: ds) mm) Q := by
  refine WO.of (callS_i hk hp h (v' := v) ?_) ?_
  · unfold backD; rw [hv]
  · rw [set_same hk, List.append_nil]; exact q
/-- asked of an instance: a new object -/
theorem wc_in {o : M} (hk : mm[k]? = some (.mu c)) (hp : pureDs ds = true) (h : g (.m 0 :: ds) [.mu c] = some (.rt (.m 1) [.mu c] [o])) (q : Q (.m mm.length) (mm ++ [o])) : WO (callS g (.m k :: ds) mm) Q := by
  refine WO.of (callS_i hk hp h (v' := .m mm.length) rfl) ?_
  rw [set_same hk]; exact q
/-- a new instance -/
theorem wo_mk {gv : Nat → D} {cf : Nat → List D → Mm → Option FR} {sl : Sl} {c f : Nat} {es es2 : Es} {fl : List (Option D)} {o : D} (w : WL (semEs gv cf es sl mm) fun ds m => WL (semEs gv cf es2 sl m) fun ds2 m2 => pureDs (fillA fl (ds ++ ds2)) = true ∧ cf f (.m 0 :: fillA fl (ds ++ ds2)) [.mu (.obj c [])] = some (.rt .non [.mu o] []) ∧ Q (.m m2.length) (m2 ++ [.mu o])) : WO (semE gv cf (.mk c f es es2 fl) sl mm) Q := by
  obtain ⟨ds, m, e1, ds2, m2, e2, hp, h, q⟩ := w
  refine WO.of (d := .m m2.length) (mm := m2 ++ [.mu o]) ?_ q
  have hk : (m2 ++ [M.mu (.obj c [])])[m2.length]? = some (.mu (.obj c [])) := by simp
  have hc := callS_i hk hp h (v' := .non) rfl
  have hs : (m2 ++ [M.mu (.obj c [])]).set m2.length (.mu o) ++ [] = m2 ++ [.mu o] := by simp
  simp only [semE, e1, e2, mkS, hc, hs]
  rfl
theorem we_opc {gv : Nat → D} {cf : Nat → List D → Mm → Option FR} {sl : Sl} {o : Op} {c f : Nat} {a : E} {es : Es} (w : WO (semE gv cf a sl mm) fun r m => (o.recv && !isInst c m r) = false ∧ WL (semEs gv cf es sl m) fun ds m2 => WO (opS (cf f) o c r ds m2) Q) : WO (semE gv cf (.opc o c f a es) sl mm) Q := by
  obtain ⟨r, m, e1, h, ds, m2, e2, d, m3, e3, q⟩ := w
  refine ⟨d, m3, ?_, q⟩
  simp only [semE]
  rw [bindE_some e1, h, if_neg (by decide), e2]
  exact e3
theorem we_op2 {gv : Nat → D} {cf : Nat → List D → Mm → Option FR} {sl : Sl} {o : Op} {c f : Nat} {a b : E} (w : WO (semE gv cf a sl mm) fun r m => (o.recv && !isInst c m r) = false ∧ WO (semE gv cf b sl m) fun d m2 => WO (opS (cf f) o c r [d] m2) Q) : WO (semE gv cf (.op2 o c f a b) sl mm) Q := by
  obtain ⟨r, m, e1, h, d, m2, e2, d3, m3, e3, q⟩ := w
  refine ⟨d3, m3, ?_, q⟩
  simp only [semE]
  rw [bindE_some e1, h, if_neg (by decide), bindE_some e2]
  exact e3
end
theorem policy_of_ok (n : Nat) (r : Ru) (g : Good r) : callF sub T gv (n + 6) 60 [r.d] [] = some (.rt (.m 0) [] [.mu (pol r)]) := by
  refine callI rfl ?_
  rw [T60]
  refine wb_cons (s := .unp [1, 2, 3, 4, 5, 6, 7, 8, 9] (.var 0)) ⟨.nx [some r.d, some (.int r.c), some (.str r.b), some (.str r.p), some (.int r.o), some (.int r.k), some (.str r.l), some (.str r.m), some (.bl r.a), some (.bl r.r)] [], rfl, ?_⟩
  refine wb_cons (ws_ret (wo_mk (o := pol r) ?_))
  refine ⟨[.int r.c, .str r.b, .str r.p], [], rfl, [.int r.o, .int r.k, .str r.l, .str r.m, .bl r.a, .bl r.r], [], rfl, rfl, init_ok n r g, rfl⟩
theorem of_ok (n : Nat) (r : Ru) (g : Good r) : callF sub T gv (n + 7) 201 [.obj 50 [], .str (textM r)] [] = some (.rt (.m 0) [] [.mu (pol r)]) := by
  refine callI rfl ?_
  rw [T201]
  refine wb_cons (ws_ret (we_call (wl_cons (we_call (wl_cons (we_var rfl (wl_nil (wc_pure (read_rule_ok (n + 1) r g) rfl (by simp) (wl_nil (wc_new (policy_of_ok n r g) (by simp) rfl))))))))))
theorem prop_ok (n : Nat) (r : Ru) : callF sub T gv (n + 1) 202 [.m 0] [.mu (pol r)] = some (.rt r.d [.mu (pol r)] []) := rfl
theorem led_row (n : Nat) (r : Ru) (evs : List Ev) (h : evs.length ≤ 60) {sl : Sl} {mm : Mm} {Q : D → Mm → Prop} (h0 : sl[0]? = some (some (.m 0))) (h1 : sl[1]? = some (some (rowD evs))) (hm : mm[0]? = some (.mu (pol r)))
    (q : Q (.tup [(runM r (s0 r) evs).1.d, .m mm.length]) (mm ++ [.mu (.lst ((toldM r evs).map .str))])) : WO (semE gv (callF sub T gv (n + 4)) (.call 21 (.cons (.un (.ifl 50 0) (.var 0)) (.cons (.var 1) .nil))) sl mm) Q := by
  have hu : unS (.ifl 50 0) (.m 0) mm = okE r.d mm := by
    show (match mm[0]? with | some (.mu (.obj c' fs)) => _ | _ => none) = _
    rw [hm]
    rfl
  refine we_call (wl_cons (we_un (we_var h0 (WO.of hu (wl_cons (we_var h1 (wl_nil ?_)))))))
  have q3 : callF sub T gv (n + 4) 21 [r.d, rowD evs] [] = _ := led_ok n r evs h
  have hr : pureD r.d = true := by simp
  refine WO.of ?_ q
  rw [callS_pp (by rw [pu_cons, hr, pu_cons, pu_tup, pure_evs]; rfl), q3, resP_tm (by simp)]
theorem pcall_ok (n : Nat) (r : Ru) (evs : List Ev) (h : evs.length ≤ 60) : callF sub T gv (n + 5) 205 [.m 0, rowD evs] [.mu (pol r)] = some (.rt (.m 1) [.mu (pol r)] [.mu (.lst ((toldM r evs).map .str))]) := by
  refine callI rfl ?_
  rw [T205]
  refine wb_cons (ws_exp (we_call (wl_cons (we_var rfl (wl_nil (wc_pure (need_row_ok (n + 1) evs h) (by rw [pu_cons, pu_tup, pure_evs]; rfl) rfl ?_))))))
  refine wb_cons (ws_ret (we_bin (led_row n r evs h rfl rfl rfl (we_cst (WO.of (d := .m 1) (mm := [.mu (pol r), .mu (.lst ((toldM r evs).map .str))]) rfl ?_)))))
  exact finN rfl (Nat.le_refl 1) rfl
theorem shr_ok (n : Nat) (r : Ru) (evs : List Ev) (h : evs.length ≤ 60) : callF sub T gv (n + 5) 206 [.m 0, rowD evs] [.mu (pol r)] = some (.rt (runM r (s0 r) evs).1.d [.mu (pol r)] []) := by
  refine callI rfl ?_
  rw [T206]
  refine wb_cons (ws_exp (we_call (wl_cons (we_var rfl (wl_nil (wc_pure (need_row_ok (n + 1) evs h) (by rw [pu_cons, pu_tup, pure_evs]; rfl) rfl ?_))))))
  refine wb_cons (ws_ret (we_bin (led_row n r evs h rfl rfl rfl (we_cst (WO.of (d := (runM r (s0 r) evs).1.d) (mm := [.mu (pol r), .mu (.lst ((toldM r evs).map .str))]) rfl ?_)))))
  exact finM rfl (by simp)
theorem str_ok (n : Nat) (r : Ru) (g : Good r) : callF sub T gv (n + 3) 211 [.m 0] [.mu (pol r)] = some (.rt (.str (textM r)) [.mu (pol r)] []) := by
  refine callI rfl ?_
  rw [T211]
  refine wb_cons (ws_ret (we_un (we_call (wl_cons (we_un (we_var rfl (WO.of (d := r.d) (mm := [.mu (pol r)]) rfl (wl_nil (wc_pure (line_ok n r g) (by simp) rfl ?_)))))))))
  exact WO.of (d := .str (textM r)) (mm := [.mu (pol r)]) rfl rfl
theorem eq_ok (n : Nat) (r r' : Ru) : callF sub T gv (n + 1) 212 [.m 0, .m 1] [.mu (pol r), .mu (pol r')] = some (.rt (.bl (eqD r.d r'.d)) [.mu (pol r), .mu (pol r')] []) := by
  refine callI rfl ?_
  rw [T212]
  refine wb_cons (ws_ret (we_and (we_un (we_var rfl (WO.of (d := .bl true) (mm := [.mu (pol r), .mu (pol r')]) rfl ⟨true, rfl, fun _ => ?_, fun h => (by cases h)⟩)))))
  refine we_bin (we_un (we_var rfl (WO.of (d := r.d) (mm := [.mu (pol r), .mu (pol r')]) rfl (we_un (we_var rfl (WO.of (d := r'.d) (mm := [.mu (pol r), .mu (pol r')]) rfl ?_))))))
  refine wo_eqL (by simp [hgt, hgts]) (by simp [hgt, hgts]) ?_
  exact finM rfl rfl
theorem having_ok (n : Nat) (r r' : Ru) (g : Good r') {nm : Tx} {v : D} (hv : pureD v = true) (h1 : callF sub T gv (n + 6) 58 [.str nm] [] = some (.rt .non [] [])) (h2 : callF sub T gv (n + 6) 8 [r.d, .str nm, v] [] = some (.rt r'.d [] [])) : callF sub T gv (n + 7) 204 [.m 0, .str nm, v] [.mu (pol r)] = some (.rt (.m 1) [.mu (pol r)] [.mu (pol r')]) := by
  refine callI rfl ?_
  rw [T204]
  refine wb_cons (ws_exp (we_call (wl_cons (we_var rfl (wl_nil (wc_pure h1 rfl rfl ?_))))))
  refine wb_cons (ws_asg (we_call (wl_cons (we_un (we_var rfl (WO.of (d := r.d) (mm := [.mu (pol r)]) rfl (wl_cons (we_var rfl (wl_cons (we_var rfl (wl_nil (wc_pure h2 (by simp [hv]) (by simp) ?_))))))))))))
  refine wb_cons (ws_exp (we_call (wl_cons (we_var rfl (wl_nil (wc_pure (need_rule_ok (n + 2) r' g) (by simp) rfl ?_))))))
  exact wb_cons (ws_ret (we_call (wl_cons (we_var rfl (wl_nil (wc_new (policy_of_ok n r' g) (by simp) rfl))))))
end Mp
/-! Lw13: the law (k13) -/
namespace Mp
theorem T1029 : T 1029 = l_law_line := rfl
theorem T1999 : T 1999 = l_law := rfl
def isB : D → Bool
  | .bl _ => true
  | _ => false
theorem str_val {i : Nat} {V : List D} (hV : valsM[i]? = some V) {v : D} (hv : v ∈ V) : (∃ b, v = .bl b) ∨ (isB v = false ∧ ∀ mm, unS .str v mm = okE (.str (wM v)) mm) := by
  have hi : i < 9 := (List.getElem?_eq_some_iff.mp hV).1
  have h : i = 0 ∨ i = 1 ∨ i = 2 ∨ i = 3 ∨ i = 4 ∨ i = 5 ∨ i = 6 ∨ i = 7 ∨ i = 8 := by omega
  rcases h with rfl | rfl | rfl | rfl | rfl | rfl | rfl | rfl | rfl <;> (cases hV; simp only [List.mem_cons, List.not_mem_nil, or_false] at hv)
  · rcases hv with rfl | rfl | rfl | rfl <;> exact .inr ⟨rfl, fun _ => rfl⟩
  · rcases hv with rfl | rfl | rfl | rfl <;> exact .inr ⟨rfl, fun _ => rfl⟩
  · rcases hv with rfl | rfl | rfl <;> exact .inr ⟨rfl, fun _ => rfl⟩
  · rcases hv with rfl | rfl | rfl | rfl <;> exact .inr ⟨rfl, fun _ => rfl⟩
  · rcases hv with rfl | rfl | rfl | rfl | rfl | rfl | rfl | rfl | rfl <;> exact .inr ⟨rfl, fun _ => rfl⟩
  · rcases hv with rfl | rfl | rfl <;> exact .inr ⟨rfl, fun _ => rfl⟩
  · rcases hv with rfl | rfl <;> exact .inr ⟨rfl, fun _ => rfl⟩
  · rcases hv with rfl | rfl <;> exact .inl ⟨_, rfl⟩
  · rcases hv with rfl | rfl <;> exact .inl ⟨_, rfl⟩
theorem u_isB {v : D} (h : ∀ k, v ≠ .m k) (h2 : hgt v = 0) {mm : Mm} : unS (.isi .bool) v mm = okE (.bl (isB v)) mm := by
  cases v <;> first | rfl | exact absurd rfl (h _) | (simp only [hgt] at h2; omega)
abbrev lnB : B := (.cons (.asg 4 (.bin .idx (.var 0) (.var 1)))
    (.cons (.ifs (.un (.isi .bool) (.var 4))
    (.cons (.asg 4 (.ite (.var 4) (.cst (.str [121, 101, 115])) (.cst (.str [110, 111]))))
    .nil)
    .nil)
    (.cons (.exp (.mth .app (.var 3) (.bin .add (.bin .add (.bin .idx (.var 2) (.var 1)) (.cst (.str [32]))) (.un .str (.var 4)))))
    .nil)))
theorem ln_turn (cf : Nat → List D → Mm → Option FR) {r : Ru} {i : Nat} {nm : Tx} {V : List D} (hn : nmsM[i]? = some nm) (hV : valsM[i]? = some V) {v : D} (hr : (rvs r)[i]? = some v) (hv : v ∈ V) (x4 : Option D) (acc : List Tx) (ha : acc.length ≤ 100) {QS : RS → Prop}
    (q : ∀ y4, QS (.nx [some r.d, some (.int (i : Int)), some (.lst (nmsM.map .str)), some (.m 0), y4] [.mu (.lst ((acc ++ [pcM nm v]).map .str))])) :
    WS (semB sub gv cf lnB [some r.d, some (.int (i : Int)), some (.lst (nmsM.map .str)), some (.m 0), x4] [.mu (.lst (acc.map .str))]) QS := by
  have h1 := nm_len hn
  have h2 := wm_len hn hV hv
  have hm : ∀ k, v ≠ .m k := fun k e => by have := (pure_val hV hv).1; rw [e] at this; cases this
  have hin : (nmsM.map D.str)[i]? = some (.str nm) := by rw [List.getElem?_map, hn]; rfl
  have tail : ∀ w4 : D, (∀ mm, unS .str w4 mm = okE (.str (wM v)) mm) → WS (semB sub gv cf (.cons (.exp (.mth .app (.var 3) (.bin .add (.bin .add (.bin .idx (.var 2) (.var 1)) (.cst (.str [32]))) (.un .str (.var 4))))) .nil) [some r.d, some (.int (i : Int)), some (.lst (nmsM.map .str)), some (.m 0), some w4] [.mu (.lst (acc.map .str))]) QS := by
    intro w4 hw
    refine wb_cons (ws_exp (we_mth (we_var rfl ⟨rfl, we_bin (we_bin (we_bin (we_var rfl (we_var rfl (wo_ixL rfl hin (we_cst (wo_addS (by simp; omega) (we_un (we_var rfl (WO.of (hw _) (wo_addS (by simp; omega) (wo_app rfl rfl (by rw [List.length_map]; omega) (wb_nil ?_)))))))))))))⟩)))
    have := q (some w4)
    rw [List.map_append] at this
    exact this
  refine wb_cons (ws_asg (we_bin (we_var rfl (we_var rfl (wo_ixT rfl hr ?_)))))
  rcases str_val hV hv with ⟨b, rfl⟩ | ⟨hb, hs⟩
  · refine wb_cons (ws_if1 (we_un (we_var rfl (WO.of (d := .bl true) (mm := [.mu (.lst (acc.map .str))]) rfl ⟨rfl, wb_cons (ws_asg (we_ite (we_var rfl ⟨b, rfl, fun h => ?_, fun h => ?_⟩)))⟩))))
    · subst h
      exact we_cst (wb_nil (tail _ fun _ => rfl))
    · subst h
      exact we_cst (wb_nil (tail _ fun _ => rfl))
  · refine wb_cons (ws_if0 (we_un (we_var rfl (WO.of (u_isB hm (pure_val hV hv).2) ⟨by rw [hb], wb_nil (tail v hs)⟩))))
theorem names_b {mm : Mm} : binS .split (.str [99, 111, 118, 101, 114, 32, 98, 111, 100, 121, 32, 112, 97, 114, 116, 32, 111, 119, 110, 32, 99, 97, 112, 32, 108, 111, 111, 107, 115, 32, 109, 111, 118, 101, 100, 32, 97, 108, 105, 101, 110, 32, 98, 97, 99, 107]) (.str [32]) mm = okE (.lst (nmsM.map .str)) mm := by
  have h : splitT [99, 111, 118, 101, 114, 32, 98, 111, 100, 121, 32, 112, 97, 114, 116, 32, 111, 119, 110, 32, 99, 97, 112, 32, 108, 111, 111, 107, 115, 32, 109, 111, 118, 101, 100, 32, 97, 108, 105, 101, 110, 32, 98, 97, 99, 107] [32] = nmsM := by rw [splitT_spl (by simp) (by decide)]; rfl
  simp [binS, h, okT, szl, nmsM]
theorem lawline_ok (n : Nat) (r : Ru) (g : Good r) : callF sub T gv (n + 1) 1029 [r.d] [] = some (.rt (.str (textM r)) [] []) := by
  refine callF_of T1029 rfl ?_
  refine wb_cons (ws_par (we_mth (we_cst ⟨rfl, we_cst (WO.of names_b (we_nls (wl_nil ⟨rfl, ?_⟩)))⟩)))
  refine wb_cons (ws_for (wi_rng (we_cst ⟨9, rfl, by decide, ?_⟩)))
  have vv := rule_vals g
  show WS (forS (.nm 1) _ _ [some r.d, none, some (.lst (nmsM.map .str)), some (.m 0), none] [.mu (.lst (([] : List Tx).map .str))]) _
  refine wf_cons rfl (ln_turn _ (r := r) (i := 0) rfl rfl rfl (vv 0 _ _ rfl rfl) _ [] (by decide) fun y4 => ?_)
  refine wf_cons rfl (ln_turn _ (r := r) (i := 1) rfl rfl rfl (vv 1 _ _ rfl rfl) _ _ (by simp) fun y4 => ?_)
  refine wf_cons rfl (ln_turn _ (r := r) (i := 2) rfl rfl rfl (vv 2 _ _ rfl rfl) _ _ (by simp) fun y4 => ?_)
  refine wf_cons rfl (ln_turn _ (r := r) (i := 3) rfl rfl rfl (vv 3 _ _ rfl rfl) _ _ (by simp) fun y4 => ?_)
  refine wf_cons rfl (ln_turn _ (r := r) (i := 4) rfl rfl rfl (vv 4 _ _ rfl rfl) _ _ (by simp) fun y4 => ?_)
  refine wf_cons rfl (ln_turn _ (r := r) (i := 5) rfl rfl rfl (vv 5 _ _ rfl rfl) _ _ (by simp) fun y4 => ?_)
  refine wf_cons rfl (ln_turn _ (r := r) (i := 6) rfl rfl rfl (vv 6 _ _ rfl rfl) _ _ (by simp) fun y4 => ?_)
  refine wf_cons rfl (ln_turn _ (r := r) (i := 7) rfl rfl rfl (vv 7 _ _ rfl rfl) _ _ (by simp) fun y4 => ?_)
  refine wf_cons rfl (ln_turn _ (r := r) (i := 8) rfl rfl rfl (vv 8 _ _ rfl rfl) _ _ (by simp) fun y4 => ?_)
  refine wf_nil (wb_cons (ws_ret (we_mth (we_cst ⟨rfl, we_var rfl (wo_join (ts := lnM r) (k := 20) rfl rfl (fun p hp => (ln_ok g p hp).2) (by show 9 * (20 + 2) ≤ _; decide) ?_)⟩))))
  rfl
theorem hgts_evs : ∀ evs : List Ev, hgts (evs.map Ev.d) ≤ 1
  | [] => Nat.zero_le _
  | e :: evs => by
    have := hgts_evs evs
    show max (hgt e.d) (hgts (evs.map Ev.d)) ≤ 1
    simp only [hgt, hgts]
    omega
theorem hgt_row (evs : List Ev) : hgt (rowD evs) ≤ 64 := by
  have := hgts_evs evs
  show hgts (evs.map Ev.d) + 1 ≤ 64
  omega
theorem has_set {mm : Mm} {k : Nat} {c c' : D} (hk : mm[k]? = some (.mu c)) : (mm.set k (.mu c'))[k]? = some (.mu c') := List.getElem?_set_self (List.getElem?_eq_some_iff.mp hk).1
theorem wi_cells {gv : Nat → D} {cf : Nat → List D → Mm → Option FR} {sl : Sl} {mm : Mm} {ns : List Int} {k : Int} (hl : ns.length ≤ 63) (h0 : sl[0]? = some (some (.lst (ns.map .int)))) {QI : List D → Mm → Prop} (q : ∀ cs : List Int, QI (cs.map .int) mm) :
    WI (semI gv cf (.seq (.slc (.bin .add (.lst (.cons (.cst (.int 0)) .nil)) (.var 0)) .no (.cst (.int k)))) sl mm) QI := by
  have ha : binS .add (.lst [.int 0]) (.lst (ns.map .int)) mm = okE (.lst ((0 :: ns).map .int)) mm := by
    have hz : 1 + (ns.map D.int).length ≤ szl := by rw [List.length_map]; unfold szl; omega
    simp only [binS, addS, rdv_lst, List.length_cons, List.length_nil, Nat.zero_add, hz, if_true]
    rfl
  refine wi_lst (we_slc (we_bin (we_lst (wl_cons (we_cst (wl_nil ⟨rfl, we_var h0 (WO.of ha (we_no ⟨none, rfl, we_cst ⟨some k, rfl, WO.of (d := .lst (cutD ((0 :: ns).map D.int) none (some k))) rfl ?_⟩⟩))⟩))))))
  refine ⟨_, rfl, ?_⟩
  have e : cutD ((0 :: ns).map D.int) none (some k) = (((0 :: ns).drop (HT.sIx ((0 :: ns).map D.int).length 0 none)).take (HT.sIx ((0 :: ns).map D.int).length ((0 :: ns).map D.int).length (some k) - HT.sIx ((0 :: ns).map D.int).length 0 none)).map .int := by
    rw [List.map_take, List.map_drop]; rfl
  rw [e]
  exact q _
structure Pm (mm : Mm) (kS kP : Nat) (r : Ru) : Prop where
  s : ∃ c, mm[kS]? = some (.mu c) ∧ SkC c
  p : mm[kP]? = some (.mu (pol r))
  ne : kS ≠ kP
theorem lt_of {mm : Mm} {k : Nat} {x : M} (h : mm[k]? = some x) : k < mm.length := (List.getElem?_eq_some_iff.mp h).1
theorem app_at {mm : Mm} {k : Nat} {x : M} (h : mm[k]? = some x) (new : Mm) : (mm ++ new)[k]? = some x := by rw [List.getElem?_append_left (lt_of h)]; exact h
theorem Pm.app {mm : Mm} {kS kP : Nat} {r : Ru} (h : Pm mm kS kP r) (new : Mm) : Pm (mm ++ new) kS kP r := by
  obtain ⟨c, hc, hs⟩ := h.s
  exact ⟨⟨c, app_at hc new, hs⟩, app_at h.p new, h.ne⟩
theorem Pm.setS {mm : Mm} {kS kP : Nat} {r : Ru} (h : Pm mm kS kP r) {c : D} (hc : SkC c) : Pm (mm.set kS (.mu c)) kS kP r := by
  obtain ⟨c0, hc0, _⟩ := h.s
  refine ⟨⟨c, List.getElem?_set_self (lt_of hc0), hc⟩, ?_, h.ne⟩
  rw [List.getElem?_set_ne h.ne]
  exact h.p
theorem Pm.setO {mm : Mm} {kS kP : Nat} {r : Ru} (h : Pm mm kS kP r) {j : Nat} (x : M) (h1 : j ≠ kS) (h2 : j ≠ kP) : Pm (mm.set j x) kS kP r := by
  obtain ⟨c, hc, hs⟩ := h.s
  exact ⟨⟨c, by rw [List.getElem?_set_ne h1]; exact hc, hs⟩, by rw [List.getElem?_set_ne h2]; exact h.p, h.ne⟩
theorem isI {mm : Mm} {k : Nat} {r : Ru} (h : mm[k]? = some (.mu (pol r))) : isInst 50 mm (.m k) = true := by
  show (match mm[k]? with | some (.mu (.obj c' _)) => c' == 50 | _ => false) = true
  rw [h]; rfl
section
variable {sl : Sl} {mm : Mm} {Q : D → Mm → Prop} {kP i : Nat} {r : Ru} {evs : List Ev} {e : E}
theorem recv_ok {o : Op} (hp : mm[kP]? = some (.mu (pol r))) : (o.recv && !isInst 50 mm (.m kP)) = false := by rw [isI hp]; cases o.recv <;> rfl
theorem we_pcall (n : Nat) (h4 : sl[i]? = some (some (.m kP))) (hp : mm[kP]? = some (.mu (pol r))) (he : evs.length ≤ 60) (w : WO (semE gv (callF sub T gv (n + 5)) e sl mm) fun d m => d = rowD evs ∧ m = mm)
    (q : Q (.m mm.length) (mm ++ [.mu (.lst ((toldM r evs).map .str))])) : WO (semE gv (callF sub T gv (n + 5)) (.opc .call 50 205 (.var i) (.cons e .nil)) sl mm) Q := by
  refine we_opc (we_var h4 ⟨recv_ok hp, wl_cons (w.mono ?_)⟩)
  rintro _ _ ⟨rfl, rfl⟩
  refine wl_nil ?_
  show WO (if isInst 50 _ (.m kP) then callS (callF sub T gv (n + 5) 205) [.m kP, rowD evs] _ else none) Q
  rw [isI hp, if_pos rfl]
  exact wc_in hp (by rw [pu_cons, pu_tup, pure_evs]; rfl) (pcall_ok n r evs he) q
theorem we_pshr (n : Nat) (h4 : sl[i]? = some (some (.m kP))) (hp : mm[kP]? = some (.mu (pol r))) (he : evs.length ≤ 60) (w : WO (semE gv (callF sub T gv (n + 5)) e sl mm) fun d m => d = rowD evs ∧ m = mm)
    (q : Q (runM r (s0 r) evs).1.d mm) : WO (semE gv (callF sub T gv (n + 5)) (.op2 .shr 50 206 (.var i) e) sl mm) Q := by
  refine we_op2 (we_var h4 ⟨recv_ok hp, w.mono ?_⟩)
  rintro _ _ ⟨rfl, rfl⟩
  show WO (if isInst 50 _ (.m kP) then callS (callF sub T gv (n + 5) 206) [.m kP, rowD evs] _ else none) Q
  rw [isI hp, if_pos rfl]
  exact wc_iv hp (by rw [pu_cons, pu_tup, pure_evs]; rfl) (shr_ok n r evs he) (by simp) q
theorem cut_pre {α : Type} {xs : List α} (k : Nat) (h : k ≤ xs.length) : cutD xs none (some (k : Int)) = xs.take k := by
  unfold cutD
  rw [HT.sIx_nat]
  show (xs.drop 0).take (min k xs.length - 0) = _
  rw [List.drop_zero, Nat.sub_zero, Nat.min_eq_left h]
end
abbrev atB : B := (.cons (.ifs (.and (.bin .mem (.bin .idx (.opc .call 50 205 (.var 4) (.cons (.var 11) .nil)) (.var 6)) (.tup (.cons (.cst (.str [114, 101, 102, 117, 115, 101, 100])) (.cons (.cst (.str [110, 111, 116, 104, 105, 110, 103])) .nil)))) (.bin .ne (.op2 .shr 50 206 (.var 4) (.slc (.var 11) .no (.bin .add (.var 6) (.cst (.int 1))))) (.op2 .shr 50 206 (.var 4) (.slc (.var 11) .no (.var 6)))))
    (.cons (.ret (.cst (.bl false)))
    .nil)
    .nil)
    .nil)
abbrev rowsB : B := (.cons (.par 11 12 (.call 1006 (.cons (.var 2) (.cons (.cst (.int 25)) .nil))) (.call 1006 (.cons (.var 2) (.cons (.cst (.int 25)) .nil))))
    (.cons (.asg 9 (.opc .call 50 205 (.var 4) (.cons (.bin .add (.var 11) (.var 12)) .nil)))
    (.cons (.ifs (.or (.bin .ne (.slc (.var 9) .no (.un .len (.var 11))) (.opc .call 50 205 (.var 4) (.cons (.var 11) .nil))) (.bin .ne (.un .len (.var 9)) (.bin .add (.un .len (.var 11)) (.un .len (.var 12)))))
    (.cons (.ret (.cst (.bl false)))
    .nil)
    .nil)
    (.cons (.asg 10 (.un .tuple (.lc false (.tp [14, 13]) (.var 14) (.zip (.bin .add (.var 11) (.var 12)) (.var 9)) (.bin .mem (.var 13) (.tup (.cons (.cst (.str [100, 111, 110, 101])) (.cons (.cst (.str [112, 97, 105, 100])) .nil)))))))
    (.cons (.ifs (.bin .ne (.op2 .shr 50 206 (.var 4) (.var 10)) (.op2 .shr 50 206 (.var 4) (.bin .add (.var 11) (.var 12))))
    (.cons (.ret (.cst (.bl false)))
    .nil)
    .nil)
    (.cons (.ifs (.bin .ne (.lc false (.nm 13) (.var 13) (.seq (.opc .call 50 205 (.var 4) (.cons (.var 10) .nil))) (.bin .mem (.var 13) (.tup (.cons (.cst (.str [114, 101, 102, 117, 115, 101, 100])) (.cons (.cst (.str [110, 111, 116, 104, 105, 110, 103])) .nil))))) (.lst .nil))
    (.cons (.ret (.cst (.bl false)))
    .nil)
    .nil)
    (.cons (.for (.nm 6) (.rng (.un .len (.var 11)))
    (.cons (.ifs (.and (.bin .mem (.bin .idx (.opc .call 50 205 (.var 4) (.cons (.var 11) .nil)) (.var 6)) (.tup (.cons (.cst (.str [114, 101, 102, 117, 115, 101, 100])) (.cons (.cst (.str [110, 111, 116, 104, 105, 110, 103])) .nil)))) (.bin .ne (.op2 .shr 50 206 (.var 4) (.slc (.var 11) .no (.bin .add (.var 6) (.cst (.int 1))))) (.op2 .shr 50 206 (.var 4) (.slc (.var 11) .no (.var 6)))))
    (.cons (.ret (.cst (.bl false)))
    .nil)
    .nil)
    .nil))
    .nil)))))))
theorem mem_two {w a b : Tx} : memD (.str w) [.str a, .str b] = (decide (w = a) || decide (w = b)) := by
  simp [memD, eqD, eq_comm (a := w)]
theorem idle_mem {w : Tx} {mm : Mm} {Q : D → Mm → Prop} (q : Q (.bl (idle w)) mm) : WO (binS .mem (.str w) (.tup [.str tRefused, .str tNothing]) mm) Q := by
  refine wo_memT (xs := [.str tRefused, .str tNothing]) rfl (by show 0 ≤ 64; decide) (by decide) ?_
  rw [mem_two]
  exact q
theorem busy_mem {w : Tx} {mm : Mm} {Q : D → Mm → Prop} (q : Q (.bl (busy w)) mm) : WO (binS .mem (.str w) (.tup [.str tDone, .str tPaid]) mm) Q := by
  refine wo_memT (xs := [.str tDone, .str tPaid]) rfl (by show 0 ≤ 64; decide) (by decide) ?_
  rw [mem_two]
  exact q
theorem at_turn (n : Nat) {r : Ru} {kS kP : Nat} {one : List Ev} (h1 : one.length ≤ 60) {i : Nat} (hi : i < one.length) {x0 x1 x2 x3 x5 x7 x8 x9 x10 x12 x13 x14 : Option D} {mm : Mm} (hm : Pm mm kS kP r) :
    WS (semB sub gv (callF sub T gv (n + 5)) atB [x0, x1, x2, x3, some (.m kP), x5, some (.int (i : Int)), x7, x8, x9, x10, some (rowD one), x12, x13, x14] mm) fun y => ∃ m', y = .nx [x0, x1, x2, x3, some (.m kP), x5, some (.int (i : Int)), x7, x8, x9, x10, some (rowD one), x12, x13, x14] m' ∧ Pm m' kS kP r := by
  have hl : i < (toldM r one).length := by rw [runM_len]; exact hi
  obtain ⟨w, hw⟩ : ∃ w, (toldM r one)[i]? = some w := ⟨_, List.getElem?_eq_getElem hl⟩
  have hx : ((toldM r one).map D.str)[i]? = some (.str w) := by rw [List.getElem?_map, hw]; rfl
  have hrd : rd (mm ++ [.mu (.lst ((toldM r one).map .str))]) (.m mm.length) = .lst ((toldM r one).map .str) := rd_m (c := .mu (.lst ((toldM r one).map .str))) (by simp)
  have hm2 := hm.app [.mu (.lst ((toldM r one).map .str))]
  have sl1 : ∀ (k : Nat) (hk : k ≤ one.length) (m : Mm), slcS (rowD one) none (some (k : Int)) m = okE (rowD (one.take k)) m := by
    intro k hk m
    show okE (.tup (cutD (one.map Ev.d) none (some (k : Int)))) m = _
    rw [cut_pre k (by rw [List.length_map]; exact hk), ← List.map_take]
  refine wb_cons (ws_ifs (we_and (we_bin (we_bin (we_pcall n rfl hm.p h1 (we_var rfl ⟨rfl, rfl⟩) (we_var rfl (wo_ixL hrd hx (we_tup (wl_cons (we_cst (wl_cons (we_cst (wl_nil (idle_mem ⟨_, rfl, fun hp => ?_, fun hp => ?_⟩))))))))))))))
  · refine we_bin (we_pshr n (evs := one.take (i + 1)) rfl hm2.p (by rw [List.length_take]; omega) ?_ (we_pshr n (evs := one.take i) rfl hm2.p (by rw [List.length_take]; omega) ?_ ?_))
    · refine we_slc (we_var rfl (we_no ⟨none, rfl, we_bin (we_var rfl (we_cst (wo_addI ⟨some _, rfl, WO.of (d := rowD (one.take (i + 1))) ?_ ⟨rfl, rfl⟩⟩)))⟩))
      exact sl1 (i + 1) (by omega) _
    · exact we_slc (we_var rfl (we_no ⟨none, rfl, we_var rfl ⟨some _, rfl, WO.of (sl1 i (by omega) _) ⟨rfl, rfl⟩⟩⟩))
    · refine WO.of (ne_Sd _ _ _) ⟨false, ?_, fun h => (by cases h), fun _ => wb_nil (wb_nil ⟨_, rfl, hm2⟩)⟩
      rw [idle_at r one (s0 r) i w hw hp]
      simp
  · exact ⟨false, rfl, fun h => (by cases h), fun _ => wb_nil (wb_nil ⟨_, rfl, hm2⟩)⟩
theorem zip_len : ∀ (xs ys : List D), (zipD xs ys).length ≤ xs.length
  | [], _ => Nat.le_refl _
  | x :: xs, [] => Nat.zero_le _
  | x :: xs, y :: ys => by
    have := zip_len xs ys
    simp only [zipD, List.length_cons]
    omega
theorem zip_mem : ∀ (evs : List Ev) (ws : List Tx) (x : D), x ∈ zipD (evs.map Ev.d) (ws.map .str) → ∃ (e : Ev) (w : Tx), x = .tup [e.d, .str w]
  | [], _, _, h => by cases h
  | e :: evs, [], _, h => by cases h
  | e :: evs, w :: ws, x, h => by
    rcases List.mem_cons.mp h with rfl | h
    · exact ⟨e, w, rfl⟩
    · exact zip_mem evs ws x h
theorem wi_zipM {cf : Nat → List D → Mm → Option FR} {sl : Sl} {mm : Mm} {a b : E} {QI : List D → Mm → Prop} (w : WO (semE gv cf a sl mm) fun d m => ∃ xs, d = .tup xs ∧ WO (semE gv cf b sl m) fun d2 m2 => ∃ j ys, d2 = .m j ∧ m2[j]? = some (.mu (.lst ys)) ∧ QI (zipD xs ys) (m2.set j (.fz (.lst ys)))) : WI (semI gv cf (.zip a b) sl mm) QI := by
  obtain ⟨_, m, e1, xs, rfl, _, m2, e2, j, ys, rfl, hj, q⟩ := w
  refine ⟨_, _, ?_, q⟩
  have f1 : bindE (some (.ok (.m j) m2)) frzS = some (.ok (.lst ys) (m2.set j (.fz (.lst ys)))) := by
    simp only [bindE, okE, frzS, hj, isObj, Bool.false_eq_true, if_false]
  have f0 : bindE (some (.ok (.tup xs) m)) frzS = some (.ok (.tup xs) m) := rfl
  simp only [semI]
  rw [e1, f0]
  show (match bindE (semE gv cf b sl m) frzS with | some (.ok e mm2) => _ | some (.ex x mm1) => _ | none => none) = _
  rw [e2, f1]
theorem hgts_strs : ∀ ws : List Tx, hgts (ws.map .str) = 0
  | [] => rfl
  | w :: ws => by
    show max 0 (hgts (ws.map .str)) = 0
    rw [hgts_strs ws]; rfl
theorem hgt_strs (ws : List Tx) : hgt (.lst (ws.map .str)) ≤ 64 := by
  show hgts (ws.map .str) + 1 ≤ 64
  rw [hgts_strs]; decide
def fB : D → Bool
  | .tup [_, .str w] => busy w
  | _ => false
def gE : D → D
  | .tup [x, _] => x
  | d => d
def fI : D → Bool
  | .str w => idle w
  | _ => false
theorem row_turn (n : Nat) {r : Ru} {kS kP : Nat} {x0 x1 x3 x5 x6 x7 x8 x9 x10 x11 x12 : Option D} {mm : Mm} (hm : Pm mm kS kP r) :
    WS (semB sub gv (callF sub T gv (n + 5)) rowsB [x0, x1, some (.m kS), x3, some (.m kP), x5, x6, x7, x8, x9, x10, x11, x12, none, none] mm) fun y => ∃ y6 y9 y10 y11 y12 m', y = .nx [x0, x1, some (.m kS), x3, some (.m kP), x5, y6, x7, x8, y9, y10, y11, y12, none, none] m' ∧ Pm m' kS kP r := by
  obtain ⟨c, hc, hsc⟩ := hm.s
  refine wb_cons (ws_par (we_call (wl_cons (we_var rfl (wl_cons (we_cst (wl_nil ?_)))))))
  refine wc_dr2 (row_dr (n + 2) 25 (by omega)) hc hsc rfl ?_
  rintro _ c1 ⟨one, h1, rfl⟩ hp1 hc1
  refine we_call (wl_cons (we_var rfl (wl_cons (we_cst (wl_nil ?_)))))
  refine wc_dr2 (row_dr (n + 2) 25 (by omega)) (has_set hc) hc1 rfl ?_
  rintro _ c2 ⟨oth, h2, rfl⟩ hp2 hc2
  have hm1 : Pm ((mm.set kS (.mu c1)).set kS (.mu c2)) kS kP r := (hm.setS hc1).setS hc2
  generalize (mm.set kS (.mu c1)).set kS (.mu c2) = m1 at hm1
  have hlen : (one ++ oth).length ≤ 60 := by rw [List.length_append]; omega
  have add : ∀ {sl : Sl} (m : Mm), sl[11]? = some (some (rowD one)) → sl[12]? = some (some (rowD oth)) → WO (semE gv (callF sub T gv (n + 5)) (.bin .add (.var 11) (.var 12)) sl m) fun d m' => d = rowD (one ++ oth) ∧ m' = m := by
    intro sl m e1 e2
    refine we_bin (we_var e1 (we_var e2 (wo_addT (by rw [List.length_map, List.length_map]; omega) ⟨?_, rfl⟩)))
    rw [← List.map_append]
  refine wb_cons (ws_asg (we_pcall n rfl hm1.p hlen (add m1 rfl rfl) ?_))
  have hj : (m1 ++ [M.mu (.lst ((toldM r (one ++ oth)).map .str))])[m1.length]? = some (.mu (.lst ((toldM r (one ++ oth)).map .str))) := by simp
  have hjS : m1.length ≠ kS := by
    obtain ⟨c, hc, _⟩ := hm1.s
    have := lt_of hc; omega
  have hjP : m1.length ≠ kP := by have := lt_of hm1.p; omega
  have hm2 := hm1.app [.mu (.lst ((toldM r (one ++ oth)).map .str))]
  generalize m1 ++ [M.mu (.lst ((toldM r (one ++ oth)).map .str))] = m2 at hj hm2
  generalize m1.length = j at hj hjS hjP
  have hrd := rd_m hj
  have ta : toldM r (one ++ oth) = toldM r one ++ (runM r (runM r (s0 r) one).1 oth).2 := by
    show (runM r (s0 r) (one ++ oth)).2 = _
    rw [runM_app]
  have tl : (toldM r (one ++ oth)).length = one.length + oth.length := by rw [runM_len, List.length_append]
  have tk : ((toldM r (one ++ oth)).map D.str).take one.length = (toldM r one).map .str := by
    rw [ta, List.map_append]
    have : one.length = ((toldM r one).map D.str).length := by rw [List.length_map, runM_len]
    rw [this, List.take_left]
  refine wb_cons (ws_if0 (we_or0 (we_bin (we_slc (we_var rfl (we_no ⟨none, rfl, we_un (we_var rfl (wo_lenT ⟨some _, rfl, WO.of (d := .lst ((toldM r one).map .str)) (mm := m2) ?_ (we_pcall n rfl hm2.p (by omega) (we_var rfl ⟨rfl, rfl⟩) (wo_ne0 (v := .lst ((toldM r one).map .str)) rfl (rd_m (c := .mu (.lst ((toldM r one).map .str))) (by simp)) (hgt_strs _) ⟨rfl, ?_⟩))⟩))⟩))))))
  · unfold slcS
    rw [hrd]
    show okE (.lst (cutD ((toldM r (one ++ oth)).map .str) none (some ((one.map Ev.d).length : Int)))) m2 = _
    rw [cut_pre _ (by rw [List.length_map, List.length_map, tl]; omega), List.length_map, tk]
  have hj3 := app_at hj [.mu (.lst ((toldM r one).map .str))]
  have hm3 := hm2.app [.mu (.lst ((toldM r one).map .str))]
  generalize m2 ++ [M.mu (.lst ((toldM r one).map .str))] = m3 at hj3 hm3
  refine we_bin (we_un (we_var rfl (wo_lenL (rd_m hj3) (we_bin (we_un (we_var rfl (wo_lenT (we_un (we_var rfl (wo_lenT (wo_addI (wo_neI ⟨?_, wb_nil ?_⟩))))))))))))
  · rw [List.length_map, List.length_map, List.length_map, tl]
    simp
  refine wb_cons (ws_asg (we_un (we_lc fB gE (wi_zipM ((add m3 rfl rfl).mono ?_)))))
  rintro _ m3 ⟨rfl, rfl⟩
  refine ⟨_, rfl, we_var rfl ⟨j, _, rfl, hj3, Nat.le_trans (zip_len _ _) (by rw [List.length_map]; omega), fun x hx => ?_, ?_⟩⟩
  · obtain ⟨e, w, rfl⟩ := zip_mem _ _ _ hx
    exact ⟨_, rfl, we_bin (we_var rfl (we_tup (wl_cons (we_cst (wl_cons (we_cst (wl_nil (busy_mem ⟨rfl, rfl⟩)))))))), fun _ => ⟨we_var rfl ⟨rfl, rfl⟩, by show pureD e.d = true; simp [Ev.d]⟩⟩
  rw [kept_zip r fB (fun _ _ => rfl) gE (fun _ _ => rfl)]
  have hm4 := hm3.setO (.fz (.lst ((toldM r (one ++ oth)).map .str))) hjS hjP
  have hk : (keptM r (s0 r) (one ++ oth)).length ≤ 60 := Nat.le_trans (kept_len r _ _) hlen
  obtain ⟨k1, k2⟩ := kept_run r (one ++ oth) (s0 r)
  generalize keptM r (s0 r) (one ++ oth) = kept at hk k1 k2
  generalize m3.set j (.fz (.lst ((toldM r (one ++ oth)).map .str))) = m4 at hm4
  refine WO.of (d := rowD kept) (mm := m4) rfl ?_
  refine wb_cons (ws_if0 (we_bin (we_pshr n rfl hm4.p hk (we_var rfl ⟨rfl, rfl⟩) (we_pshr n rfl hm4.p hlen (add m4 rfl rfl) (WO.of (ne_Sd _ _ _) ⟨?_, wb_nil ?_⟩)))))
  · rw [k1]; simp
  have hj5 : (m4 ++ [M.mu (.lst ((toldM r kept).map .str))])[m4.length]? = some (.mu (.lst ((toldM r kept).map .str))) := by simp
  have hjS5 : m4.length ≠ kS := by
    obtain ⟨c, hc, _⟩ := hm4.s
    have := lt_of hc; omega
  have hjP5 : m4.length ≠ kP := by have := lt_of hm4.p; omega
  have hm5 := (hm4.app [.mu (.lst ((toldM r kept).map .str))]).setO (.fz (.lst ((toldM r kept).map .str))) hjS5 hjP5
  refine wb_cons (ws_if0 (we_bin (we_lc fI id (wi_m (we_pcall n rfl hm4.p hk (we_var rfl ⟨rfl, rfl⟩) ⟨_, _, rfl, hj5, by rw [List.length_map, runM_len]; omega, fun x hx => ?_, ?_⟩)))))
  · obtain ⟨w, _, rfl⟩ := List.mem_map.mp hx
    exact ⟨_, rfl, we_bin (we_var rfl (we_tup (wl_cons (we_cst (wl_cons (we_cst (wl_nil (idle_mem ⟨rfl, rfl⟩)))))))), fun _ => ⟨we_var rfl ⟨rfl, rfl⟩, rfl⟩⟩
  rw [filter_none (fun x hx => by
    obtain ⟨w, hw, rfl⟩ := List.mem_map.mp hx
    exact k2 w hw)]
  generalize (m4 ++ [M.mu (.lst ((toldM r kept).map .str))]).set m4.length (.fz (.lst ((toldM r kept).map .str))) = m5 at hm5
  refine we_lst (wl_nil ⟨rfl, wo_ne0 (v := .lst []) rfl rfl (by decide) ⟨rfl, wb_nil ?_⟩⟩)
  refine wb_cons (ws_for (wi_rng (we_un (we_var rfl (wo_lenT ⟨(one.map Ev.d).length, rfl, by rw [List.length_map]; omega, ?_⟩)))))
  refine wf_mem (fun sl m => (∃ y6, sl = [x0, x1, some (.m kS), x3, some (.m kP), x5, y6, x7, x8, some (.m j), some (rowD kept), some (rowD one), some (rowD oth), none, none]) ∧ Pm m kS kP r) _ _ _ ⟨⟨x6, rfl⟩, hm5⟩ ?_ ?_
  · rintro x hx sl m ⟨⟨y6, rfl⟩, hm⟩
    obtain ⟨i, hi, rfl⟩ := List.mem_map.mp hx
    have hi := List.mem_range.mp hi
    rw [List.length_map] at hi
    obtain ⟨y, e, m', rfl, hm'⟩ := at_turn n (one := one) (by omega) hi (x0 := x0) (x1 := x1) (x2 := some (.m kS)) (x3 := x3) (x5 := x5) (x7 := x7) (x8 := x8) (x9 := some (.m j)) (x10 := some (rowD kept)) (x12 := some (rowD oth)) (x13 := none) (x14 := none) hm
    exact ⟨_, rfl, _, e, ⟨_, rfl⟩, hm'⟩
  · rintro sl m ⟨⟨y6, rfl⟩, hm⟩
    exact wb_nil ⟨_, _, _, _, _, _, rfl, hm⟩
/-! ### another part, and back -/
theorem part_case (r : Ru) (g : Good r) (j : Nat) (hj : j < 4) : ∃ (nm : Tx) (V : List D) (v0 : D), ([.str [108, 111, 111, 107, 115], .str [109, 111, 118, 101, 100], .str [97, 108, 105, 101, 110], .str [98, 97, 99, 107]] : List D)[j]? = some (.str nm) ∧ valsA[5 + j]? = some V ∧ (rvs r)[5 + j]? = some v0 ∧ pureD v0 = true ∧
    (pureDs V = true ∧ 0 < V.length ∧ V.length < 1073741824) ∧ (∀ n, callF sub T gv (n + 1) 58 [.str nm] [] = some (.rt .non [] [])) ∧
    ∀ v ∈ V, ∃ r', Good r' ∧ (∀ n, callF sub T gv (n + 1) 8 [r.d, .str nm, v] [] = some (.rt r'.d [] [])) ∧ ∀ n, callF sub T gv (n + 1) 8 [r'.d, .str nm, v0] [] = some (.rt r.d [] []) := by
  have h : j = 0 ∨ j = 1 ∨ j = 2 ∨ j = 3 := by omega
  rcases h with rfl | rfl | rfl | rfl
  · refine ⟨_, _, _, rfl, rfl, rfl, rfl, ⟨rfl, by decide, by decide⟩, fun _ => rfl, fun v hv => ?_⟩
    obtain ⟨b, rfl, hb⟩ : ∃ b, v = .str b ∧ (b = tEither ∨ b = tFirst ∨ b = tThing) := by
      simp only [List.mem_cons, List.not_mem_nil, or_false] at hv
      rcases hv with rfl | rfl | rfl <;> exact ⟨_, rfl, by simp⟩
    exact ⟨{ r with l := b }, { c1 := g.c1, c2 := g.c2, b := g.b, p := g.p, o1 := g.o1, o2 := g.o2, k1 := g.k1, k2 := g.k2, l := hb, m := g.m, ck := g.ck }, fun _ => rfl, fun _ => rfl⟩
  · refine ⟨_, _, _, rfl, rfl, rfl, rfl, ⟨rfl, by decide, by decide⟩, fun _ => rfl, fun v hv => ?_⟩
    obtain ⟨b, rfl, hb⟩ : ∃ b, v = .str b ∧ (b = tEnds ∨ b = tStays) := by
      simp only [List.mem_cons, List.not_mem_nil, or_false] at hv
      rcases hv with rfl | rfl <;> exact ⟨_, rfl, by simp⟩
    exact ⟨{ r with m := b }, { c1 := g.c1, c2 := g.c2, b := g.b, p := g.p, o1 := g.o1, o2 := g.o2, k1 := g.k1, k2 := g.k2, l := g.l, m := hb, ck := g.ck }, fun _ => rfl, fun _ => rfl⟩
  · refine ⟨_, _, _, rfl, rfl, rfl, rfl, ⟨rfl, by decide, by decide⟩, fun _ => rfl, fun v hv => ?_⟩
    obtain ⟨b, rfl⟩ : ∃ b, v = .bl b := by
      simp only [List.mem_cons, List.not_mem_nil, or_false] at hv
      rcases hv with rfl | rfl <;> exact ⟨_, rfl⟩
    exact ⟨{ r with a := b }, { c1 := g.c1, c2 := g.c2, b := g.b, p := g.p, o1 := g.o1, o2 := g.o2, k1 := g.k1, k2 := g.k2, l := g.l, m := g.m, ck := g.ck }, fun _ => rfl, fun _ => rfl⟩
  · refine ⟨_, _, _, rfl, rfl, rfl, rfl, ⟨rfl, by decide, by decide⟩, fun _ => rfl, fun v hv => ?_⟩
    obtain ⟨b, rfl⟩ : ∃ b, v = .bl b := by
      simp only [List.mem_cons, List.not_mem_nil, or_false] at hv
      rcases hv with rfl | rfl <;> exact ⟨_, rfl⟩
    exact ⟨{ r with r := b }, { c1 := g.c1, c2 := g.c2, b := g.b, p := g.p, o1 := g.o1, o2 := g.o2, k1 := g.k1, k2 := g.k2, l := g.l, m := g.m, ck := g.ck }, fun _ => rfl, fun _ => rfl⟩
theorem wo_noEx {x : Option RE} {Q : D → Mm → Prop} (w : WO x Q) : WO (noEx x) Q := by
  obtain ⟨d, m, rfl, q⟩ := w
  exact ⟨d, m, rfl, q⟩
theorem wc_ii {g : List D → Mm → Option FR} {mm : Mm} {Q : D → Mm → Prop} {a b : Nat} {c1 c2 v : D} (ha : mm[a]? = some (.mu c1)) (hb : mm[b]? = some (.mu c2)) (ne : a ≠ b) (h : g [.m 0, .m 1] [.mu c1, .mu c2] = some (.rt v [.mu c1, .mu c2] [])) (hv : pureD v = true) (q : Q v mm) : WO (callS g [.m a, .m b] mm) Q := by
  refine WO.of (d := v) (mm := mm) ?_ q
  have a1 : lentOf [.m a, .m b] = [a, b] := rfl
  have a2 : argsOf 0 [.m a, .m b] = [.m 0, .m 1] := rfl
  have a3 : [D.m a, D.m b].all okArg = true := rfl
  have hb2 : backD [a, b] mm.length v = some v := by unfold backD; rw [hv]
  have hs : (mm.set a (.mu c1)).set b (.mu c2) = mm := by rw [set_same ha, set_same hb]
  simp [callS, a1, a2, a3, takeMu, ha, hb, ne, h, putMu, hb2, hs, okE]
section
variable {sl : Sl} {mm : Mm} {Q : D → Mm → Prop}
/-- two policies compared -/
theorem wo_peq (n : Nat) {a b : Nat} {r r' : Ru} (ha : mm[a]? = some (.mu (pol r))) (hb : mm[b]? = some (.mu (pol r'))) (ne : a ≠ b) (q : Q (.bl (eqD r.d r'.d)) mm) : WO (opS (callF sub T gv (n + 1) 212) .eq 50 (.m a) [.m b] mm) Q := by
  obtain ⟨d, m, e, hq⟩ := wc_ii (Q := fun d m => d = .bl (eqD r.d r'.d) ∧ m = mm) ha hb ne (eq_ok n r r') rfl ⟨rfl, rfl⟩
  obtain ⟨rfl, rfl⟩ := hq
  refine WO.of ?_ q
  have hb2 : eqArg 50 m (.m b) = true := isI hb
  show (if isInst 50 m (.m a) && eqArg 50 m (.m b) then (match callS _ [.m a, .m b] m with | some (.ok (.bl b) mm1) => okE (.bl b) mm1 | _ => none) else none) = _
  rw [isI ha, hb2, Bool.true_and, if_pos rfl, e]
/-- Policy.of -/
theorem wo_of (n : Nat) {r : Ru} (g : Good r) (q : Q (.m mm.length) (mm ++ [.mu (pol r)])) : WO (opS (callF sub T gv (n + 7) 201) .clsm 50 .non [.str (textM r)] mm) Q := by
  show WO (noEx (callS (callF sub T gv (n + 7) 201) [.obj 50 [], .str (textM r)] mm)) Q
  exact wo_noEx (wc_new (of_ok n r g) rfl q)
theorem wo_str (n : Nat) {r : Ru} (g : Good r) {k : Nat} (hk : mm[k]? = some (.mu (pol r))) (q : Q (.str (textM r)) mm) : WO (opS (callF sub T gv (n + 3) 211) .strO 50 (.m k) [] mm) Q := by
  obtain ⟨d, m, e, hq⟩ := wc_iv (g := callF sub T gv (n + 3) 211) (ds := []) (Q := fun d m => d = .str (textM r) ∧ m = mm) hk rfl (str_ok n r g) rfl ⟨rfl, rfl⟩
  obtain ⟨rfl, rfl⟩ := hq
  refine WO.of ?_ q
  show (if isInst 50 m (.m k) then (match callS _ [.m k] m with | some (.ok (.str s) mm1) => okE (.str s) mm1 | _ => none) else none) = _
  rw [isI hk, if_pos rfl, e]
theorem wo_prop (n : Nat) {r : Ru} {k : Nat} (hk : mm[k]? = some (.mu (pol r))) (q : Q r.d mm) : WO (opS (callF sub T gv (n + 1) 202) .prop 50 (.m k) [] mm) Q := by
  show WO (noEx (callS (callF sub T gv (n + 1) 202) [.m k] mm)) Q
  exact wo_noEx (wc_iv (ds := []) hk rfl (prop_ok n r) (by simp) q)
end
theorem eq_self (r : Ru) : eqD r.d r.d = true := eqD_self _ (by simp [hgt, hgts])
theorem law_ok (n : Nat) (ns : List Int) (h : ns.length ≤ 63) : ∃ new, callF sub T gv (n + 8) 1999 [.lst (ns.map .int)] [] = some (.rt (.bl true) [] new) := by
  refine ⟨[], callF_of T1999 rfl ?_⟩
  refine wb_cons (ws_for (wi_cells h rfl fun cs => ?_))
  refine wf_mem (fun sl _ => ∃ y1 y2 y3 y4 y5 y6 y7 y8 y9 y10 y11 y12, sl = [some (.lst (ns.map .int)), y1, y2, y3, y4, y5, y6, y7, y8, y9, y10, y11, y12, none, none]) _ _ _ ⟨none, none, none, none, none, none, none, none, none, none, none, none, rfl⟩ ?_ ?_
  · rintro x hx sl m ⟨y1, y2, y3, y4, y5, y6, y7, y8, y9, y10, y11, y12, rfl⟩
    obtain ⟨c, _, rfl⟩ := List.mem_map.mp hx
    refine ⟨_, rfl, ?_⟩
    obtain ⟨o, ho, hs⟩ := sack_new (n + 6) c 75
    refine wb_cons (ws_asg (we_call (wl_cons (we_var rfl (wl_cons (we_cst (wl_nil (wc_new hs rfl ?_))))))))
    have hk0 : (m ++ [M.mu o])[m.length]? = some (.mu o) := by simp
    generalize m ++ [M.mu o] = m1 at hk0
    generalize m.length = kS at hk0
    refine wb_cons (ws_asg (we_call (wl_cons (we_var rfl (wl_nil ?_)))))
    refine wc_dr1 (rule_dr (n + 4)) hk0 ho ?_
    rintro _ c1 ⟨r, g, rfl⟩ _ hc1
    have hk1 := has_set (c' := c1) hk0
    generalize m1.set kS (.mu c1) = m2 at hk1
    refine wb_cons (ws_asg (we_opc (we_cst ⟨rfl, wl_cons (we_call (wl_cons (we_var rfl (wl_nil (wc_pure (lawline_ok (n + 6) r g) (by simp) rfl (wl_nil (wo_of n g ?_)))))))⟩)))
    have hp0 : Pm (m2 ++ [M.mu (pol r)]) kS m2.length r := ⟨⟨c1, app_at hk1 _, hc1⟩, by simp, by have := lt_of hk1; omega⟩
    generalize m2 ++ [M.mu (pol r)] = m3 at hp0
    generalize m2.length = kP at hp0
    refine wb_cons (ws_for (wi_rng (we_cst ⟨5, rfl, by decide, ?_⟩)))
    refine wf_mem (fun sl m' => (∃ y5 y6 y9 y10 y11 y12, sl = [some (.lst (ns.map .int)), some (.int c), some (.m kS), some r.d, some (.m kP), y5, y6, y7, y8, y9, y10, y11, y12, none, none]) ∧ Pm m' kS kP r) _ _ _ ⟨⟨y5, y6, y9, y10, y11, y12, rfl⟩, hp0⟩ ?_ ?_
    · rintro x hx sl m' ⟨⟨y5, y6, y9, y10, y11, y12, rfl⟩, hm⟩
      obtain ⟨i, _, rfl⟩ := List.mem_map.mp hx
      obtain ⟨y, e, z6, z9, z10, z11, z12, m4, rfl, hm4⟩ := row_turn (n + 2) (x0 := some (.lst (ns.map .int))) (x1 := some (.int c)) (x3 := some r.d) (x5 := some (.int (i : Int))) (x6 := y6) (x7 := y7) (x8 := y8) (x9 := y9) (x10 := y10) (x11 := y11) (x12 := y12) hm
      exact ⟨_, rfl, _, e, ⟨_, _, _, _, _, _, rfl⟩, hm4⟩
    · rintro sl m' ⟨⟨y5, y6, y9, y10, y11, y12, rfl⟩, hm⟩
      obtain ⟨c3, hc3, hs3⟩ := hm.s
      refine wb_cons (ws_asg (we_bin (we_cst (we_call (wl_cons (we_var rfl (wl_cons (we_cst (wl_nil ?_)))))))))
      refine wc_dr2 (grab_dr (n + 6) 4 (by omega) (by omega)) hc3 hs3 rfl ?_
      rintro _ c4 ⟨j, rfl, hj⟩ _ hc4
      have hm4 := hm.setS hc4
      generalize m'.set kS (.mu c4) = m4 at hm4
      obtain ⟨nm, V, v0, e1, e2, e3, p0, ⟨pV, l1, l2⟩, h58, hw⟩ := part_case r g j (by omega)
      have ej : (5 : Int) + (j : Int) = ((5 + j : Nat) : Int) := by omega
      refine wo_addI ?_
      rw [ej]
      have es : ((5 + j : Nat) : Int) - 5 = (j : Int) := by omega
      refine wb_cons (ws_asg (we_bin (we_lst (wl_cons (we_cst (wl_cons (we_cst (wl_cons (we_cst (wl_cons (we_cst (wl_nil ⟨rfl, we_bin (we_var rfl (we_cst (wo_subI ?_)))⟩))))))))))))
      rw [es]
      refine wo_ixL rfl e1 ?_
      refine wb_cons (ws_asg (we_opc (we_var rfl ⟨recv_ok hm4.p, wl_cons (we_var rfl (wl_cons (we_call (wl_cons (we_var rfl (wl_cons (we_bin (we_call0 ?_))))))))⟩)))
      refine wc_pure (values_ok (n + 6)) rfl rfl (we_var rfl ?_)
      refine wo_ixL (xs := valsA.map .lst) rfl (show (valsA.map D.lst)[5 + j]? = some (.lst V) by rw [List.getElem?_map, e2]; rfl) (wl_nil ?_)
      obtain ⟨c5, hc5, hs5⟩ := hm4.s
      refine wc_dr2 (one_dr (n + 5) V pV l1 l2) hc5 hs5 (by rw [pu_lst]; exact pV) ?_
      rintro v c6 hv hpv hc6
      have hm5 := hm4.setS hc6
      generalize m4.set kS (.mu c6) = m5 at hm5
      obtain ⟨r', g', w1, w2⟩ := hw v hv
      refine wl_nil ?_
      show WO (callS (callF sub T gv (n + 7) 204) [.m kP, .str nm, v] m5) _
      refine wc_in hm5.p (by rw [pu_cons, pu_cons, hpv]; rfl) (having_ok n r r' g' hpv (h58 _) (w1 _)) ?_
      have hm6 := hm5.app [.mu (pol r')]
      have hT : (m5 ++ [M.mu (pol r')])[m5.length]? = some (.mu (pol r')) := by simp
      have nT : m5.length ≠ kP := by have := lt_of hm5.p; omega
      generalize m5 ++ [M.mu (pol r')] = m6 at hm6 hT
      generalize m5.length = kT at hT nT
      refine wb_cons (ws_if0 (we_or0 (we_not (we_op2 ?_))))
      refine we_opc (we_var rfl ⟨recv_ok hT, wl_cons (we_var rfl (wl_cons (we_bin (we_var rfl (we_var rfl ?_)))))⟩)
      refine wo_ixT (xs := rvs r) rfl e3 (wl_nil ?_)
      show WO (callS (callF sub T gv (n + 7) 204) [.m kT, .str nm, v0] m6) _
      refine wc_in hT (by rw [pu_cons, pu_cons, p0]; rfl) (having_ok n r' r g p0 (h58 _) (w2 _)) ?_
      have hB : (m6 ++ [M.mu (pol r)])[m6.length]? = some (.mu (pol r)) := by simp
      have nB : m6.length ≠ kP := by have := lt_of hm6.p; omega
      have hm7 := hm6.app [.mu (pol r)]
      have hT7 := app_at hT [.mu (pol r)]
      generalize m6 ++ [M.mu (pol r)] = m7 at hB hm7 hT7
      generalize m6.length = kB at hB nB
      refine ⟨recv_ok hB, we_var rfl (wo_peq (n + 6) hB hm7.p nB ?_)⟩
      rw [eq_self]
      refine ⟨true, rfl, rfl, we_bin (we_opc (we_var rfl ⟨recv_ok hm7.p, wl_nil (wo_prop (n + 6) hm7.p (we_var rfl (wo_ne0 (v := r.d) rfl rfl (by simp [hgt, hgts]) ⟨rfl, wb_nil ?_⟩)))⟩))⟩
      refine wb_cons (ws_if0 (we_not (we_op2 ?_)))
      refine we_opc (we_cst ⟨rfl, wl_cons (we_opc (we_var rfl ⟨recv_ok hT7, wl_nil (wo_str (n + 4) g' hT7 (wl_nil (wo_of n g' ?_)))⟩))⟩)
      have hU : (m7 ++ [M.mu (pol r')])[m7.length]? = some (.mu (pol r')) := by simp
      have hT8 := app_at hT7 [.mu (pol r')]
      have nU : m7.length ≠ kT := by have := lt_of hT7; omega
      refine ⟨recv_ok hU, we_var rfl (wo_peq (n + 6) hU hT8 nU ?_)⟩
      rw [eq_self]
      exact ⟨true, rfl, rfl, wb_nil (wb_nil ⟨_, _, _, _, _, _, _, _, _, _, _, _, rfl⟩)⟩
  · rintro sl m ⟨y1, y2, y3, y4, y5, y6, y7, y8, y9, y10, y11, y12, rfl⟩
    exact wb_cons (ws_ret (we_cst rfl))
end Mp
open PySem PySem.W
open PySem.Calls PyProof.Rows
namespace Mp
open PySem PySem.Spec
open PyProof.Rows L2
theorem law_facts {P : Program} {w : World} {K : PySem.W.Frag} {h : Heap} {mg : Str → Option Value} {f : Addr} (X : K.In h) (G : h.Ns mainGlobals mg) (hfa : mg ("law" : Str) = some (.ref f)) (c : SaysY md.fn [] md.ex h K) (n : Nat)
    (hp : ∀ ns : List Int, ns.length ≤ 63 → ∃ new, callF sub T gv (n + 1) 1999 [.lst (ns.map .int)] [] = some (.rt (.bl true) [] new)) :
    ∃ (fd : FuncData) (sp : Sp), (∀ (s : Shared) (v : Value), BindsTo s fd ⟨[v], []⟩ [(("_law_script" : Str), v)]) ∧
      (∀ (H : Hp) (a : Addr) (ns : List Int), ns.length ≤ 63 → Only H → SqL K H a (ns.map V.int) → sp [.ref a] H (fun v _ => v = .bl true) fun _ _ _ => False) ∧
      ∀ base : Heap, K.In base → base.Ns mainGlobals mg → FnOk P w K mg base (L2.CX P w) (lv (n + 1)) f fd ["_law_script"] sp := by
  have S := stat (M := md) (P := P) (w := w) X G c chk binds nodfl kball xbinds xnames subs
  have F := exF_of c.more
  have hm9 : 1999 ∈ md.ids := by decide +kernel
  obtain ⟨fd, FD⟩ := c.def_ (d := md.defa 1999) (List.mem_append_left _ (List.mem_map_of_mem hm9))
  have FD : FunD K "law" "law" d_l_law.args d_l_law.body d_l_law.scope [] [] (He.ga K "law") fd := FD
  have b := FunD.bindsA (ps := ["_law_script"]) FD fun _ _ _ _ _ _ us hl => match us, hl with | [_], _ => rfl
  have e1 : f = He.ga K "law" := by
    have hm : mg ("law" : Str) = some (.ref (He.ga K "law")) := He.glo_ok X G (F.wh 1999 hm9)
    rw [hfa] at hm
    cases hm; rfl
  subst e1
  refine ⟨fd, spF (md.pg (md.kx P w K) mg) (n + 1) 1999, fun s v => b s [v] rfl, fun H a ns hl _ hS => law_sp (p := md.pg (md.kx P w K) mg) F.nl (show (md.T 1999).np = 1 by decide +kernel) hS (hp ns hl), fun base _ _ => ?_⟩
  exact fn_step (p := md.pg (md.kx P w K) mg) (f := 1999) (d := d_l_law) rfl S (fns_ok rfl S n) FD c_l_law
end Mp
theorem PySem.Challenge.cw_coveranew_k13_whole_policies_and_rows_holds : PySem.Challenge.rw_coveranew_k13_whole_policies_and_rows.Holds := by
  have hp := Mp.law_ok 4
  w_on; o_law
  refine HandSHeadRun.head_any (r := OpenLaw.row PySem.Challenge.rw_coveranew_k13_whole_policies_and_rows) (q := view (OpenLaw.row PySem.Challenge.rw_coveranew_k13_whole_policies_and_rows).prog [50]) (H := Mp.hk) (ob := Mp.ob) (M := 20000) (loose := Mp.loose) (d := HandSHeadRun.topDef (OpenLaw.row PySem.Challenge.rw_coveranew_k13_whole_policies_and_rows).prog 50) (kwd := []) Mp.ob_eq
    (by kernel_rfl) (fun s => by kernel_rfl) Mp.run (by kernel_rfl) (by kernel_rfl) (by kernel_rfl) (by rfl) (by first | assumption | decide +kernel) (by decide +kernel) ⟨rfl, rfl, rfl, rfl, rfl, by decide +kernel⟩ ?hw ?hc
  case hw => w_witness2
  case hc =>
    refine Mp.walk_own (l := PySem.Challenge.rw_coveranew_k13_whole_policies_and_rows) (m := 63) (k := Mp.lv 12) (x := "_law_script") (CX := fun w => L2.CX (PySem.Challenge.rw_coveranew_k13_whole_policies_and_rows).prog w) rfl (by decide) (by kernel_rfl) ⟨rfl, by decide, by decide⟩ ?F (fun _ _ _ _ _ z => ?_)
    · intro w mg fa h Y G hmg0
      obtain ⟨K, KX, c⟩ := Y
      have hmg : mg ("law" : PySem.Str) = some (.ref fa) := by
        have e : (HandSHeadRun.topDef (OpenLaw.row PySem.Challenge.rw_coveranew_k13_whole_policies_and_rows).prog 50).name = ("law" : PySem.Str) := by kernel_rfl
        rw [← e]
        exact hmg0
      obtain ⟨fd, sp, hb, hsp, hF⟩ := Mp.law_facts (P := (PySem.Challenge.rw_coveranew_k13_whole_policies_and_rows).prog) (w := w) KX G hmg c 11 hp
      exact ⟨K, fd, sp, KX, hb, hsp, hF⟩
    · obtain ⟨_, _, _, _, _, _, _, _, _, _, _, _, z⟩ := z
      exact z
