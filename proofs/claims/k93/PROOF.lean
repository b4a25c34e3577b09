import PyProof.Rows.All
import Wide.All
import OpenK.AllK
import Wide.FinOn
import HandS.ForMost
import HandS.Dict
import HandS.More
import KE.KeyNested
import KE.KDictKeyed
import KE.KDictWalk
import HandS.Iter
import HandS.Walk
import KE.SortKeyHeap
import KE.SortData
import KE.DataCmp
import HandS.List
import HandS.DictComp
import HandS.Conv
import KE.GoesNew
import HandS.Codes
import HandS.Words
import HandS.NoneIn
import HandS.Wide
import HandS.Style
import PySem.Challenge.RW_matchclocks_k93_whole_hands_at_several_c
import HandS.TupAny
import HandS.Flow
import HandS.Deep
import HandS.Defaults
import HandS.MakeKwOnly
import HandS.Property
import HandS.ClsMeth
import HandS.IsInst
import HandS.Evl
set_option Elab.async false
set_option maxRecDepth 100000
set_option maxHeartbeats 16000000
set_option linter.all false
/-! dicts whose keys are tuples of tuples: a tracked object of our own -/
namespace My
open PySem PySem.Spec PyProof.Rows L2
abbrev NK := NestedKey
/-! ### keys -/
mutual
/-- v is the key k, all its tuples tracked -/
inductive KeyV (K : PySem.W.Frag) (H : Hp) : NK → V → Prop
  | num (i : Int) : KeyV K H (.num i) (.int i)
  | tup {a : Addr} {xs : List V} {ks : List NK} : SqT K H a xs → KeysV K H ks xs → KeyV K H (.tup ks) (.ref a)
inductive KeysV (K : PySem.W.Frag) (H : Hp) : List NK → List V → Prop
  | nil : KeysV K H [] []
  | cons {k : NK} {v : V} {ks : List NK} {vs : List V} : KeyV K H k v → KeysV K H ks vs → KeysV K H (k :: ks) (v :: vs)
end
section
variable {X : Cx} {pins : List (Addr × Obj)} {σ : L2.St} {H : Hp} {s : Shared}
mutual
theorem KeyV.is (I : Inv X pins σ H s) : ∀ {k : NK} {v : V}, KeyV X.K H k v → ∀ {u : Value}, RelV v u → NestedIs s.heap k u
  | _, _, .num i, u, r => by
    obtain ⟨t, rfl⟩ := (show ∃ t, u = Value.int i t from r)
    exact .int i t
  | _, _, .tup (a := a) hq hk, u, r => by
    obtain rfl : u = Value.ref a := r
    obtain ⟨its, rv, ⟨o, h1, h2, n, h3⟩, _⟩ := I.tuple hq
    exact .tup h1 h2 h3 (by simpa using KeysV.is I hk rv)
theorem KeysV.is (I : Inv X pins σ H s) : ∀ {ks : List NK} {vs : List V}, KeysV X.K H ks vs → ∀ {us : List Value}, Vals vs us → NestedAll s.heap ks us
  | _, _, .nil, _, r => by cases r; exact .nil
  | _, _, .cons h1 h2, _, r => by
    cases r with
    | cons r1 r2 => exact .cons (KeyV.is I h1 r1) (KeysV.is I h2 r2)
end
end
mutual
theorem KeyV.up {K : PySem.W.Frag} {H H' : Hp} (st : ∀ a xs, SqT K H a xs → SqT K H' a xs) : ∀ {k : NK} {v : V}, KeyV K H k v → KeyV K H' k v
  | _, _, .num i => .num i
  | _, _, .tup h1 h2 => .tup (st _ _ h1) (KeysV.up st h2)
theorem KeysV.up {K : PySem.W.Frag} {H H' : Hp} (st : ∀ a xs, SqT K H a xs → SqT K H' a xs) : ∀ {ks : List NK} {vs : List V}, KeysV K H ks vs → KeysV K H' ks vs
  | _, _, .nil => .nil
  | _, _, .cons h1 h2 => .cons (KeyV.up st h1) (KeysV.up st h2)
end
/-! ### the dict -/
abbrev NKs := List (NK × Addr × V)
abbrev NRel : NKs → List (NK × Addr × Value) → Prop := Paired fun p q => p.1 = q.1 ∧ p.2.1 = q.2.1 ∧ RelV p.2.2 q.2.2
def entN (w : World) (x : NK × Addr × Value) : DictEntry := ⟨x.1.hash w, .ref x.2.1, x.2.2⟩
/-- a dict at d with these keys, where their tuples stand, and values -/
def DnO (w : World) (d : Addr) (kvs : NKs) : HO := .ext fun h => kvs.length ≤ sizeLine ∧ (d == sysModules) = false ∧ (∀ x ∈ kvs, x.1.depth ≤ 8) ∧
  ∃ xs, NRel kvs xs ∧ ∃ o es ep, h.get? d = some o ∧ o.ExactDict ∧ o.data = .dict es ep ∧ es.toList = xs.map (entN w) ∧ (xs.map (·.1)).Nodup
theorem dnO_ok {P : Program} {w : World} {H : Hp} {h : Heap} {d : Addr} {kvs : NKs} (z : kvs.length ≤ sizeLine) (hs : (d == sysModules) = false) (hd : ∀ x ∈ kvs, x.1.depth ≤ 8) {xs : List (NK × Addr × Value)} (r : NRel kvs xs)
    {o : Obj} {es : Array DictEntry} {ep : Nat} (e : h.get? d = some o) (x : o.ExactDict) (hda : o.data = .dict es ep) (he : es.toList = xs.map (entN w)) (hn : (xs.map (·.1)).Nodup) : ObjOk P w H h d (DnO w d kvs) :=
  ⟨⟨z, hs, hd, xs, r, o, es, ep, e, x, hda, he, hn⟩, ⟨o, e⟩, fun h1 h2 ⟨z, hs, hd, xs, r, o, es, ep, e, x, q⟩ k => ⟨z, hs, hd, xs, r, o, es, ep, k _ e, x, q⟩⟩
/-- all its keys' tuples are tracked -/
def KeysOk (K : PySem.W.Frag) (H : Hp) (kvs : NKs) : Prop := ∀ x ∈ kvs, KeyV K H x.1 (.ref x.2.1)
theorem NRel.mem {kvs : NKs} {xs : List (NK × Addr × Value)} (r : NRel kvs xs) {x : NK × Addr × Value} (hx : x ∈ xs) : ∃ p ∈ kvs, p.1 = x.1 ∧ p.2.1 = x.2.1 ∧ RelV p.2.2 x.2.2 := by
  induction r with
  | nil => cases hx
  | @cons p q ps qs h t ih =>
    rcases List.mem_cons.mp hx with e | hx
    · subst e
      exact ⟨p, List.mem_cons_self, h⟩
    · obtain ⟨p', h1, h2⟩ := ih hx
      exact ⟨p', List.mem_cons_of_mem _ h1, h2⟩
section
variable {X : Cx} {pins : List (Addr × Obj)} {σ : L2.St} {H : Hp} {s : Shared}
/-- what the model's dict rules ask of it -/
theorem dn_of {d : Addr} {kvs : NKs} (I : Inv X pins σ H s) (e : Rd H d (DnO X.w d kvs)) (hk : KeysOk X.K H kvs) : kvs.length ≤ sizeLine ∧ (d == sysModules) = false ∧ (∀ x ∈ kvs, x.1.depth ≤ 8) ∧ ∃ xs, NRel kvs xs ∧ s.heap.DictOfH (nestedKind X.prog X.w) d xs := by
  obtain ⟨⟨z, hs, hd, xs, r, o, es, ep, e, x, hda, he, hn⟩, _, _⟩ := (show ObjOk X.prog X.w H s.heap d (DnO X.w d kvs) from rd_of I.hok e)
  refine ⟨z, hs, hd, xs, r, o, es, ep, e, x, hda, he, fun y hy => ?_, hn⟩
  obtain ⟨p, hp, e1, e2, _⟩ := r.mem hy
  rw [← e1, ← e2]
  exact ⟨(hk p hp).is I rfl, hd p hp⟩
end
def valN (kvs : NKs) (k : NK) : Option V := (kvs.find? fun x => decide (x.1 = k)).map (·.2.2)
def putN (kvs : NKs) (k : NK) (a : Addr) (v : V) : NKs := if (valN kvs k).isSome then kvs.map (fun x => if x.1 = k then (x.1, x.2.1, v) else x) else kvs ++ [(k, a, v)]
theorem NRel.val {kvs : NKs} {xs : List (NK × Addr × Value)} (r : NRel kvs xs) (k : NK) : RelO (valN kvs k) ((atKey xs k).map (·.2)) := by
  induction r with
  | nil => exact trivial
  | @cons p q ps qs h t ih =>
    unfold valN atKey at ih ⊢
    by_cases e : p.1 = k
    · have e' : q.1 = k := by rw [← h.1]; exact e
      rw [List.find?_cons_of_pos (by simpa using e), List.find?_cons_of_pos (by simpa using e')]
      exact h.2.2
    · have e' : ¬ q.1 = k := by rw [← h.1]; exact e
      rw [List.find?_cons_of_neg (by simpa using e), List.find?_cons_of_neg (by simpa using e')]
      exact ih
theorem NRel.repl {kvs : NKs} {xs : List (NK × Addr × Value)} (r : NRel kvs xs) (k : NK) {v : V} {u : Value} (rv : RelV v u) : NRel (kvs.map fun x => if x.1 = k then (x.1, x.2.1, v) else x) (xs.map (putAt k u)) := by
  induction r with
  | nil => exact .nil
  | @cons p q ps qs h t ih =>
    refine .cons ?_ ih
    unfold putAt
    dsimp only
    by_cases e : p.1 = k
    · have e' : q.1 = k := by rw [← h.1]; exact e
      rw [if_pos e, if_pos e']
      exact ⟨h.1, h.2.1, rv⟩
    · have e' : ¬ q.1 = k := by rw [← h.1]; exact e
      rw [if_neg e, if_neg e']
      exact h
theorem NRel.put {kvs : NKs} {xs : List (NK × Addr × Value)} (r : NRel kvs xs) (k : NK) (a : Addr) {v : V} {u : Value} (rv : RelV v u) : NRel (putN kvs k a v) (storedH xs k a u) := by
  have e : (valN kvs k).isSome = (atKey xs k).isSome := by rw [(r.val k).isSome_eq, Option.isSome_map]
  unfold putN storedH
  rw [e]
  by_cases q : (atKey xs k).isSome = true
  · rw [if_pos q, if_pos q]; exact r.repl k rv
  · rw [if_neg q, if_neg q]; exact Paired.snoc r ⟨rfl, rfl, rv⟩
theorem putN_len (kvs : NKs) (k : NK) (a : Addr) (v : V) : (putN kvs k a v).length ≤ kvs.length + 1 := by
  unfold putN
  split
  · rw [List.length_map]; omega
  · rw [List.length_append]; exact Nat.le_refl _
theorem putN_mem {kvs : NKs} {k : NK} {a : Addr} {v : V} {x : NK × Addr × V} (h : x ∈ putN kvs k a v) : (∃ y ∈ kvs, y.1 = x.1 ∧ y.2.1 = x.2.1) ∨ (x.1 = k ∧ x.2.1 = a) := by
  unfold putN at h
  split at h
  · obtain ⟨y, hy, e⟩ := List.mem_map.mp h
    split at e
    · subst e; exact .inl ⟨y, hy, rfl, rfl⟩
    · subst e; exact .inl ⟨_, hy, rfl, rfl⟩
  · rcases List.mem_append.mp h with h | h
    · exact .inl ⟨x, h, rfl, rfl⟩
    · rw [List.mem_singleton] at h; subst h; exact .inr ⟨rfl, rfl⟩
/-! ### its rules -/
def rInN (K : PySem.W.Frag) (w : World) (no : Bool) : R2 := fun x y H Q => ∃ (d b : Addr) (kvs : NKs) (k : NK), x = .ref b ∧ y = .ref d ∧ Rd H d (DnO w d kvs) ∧ KeysOk K H kvs ∧ KeyV K H k x ∧ k.depth ≤ 8 ∧ Q (.bl (if no = true then !(valN kvs k).isSome else (valN kvs k).isSome)) H
def rIxN (K : PySem.W.Frag) (w : World) : R2 := fun x y H Q => ∃ (d b : Addr) (kvs : NKs) (k : NK) (v : V), x = .ref d ∧ y = .ref b ∧ Rd H d (DnO w d kvs) ∧ KeysOk K H kvs ∧ KeyV K H k y ∧ k.depth ≤ 8 ∧ valN kvs k = some v ∧ Q v H
def tSetN (K : PySem.W.Frag) (w : World) : TSet := fun o i v H Q => ∃ (d b : Addr) (kvs : NKs) (k : NK), o = .ref d ∧ i = .ref b ∧ H d = some (DnO w d kvs) ∧ KeysOk K H kvs ∧ KeyV K H k i ∧ k.depth ≤ 8 ∧ kvs.length < sizeLine ∧ Q (upd H d (DnO w d (putN kvs k b v)))
section
variable {X : Cx} {pins : List (Addr × Obj)} {σ : L2.St} {H : Hp} {s : Shared}
theorem d_inN {d b : Addr} {kvs : NKs} {k : NK} {A : Around} {E : Value → Shared → Prop} {Q : Value → Shared → Prop} (hu : A.units + 16 < cLine) (I : Inv X pins σ H s) (e : Rd H d (DnO X.w d kvs)) (hk : KeysOk X.K H kvs) (kb : KeyV X.K H k (.ref b)) (kd : k.depth ≤ 8)
    (h : ∀ s', Inv X pins σ H s' → Q (.bool (valN kvs k).isSome) s') : wpAny (model X.prog X.w) A (compareOp .In (.ref b) (.ref d)) Q E s := by
  obtain ⟨z, hs, hd, xs, r, dd⟩ := dn_of I e hk
  refine wpAny_in_heap (knd := nestedKind X.prog X.w) (show A.in1.units + 8 < cLine by rw [Around.in1_units]; omega) ⟨kb.is I rfl, kd⟩ hs dd ?_
  have q := (r.val k).isSome_eq
  rw [Option.isSome_map] at q
  rw [← q]
  exact h _ (I.tok _)
theorem d_notInN {d b : Addr} {kvs : NKs} {k : NK} {A : Around} {E : Value → Shared → Prop} {Q : Value → Shared → Prop} (hu : A.units + 16 < cLine) (I : Inv X pins σ H s) (e : Rd H d (DnO X.w d kvs)) (hk : KeysOk X.K H kvs) (kb : KeyV X.K H k (.ref b)) (kd : k.depth ≤ 8)
    (h : ∀ s', Inv X pins σ H s' → Q (.bool (!(valN kvs k).isSome)) s') : wpAny (model X.prog X.w) A (compareOp .NotIn (.ref b) (.ref d)) Q E s := by
  obtain ⟨z, hs, hd, xs, r, dd⟩ := dn_of I e hk
  show wpAny _ _ (do return .bool (!(← contains (.ref d) (.ref b)))) Q E s
  refine wpAny_bind (wpAny_contains_heap (knd := nestedKind X.prog X.w) (show A.in1.units + 8 < cLine by rw [Around.in1_units]; omega) ⟨kb.is I rfl, kd⟩ hs dd (wpAny_pure ?_))
  have q := (r.val k).isSome_eq
  rw [Option.isSome_map] at q
  rw [← q]
  exact h _ (I.tok _)
theorem d_getN {d b : Addr} {kvs : NKs} {k : NK} {v : V} {A : Around} {E : Value → Shared → Prop} {Q : Value → Shared → Prop} (hu : A.units + 16 < cLine) (I : Inv X pins σ H s) (e : Rd H d (DnO X.w d kvs)) (hk : KeysOk X.K H kvs) (kb : KeyV X.K H k (.ref b)) (kd : k.depth ≤ 8)
    (hv : valN kvs k = some v) (h : ∀ w' s', Inv X pins σ H s' → RelV v w' → Q w' s') : wpAny (model X.prog X.w) A (getItem (.ref d) (.ref b)) Q E s := by
  obtain ⟨z, hs, hd, xs, r, dd⟩ := dn_of I e hk
  obtain ⟨w', hw, rw'⟩ := RelO.some_of (v := v) (o := (atKey xs k).map (·.2)) (by rw [← hv]; exact r.val k)
  obtain ⟨p, hp, hp2⟩ := Option.map_eq_some_iff.mp hw
  refine wpAny_getItem_heap (knd := nestedKind X.prog X.w) (show A.in1.units + 8 < cLine by rw [Around.in1_units]; omega) ⟨kb.is I rfl, kd⟩ dd hp ?_
  rw [hp2]
  exact h w' _ (I.tok _) rw'
theorem d_setN {d b : Addr} {kvs : NKs} {k : NK} {v : V} {u : Value} {A : Around} {E : Value → Shared → Prop} {Q : Unit → Shared → Prop} (hu : A.units + 16 < cLine) (I : Inv X pins σ H s) (e : H d = some (DnO X.w d kvs)) (hk : KeysOk X.K H kvs) (kb : KeyV X.K H k (.ref b)) (kd : k.depth ≤ 8)
    (hl : kvs.length < sizeLine) (rv : RelV v u) (h : ∀ s', Inv X pins σ (upd H d (DnO X.w d (putN kvs k b v))) s' → Q () s') : wpAny (model X.prog X.w) A (setItem (.ref d) (.ref b) u) Q E s := by
  obtain ⟨z, hs, hd, xs, r, dd⟩ := dn_of I (.inl e) hk
  have hz : xs.length ≤ sizeLine := by rw [← Paired.length r]; exact z
  refine wpAny_setItem_heap (knd := nestedKind X.prog X.w) (hsz := hz) (show A.in1.units + 8 < cLine by rw [Around.in1_units]; omega) ⟨kb.is I rfl, kd⟩ dd fun h' dd' sb => h _ ?_
  obtain ⟨q, es, ep, hq, h2, h3, h4, _, h5⟩ := dd'
  refine d_write I (by rw [e]; exact True.intro) sb ⟨q, hq⟩ (dnO_ok ?_ hs ?_ (r.put k b rv) hq h2 h3 h4 h5)
  · have := putN_len kvs k b v; omega
  · intro x hx
    rcases putN_mem hx with ⟨y, hy, e1, _⟩ | ⟨e1, _⟩
    · rw [← e1]; exact hd y hy
    · rw [e1]; exact kd
theorem op_inN (hu : X.A.units + 32 < cLine) : OpR X (compareOp .In) (rInN X.K X.w false) := by
  rintro pins s σ H x y v u Q I rx ry ⟨d, b, kvs, k, rfl, rfl, e, hk, kb, kd, q⟩
  obtain rfl : v = Value.ref b := rx
  obtain rfl : u = Value.ref d := ry
  exact d_inN (by omega) I e hk kb kd fun s' I' => ⟨.bl _, H, I', rfl, q⟩
theorem op_notInN (hu : X.A.units + 32 < cLine) : OpR X (compareOp .NotIn) (rInN X.K X.w true) := by
  rintro pins s σ H x y v u Q I rx ry ⟨d, b, kvs, k, rfl, rfl, e, hk, kb, kd, q⟩
  obtain rfl : v = Value.ref b := rx
  obtain rfl : u = Value.ref d := ry
  exact d_notInN (by omega) I e hk kb kd fun s' I' => ⟨.bl _, H, I', rfl, q⟩
theorem set_N (hu : X.A.units + 32 < cLine) : PSet X (tSetN X.K X.w) := by
  rintro pins s σ H o i v ov iv u Q I ro ri rv ⟨d, b, kvs, k, rfl, rfl, e, hk, kb, kd, hl, q⟩
  obtain rfl : ov = Value.ref d := ro
  obtain rfl : iv = Value.ref b := ri
  exact d_setN (by omega) I e hk kb kd hl rv fun s' I' => ⟨_, I', q⟩
/-- {} -/
def tNewN (w : World) : TE := fun _ H Q => ∀ d, H d = none → Q (.ref d) (upd H d (DnO w d []))
theorem pe_newN {pos : Pos} : PE X (.Dict [] [] pos) (tNewN X.w) := ⟨fun pins s σ H Q I h =>
  wpAny_Dict_empty ⟨.ref s.heap.objs.size, _, I.laid (a := s.heap.objs.size) (o := DnO X.w s.heap.objs.size []) (t' := s.toks) (fun _ _ q => Heap.get?_push_of_some _ q) (Nat.le_refl _)
    (dnO_ok (Nat.zero_le _) (beq_eq_false_iff_ne.mpr (Ne.symm (Nat.ne_of_lt I.big))) (fun x hx => nomatch hx) .nil (Heap.get?_push_size _ rfl) ⟨rfl, rfl, rfl⟩ rfl rfl List.nodup_nil), rfl, h _ (I.hok.fresh (Nat.le_refl _))⟩⟩
end
section
variable {X : Cx}
theorem dn_type {pins : List (Addr × Obj)} {σ : L2.St} {H : Hp} {s : Shared} {d : Addr} {kvs : NKs} (I : Inv X pins σ H s) (e : Rd H d (DnO X.w d kvs)) : s.TypeIs (.ref d) "dict" := by
  obtain ⟨⟨_, _, _, xs, r, o, es, ep, e, x, _⟩, _, _⟩ := (show ObjOk X.prog X.w H s.heap d (DnO X.w d kvs) from rd_of I.hok e)
  exact ⟨o, e, x.1⟩
theorem ix_dN (hu : X.A.units + 32 < cLine) : IxR X (rIxN X.K X.w) := by
  rintro value slice pins s σ H x y v u Q I rx ry ⟨d, b, kvs, k, v0, rfl, rfl, e, hk, kb, kd, hv, q⟩ hs
  obtain rfl : v = Value.ref d := rx
  obtain rfl : u = Value.ref b := ry
  exact tail_any (dn_type I e) PySem.F.slot_dict_getitem.lookup (d_getN (by omega) I e hk kb kd hv fun w' s' I' r' => ⟨v0, H, I', r', q⟩) hs
end
section
variable {X : Cx} {K : PySem.W.Frag} {w : World}
theorem ix_dNK (hK : X.K = K) (hw : X.w = w) (hu : X.A.units + 32 < cLine) : IxR X (rIxN K w) := by subst hK hw; exact ix_dN hu
theorem op_inNK (hK : X.K = K) (hw : X.w = w) (hu : X.A.units + 32 < cLine) : OpR X (compareOp .In) (rInN K w false) := by subst hK hw; exact op_inN hu
theorem op_notInNK (hK : X.K = K) (hw : X.w = w) (hu : X.A.units + 32 < cLine) : OpR X (compareOp .NotIn) (rInN K w true) := by subst hK hw; exact op_notInN hu
theorem set_NK (hK : X.K = K) (hw : X.w = w) (hu : X.A.units + 32 < cLine) : PSet X (tSetN K w) := by subst hK hw; exact set_N hu
theorem pe_newNK {pos : Pos} (hw : X.w = w) : PE X (.Dict [] [] pos) (tNewN w) := by subst hw; exact pe_newN
/-- d[k] op= v -/
def sAugN (K : PySem.W.Frag) (w : World) (td ty tv : TE) (rd : V → V → Hp → VK → Prop) : TS := fun D σ H => td σ H fun x H1 => ty σ H1 fun y H2 => ∃ (d b : Addr) (kvs : NKs) (k : NK) (v : V), x = .ref d ∧ y = .ref b ∧ H2 d = some (DnO w d kvs) ∧ KeysOk K H2 kvs ∧ KeyV K H2 k y ∧ k.depth ≤ 8 ∧ valN kvs k = some v ∧
  tv σ H2 fun y2 H3 => rd v y2 H3 fun z H4 => H4 = H2 ∧ kvs.length < sizeLine ∧ D.nx σ (upd H2 d (DnO w d (putN kvs k b z)))
theorem ps_augN {o i value : Expr} {pos tpos : Pos} {td ty tv : TE} {op : Operator} {rd : V → V → Hp → VK → Prop} (hK : X.K = K) (hw : X.w = w) (hu : X.A.units + 32 < cLine) (ho : PE X o td) (hi : PE X i ty) (hv : PE X value tv) (hop : InOp X op rd)
    (ha : ∀ ov iv new, augStore i ov iv new = (do holding [new, ov, iv] (setItem ov iv new); release [new, ov, iv] []; pure .next) := by intros; rfl) : PS X (.AugAssign (.Subscript o i tpos) op value pos) (sAugN K w td ty tv rd) := by
  subst hK hw
  refine ⟨fun pins s σ H D I h => ?_⟩
  refine wpAny_AugAssign_SubscriptAny (thn (ho.run pins s σ H _ I h) fun u s1 ⟨x, H1, I1, rx, q1⟩ => thn (hi.run pins s1 σ H1 _ I1 q1) fun iv s2 ⟨y, H2, I2, ry, d, b, kvs, k, v, ex, ey, e, hk, kb, kd, hvv, q2⟩ => ?_) ha
  subst ex ey
  obtain rfl : u = Value.ref d := rx
  obtain rfl : iv = Value.ref b := ry
  refine d_getN (by omega) I2 (.inl e) hk kb kd hvv fun w' s3 I3 rw' => thn (hv.run pins s3 σ H2 _ I3 q2) fun w2 s4 ⟨y2, H3, I4, ry2, q3⟩ => thn (hop pins s4 σ H3 v y2 w' w2 _ I4 rw' ry2 q3) fun w3 s5 ⟨z, H4, I5, rz, e4, hl, q4⟩ => ?_
  subst e4
  exact d_setN (by omega) I5 e hk kb kd hl rz fun s6 I6 => ⟨σ, _, I6, q4⟩
end
end My
/-! walks of such dicts: for k in d, for k, v in d.items() (locked) -/
namespace My
open PySem PySem.Spec PyProof.Rows L2
theorem NRel.at {kvs : NKs} {xs : List (NK × Addr × Value)} (r : NRel kvs xs) : ∀ {i : Nat} {p : NK × Addr × V}, kvs[i]? = some p → ∃ q, xs[i]? = some q ∧ p.1 = q.1 ∧ p.2.1 = q.2.1 ∧ RelV p.2.2 q.2.2 := fun {i p} e => by
  obtain ⟨q, h1, h2⟩ := L2.paired_get r e
  exact ⟨q, h1, h2⟩
section
variable {X : Cx} {pins : List (Addr × Obj)} {σ : L2.St} {H : Hp} {s : Shared} {d : Addr} {o : Obj}
theorem frzN {kvs : NKs} (I : Inv X pins σ H s) (h : H d = some (.frz o (DnO X.w d kvs))) :
    (d == sysModules) = false ∧ s.heap.get? d = some o ∧ o.ExactDict ∧ ∃ (es : Array DictEntry) (ep : Nat), o.data = .dict es ep ∧ es.size = kvs.length ∧
      ∀ (i : Nat) (k : NK) (a : Addr) (v : V), kvs[i]? = some (k, a, v) → ∃ (en : DictEntry), es[i]? = some en ∧ en.key = .ref a ∧ RelV v en.val := by
  obtain ⟨hd, ⟨z, hs, hdp, xs, r, o', es, ep, ho, hx, hdt, he, hn⟩, _, _⟩ := I.hok d _ h
  rw [hd] at ho
  cases ho
  refine ⟨hs, hd, hx, es, ep, hdt, ?_, fun i k a v e => ?_⟩
  · have l1 := congrArg List.length he
    rw [Array.length_toList, List.length_map] at l1
    have l2 : kvs.length = xs.length := Paired.length r
    omega
  · obtain ⟨q, hq, e1, e2, e3⟩ := r.at e
    refine ⟨entN X.w q, ?_, ?_, e3⟩
    · rw [← Array.getElem?_toList, he, List.getElem?_map, hq]
      rfl
    · show Value.ref q.2.1 = Value.ref a
      rw [← e2]
end
/-- the keys' own tuples -/
def Itkn (w : World) (d : Addr) (o : Obj) (kvs : NKs) : It :=
  ⟨fun i H => H d = some (.frz o (DnO w d kvs)) ∧ i < kvs.length, fun i H x H' => H' = H ∧ ∃ k a v, kvs[i]? = some (k, a, v) ∧ x = .ref a, fun i H => H d = some (.frz o (DnO w d kvs)) ∧ kvs.length ≤ i⟩
/-- the pairs, each a new tuple -/
def Itin (w : World) (d : Addr) (o : Obj) (kvs : NKs) : It :=
  ⟨fun i H => H d = some (.frz o (DnO w d kvs)) ∧ i < kvs.length, fun i H x H' => ∃ T k a v, kvs[i]? = some (k, a, v) ∧ x = .ref T ∧ H T = none ∧ H' = upd H T (.tup [.ref a, v]), fun i H => H d = some (.frz o (DnO w d kvs)) ∧ kvs.length ≤ i⟩
section
variable {P : Program} {w : World} {K : PySem.W.Frag} {tg : Expr} {d : Addr} {o : Obj} {es : Array DictEntry} {ep : Nat}
theorem turn_keysN {kvs : NKs} (it : Addr) (hod : o.data = .dict es ep) : Turn P w K tg (Itkn w d o kvs) [it] it (fun i h => h.IsKeyIter it d i kvs.length ep) := by
  refine ⟨List.mem_singleton.mpr rfl, fun i h st b hb => ?_, fun i h h' st k => st.at fun oi e => k it (List.mem_singleton.mpr rfl) oi e, fun X hP hw hK hc i pins s σ H E I hf st hg => ?_, fun X hP hw hK hc i pins s σ H E I hf st hg => ?_, fun A i s Q E st h => ?_⟩
  · obtain rfl := List.mem_singleton.mp hb
    obtain ⟨oi, e, _, dd⟩ := st
    exact ⟨oi, e, fun v z => by rw [dd] at z; cases z⟩
  · subst hP hw hK
    obtain ⟨hd, hi⟩ := hg
    have fo := hf it (List.mem_singleton.mpr rfl)
    obtain ⟨hs, hgd, hx, es', ep', hdt, hsz, ent⟩ := frzN I hd
    obtain ⟨rfl, rfl⟩ := dict_ep hod hdt
    obtain ⟨⟨k, a, v⟩, hkv⟩ : ∃ p, kvs[i]? = some p := ⟨kvs[i], List.getElem?_eq_getElem hi⟩
    obtain ⟨en, hen, hkey, _⟩ := ent i k a v hkv
    refine next_key_item st hgd hdt hsz hen fun h' st' sb => ?_
    have I1 := I.turned (t' := s.toks) (h' := h') (fun b ob hb e => (sb.2 b hb).trans e) fo.1 fo.2.1 fo.2.2.2.1 fo.2.2.2.2.1 fo.2.2.2.2.2
    obtain ⟨oi, e, c, dd⟩ := id st'
    exact ⟨en.key, rfl, go_of (s := { s with heap := h' }) e c dd (by decide) ⟨.ref a, H, I1, hkey, ⟨rfl, k, a, v, hkv, rfl⟩, st', fun b hb => (hf b hb).1⟩⟩
  · subst hP hw hK
    obtain ⟨hd, hi⟩ := hg
    have fo := hf it (List.mem_singleton.mpr rfl)
    obtain ⟨hs, hgd, hx, es', ep', hdt, hsz, ent⟩ := frzN I hd
    obtain ⟨rfl, rfl⟩ := dict_ep hod hdt
    exact next_key_end (I.ok.hd hc) st hgd hdt hsz hi fun h' eb => ⟨rfl, I.turned (t' := s.toks) (fun b ob hb e => eb b ob hb e) fo.1 fo.2.1 fo.2.2.2.1 fo.2.2.2.2.1 fo.2.2.2.2.2⟩
  · refine wpAny_pyIter_slot st.typeIs F.slot_dict_keyiterator_iter (wpAny_call_entry F.slot_dict_keyiterator_iter st.typeIs F.entry_dict_keyiterator_iter ?_ (F.args_dict_keyiterator_iter_1 _))
    show wpAny _ _ (ret (.ref it)) _ _ s
    exact wpAny_pure ⟨_, rfl, "dict_keyiterator", _, st.typeIs, F.slot_dict_keyiterator_next.lookup, h⟩
theorem turn_itemsN {kvs : NKs} {elts : List Expr} {kk : Nat} {tpos : Pos} (it : Addr) (hod : o.data = .dict es ep) : Turn P w K (.Tuple elts kk tpos) (Itin w d o kvs) [it] it (fun i h => ∃ ok ov, IsItemIter h it d i kvs.length ep ok ov) := by
  refine ⟨List.mem_singleton.mpr rfl, fun i h st b hb => ?_, fun i h h' st k => ?_, fun X hP hw hK hc i pins s σ H E I hf st hg => ?_, fun X hP hw hK hc i pins s σ H E I hf st hg => ?_, fun A i s Q E st h => ?_⟩
  · obtain rfl := List.mem_singleton.mp hb
    obtain ⟨ok, ov, e⟩ := st
    exact ⟨_, e, fun v z => nomatch z⟩
  · obtain ⟨ok, ov, e⟩ := st
    exact ⟨ok, ov, k it (List.mem_singleton.mpr rfl) _ e⟩
  · subst hP hw hK
    obtain ⟨hd, hi⟩ := hg
    obtain ⟨hs, hgd, hx, es', ep', hdt, hsz, ent⟩ := frzN I hd
    obtain ⟨rfl, rfl⟩ := dict_ep hod hdt
    obtain ⟨⟨k, a, v⟩, hkv⟩ : ∃ p, kvs[i]? = some p := ⟨kvs[i], List.getElem?_eq_getElem hi⟩
    obtain ⟨en, hen, hkey, hval⟩ := ent i k a v hkv
    obtain ⟨ok, ov, he⟩ := st
    have hie : i < es'.size := by omega
    have hgi : es'[i] = en := by
      have := Array.getElem?_eq_getElem hie
      rw [this] at hen
      exact Option.some.inj hen
    rw [← hsz] at he
    have hlt : it < s.heap.objs.size := Heap.lt_size he
    refine wpAny_pyNext_items_item_raw he ⟨o, hgd, hx, hdt⟩ hie fun h' ho hT hz hk => ?_
    rw [hgi] at ho hT
    rw [hkey] at ho hT
    refine ⟨_, rfl, wpAny_letOwnedTupleGo_items (s := { s with heap := h' }) ho fun h'' he' sb => ?_⟩
    have hT2 : h''.get? s.heap.objs.size = some { cls := .type "tuple", data := .seq #[.ref a, en.val] } := (sb.2 _ (Nat.ne_of_gt hlt)).trans hT
    have new : ObjOk X.prog X.w (upd H s.heap.objs.size (.tup [.ref a, v])) h'' s.heap.objs.size (.tup [.ref a, v]) :=
      ⟨by show 2 ≤ sizeLine; decide, [.ref a, en.val], .cons rfl (.cons hval .nil), ⟨_, hT2, rfl, _, rfl⟩⟩
    have I1 : Inv X pins σ (upd H s.heap.objs.size (.tup [.ref a, v])) { s with heap := h'' } :=
      I.turnedNew (t' := s.toks) (ch := [it]) (fun b ob hb e => (sb.2 b (by simpa using hb)).trans (hk b ob (by simpa using hb) e)) hf (Nat.le_refl _) new
    refine ⟨.ref s.heap.objs.size, _, I1, rfl, ⟨_, k, a, v, hkv, rfl, I.hok.fresh (Nat.le_refl _), rfl⟩, ⟨.ref a, en.val, ?_⟩, fun b hb => ?_⟩
    · rw [← hsz]; exact he'
    · obtain rfl := List.mem_singleton.mp hb
      rw [upd_ne (Nat.ne_of_lt hlt)]
      exact (hf b (List.mem_singleton.mpr rfl)).1
  · subst hP hw hK
    obtain ⟨hd, hi⟩ := hg
    have fo := hf it (List.mem_singleton.mpr rfl)
    obtain ⟨hs, hgd, hx, es', ep', hdt, hsz, ent⟩ := frzN I hd
    obtain ⟨rfl, rfl⟩ := dict_ep hod hdt
    obtain ⟨ok, ov, he⟩ := st
    rw [← hsz] at he
    exact wpAny_pyNext_items_end_raw (I.ok.hd hc) he ⟨o, hgd, hx, hdt⟩ (by omega) fun h' eb => ⟨rfl, I.turned (t' := s.toks) (fun b ob hb e => eb b ob hb e) fo.1 fo.2.1 fo.2.2.2.1 fo.2.2.2.2.1 fo.2.2.2.2.2⟩
  · obtain ⟨_, _, e⟩ := st
    exact PySem.W.kcp_self e h
end
def iKeysN (w : World) (td : TE) : TI := fun σ H R => td σ H fun x H1 => ∃ d o kvs, x = .ref d ∧ H1 d = some (.frz o (DnO w d kvs)) ∧ R (Itkn w d o kvs) H1
def iItemsN (w : World) (td : TE) : TI := fun σ H R => td σ H fun x H1 => ∃ d o kvs, x = .ref d ∧ H1 d = some (.frz o (DnO w d kvs)) ∧ R (Itin w d o kvs) H1
section
variable {X : Cx} {tg e : Expr} {td : TE} {apos cpos : Pos} {w : World}
theorem pi_keysN (hw : X.w = w) (he : PE X e td) : PI X tg e (iKeysN w td) := by
  subst hw
  refine ⟨fun pins s σ H R I h => ?_⟩
  refine thn (he.run pins s σ H _ I h) fun u s1 ⟨x, H1, I1, rx, d, o, kvs, ex, hd, q⟩ => ?_
  subst ex
  obtain rfl : u = Value.ref d := rx
  obtain ⟨hs, hgd, hx, es, ep, hdt, hsz, ent⟩ := frzN I1 hd
  refine iter_keys hs hgd hx hdt (pi_one (tk := s1.toks) I1 _ (turn_keysN _ hdt) ⟨_, Heap.get?_push_size _ rfl, rfl, ?_⟩ q)
  rw [hsz] <;> rfl
theorem pi_itemsN {elts : List Expr} {kk : Nat} {tpos : Pos} (hw : X.w = w) (he : PE X e td) (hbase : attributeBase e "items" X.env (eval e X.env) = eval e X.env := by rfl) (hline : (apos.endLine == cpos.line) = true := by rfl) :
    PI X (.Tuple elts kk tpos) (.Call (.Attribute e "items" apos) [] [] cpos) (iItemsN w td) := by
  subst hw
  refine ⟨fun pins s σ H R I h => ?_⟩
  refine wpAny_Call_method (T := "dict") (id := "dict.items") hbase rfl hline F.plainAttrs_dict F.slot_dict_items F.type_dict_items (thn (he.run pins s σ H _ I h) fun u s1 ⟨x, H1, I1, rx, d, o, kvs, ex, hd, q⟩ => ?_)
  subst ex
  obtain rfl : u = Value.ref d := rx
  obtain ⟨hs, hgd, hx, es, ep, hdt, hsz, ent⟩ := frzN I1 hd
  have hT : s1.TypeIs (.ref d) "dict" := ⟨o, hgd, hx.1⟩
  refine ⟨hT, fun b z => by cases z; exact ⟨o, hgd, hx.2.1⟩, ?_⟩
  have I2 : Inv X pins σ H1 { s1 with heap := s1.heap.push { cls := .type "dict_items", data := .fields #[.ref d] } } := I1.kept (t' := s1.toks) fun b ob q => Heap.get?_push_of_some _ q
  have fin : wpAny (model X.prog X.w) X.A (pyIter (.ref s1.heap.objs.size)) (PIE X pins σ (.Tuple elts kk tpos) R) X.xe { s1 with heap := s1.heap.push { cls := .type "dict_items", data := .fields #[.ref d] } } := by
    refine wpAny_pyIter_items_raw (d := d) ⟨_, Heap.get?_push_size _ rfl, rfl, rfl⟩ ⟨o, Heap.get?_push_of_some _ hgd, hx, hdt⟩ (pi_one (tk := s1.toks) I2 _ (turn_itemsN _ hdt) ⟨.none, .none, ?_⟩ q)
    rw [← hsz]
    exact Heap.get?_push_size _ rfl
  show wpAny _ _ (callWith cpos (.builtin "dict.items") [.ref d] [] []) _ X.xe s1
  exact method_meetsIn F.slot_dict_items F.entry_dict_items rfl (PySem.evalArgs_none ⟨rfl, hT, F.args_dict_items_1 _, _, meets_dict_items_raw d hs, ⟨es, ep, o, hgd, hx, hdt⟩, fin⟩)
end
section
variable {w : World} {d : Addr} {o : Obj} {kvs : NKs}
theorem walk_keysN : Walk (Itkn w d o kvs) kvs.length (fun H => H d = some (.frz o (DnO w d kvs))) (fun i H x H' => H' = H ∧ ∃ k a v, kvs[i]? = some (k, a, v) ∧ x = .ref a) :=
  ⟨fun _ _ hi q => ⟨q, hi⟩, fun _ q => ⟨q, Nat.le_refl _⟩, fun _ _ _ _ _ _ y => y⟩
theorem walk_itemsN : Walk (Itin w d o kvs) kvs.length (fun H => H d = some (.frz o (DnO w d kvs))) (YPair (fun i => kvs[i]?.map fun kv => .ref kv.2.1) (fun i => kvs[i]?.map fun kv => kv.2.2)) := by
  refine ⟨fun _ _ hi q => ⟨q, hi⟩, fun _ q => ⟨q, Nat.le_refl _⟩, fun i H x H' _ _ y => ?_⟩
  obtain ⟨T, k, a, v, h1, h2, h3, h4⟩ := y
  exact ⟨T, .ref a, v, h2, h3, h4, by simp [h1], by simp [h1]⟩
end
end My
/-! sorted(xs), x < y of tuples of tuples -/
namespace My
open PySem PySem.Spec PyProof.Rows L2 PySem.W
section
variable {X : Cx} {pins : List (Addr × Obj)} {σ : L2.St} {H : Hp} {s : Shared}
mutual
theorem KeyV.reads (I : Inv X pins σ H s) : ∀ {k : NK} {v : V}, KeyV X.K H k v → ∀ {u : Value}, RelV v u → ∃ as, Reads s.heap u k.data as
  | _, _, .num i, u, r => by
    obtain ⟨t, rfl⟩ := (show ∃ t, u = Value.int i t from r)
    exact ⟨_, .int i t⟩
  | _, _, .tup (a := a) hq hk, u, r => by
    obtain rfl : u = Value.ref a := r
    obtain ⟨its, rv, ⟨o, h1, h2, n, h3⟩, _⟩ := I.tuple hq
    obtain ⟨as, q⟩ := KeysV.reads I hk rv
    exact ⟨as, .tuple h1 h2 h3 (by simpa using q)⟩
theorem KeysV.reads (I : Inv X pins σ H s) : ∀ {ks : List NK} {vs : List V}, KeysV X.K H ks vs → ∀ {us : List Value}, Vals vs us → ∃ as, ReadsAll s.heap us (NestedKey.datas ks) as
  | _, _, .nil, _, r => by cases r; exact ⟨_, .nil⟩
  | _, _, .cons h1 h2, _, r => by
    cases r with
    | cons r1 r2 =>
      obtain ⟨a1, q1⟩ := KeyV.reads I h1 r1
      obtain ⟨a2, q2⟩ := KeysV.reads I h2 r2
      exact ⟨_, .cons q1 q2⟩
end
end
mutual
theorem data_depth : ∀ k : NK, k.data.depth ≤ k.depth
  | .none => Nat.le_refl _
  | .num _ => Nat.le_refl _
  | .text _ => Nat.le_refl _
  | .tup ks => by
    have := datas_depth ks
    show PyData.depthAll (NestedKey.datas ks) + 1 ≤ NestedKey.depthAll ks + 1
    omega
theorem datas_depth : ∀ ks : List NK, PyData.depthAll (NestedKey.datas ks) ≤ NestedKey.depthAll ks
  | [] => Nat.le_refl _
  | k :: ks => by
    have h1 := data_depth k
    have h2 := datas_depth ks
    show max k.data.depth (PyData.depthAll (NestedKey.datas ks)) ≤ max k.depth (NestedKey.depthAll ks)
    omega
end
abbrev KB := V × NK
def leN : KB → KB → Bool := dataLe false fun b => b.2.data
def rSortN (K : PySem.W.Frag) : List V → Hp → VK → Prop := fun vs H Q => ∃ (a : Addr) (bs : List KB), vs = [.ref a] ∧ SqL K H a (bs.map (·.1)) ∧ (∀ b ∈ bs, KeyV K H b.2 b.1 ∧ b.2.depth ≤ 8) ∧ AllAlike (bs.map fun b => b.2.data) ∧ Sortable (bs.map fun b => b.2.data) ∧
  ∀ p, H p = none → Q (.ref p) (upd H p (.lst ((bs.mergeSort leN).map (·.1))))
theorem eachIs_of {bs : List KB} : ∀ {us : List Value}, Vals (bs.map (·.1)) us → EachIs (fun u (b : KB) => RelV b.1 u) us bs := by
  induction bs with
  | nil => intro us r; cases r; exact .nil
  | cons b bs ih => intro us r; cases r with | cons r1 r2 => exact .cons r1 (ih r2)
theorem vals_of {bs : List KB} {us : List Value} (h : EachIs (fun u (b : KB) => RelV b.1 u) us bs) : Vals (bs.map (·.1)) us := by
  induction h with
  | nil => exact .nil
  | cons r _ ih => exact .cons r ih
theorem eachIs_imp {R S : Value → KB → Prop} : ∀ {us : List Value} {bs : List KB}, EachIs R us bs → (∀ u b, b ∈ bs → R u b → S u b) → EachIs S us bs
  | _, _, .nil, _ => .nil
  | _, _, .cons r t, h => .cons (h _ _ List.mem_cons_self r) (eachIs_imp t fun u b hb => h u b (List.mem_cons_of_mem _ hb))
theorem cr_sortedN {X : Cx} (hu : X.A.units + 64 < cLine) : CallR X (.builtin "sorted") (rSortN X.K) := by
  intro pins s σ H vs us Q I r h
  obtain ⟨a, bs, rfl, hs, hk, hal, hso, q⟩ := h
  obtain ⟨its, rv, hl, hz⟩ := I.list hs
  rw [Vals.ref1 r]
  have hz' : bs.length ≤ sizeLine := by rw [List.length_map] at hz; exact hz
  refine sorted_data (enc := fun b : KB => b.2.data) hl.isList (eachIs_of rv) (eachIs_imp (eachIs_of rv) fun u b hb rb => (hk b hb).1.reads I rb) hal hso hz' (fun b hb => ?_) fun out hlen eo => ?_
  · have h1 := data_depth b.2
    have h2 := (hk b hb).2
    omega
  · have ro : Vals ((bs.mergeSort leN).map (·.1)) out := vals_of eo
    obtain ⟨ep, he'⟩ := PyProof.Rows.sortedAll_at s.heap its out.toArray
    have hl2 : ((bs.mergeSort leN).map (·.1)).length ≤ sizeLine := by rw [List.length_map, List.length_mergeSort]; exact hz'
    exact ⟨.ref _, upd H (s.heap.objs.size + 1) (.lst ((bs.mergeSort leN).map (·.1))), I.laid (t' := s.toks) (fun _ _ => PyProof.Rows.sortedAll_old) (Nat.le_succ _) ⟨hl2, out, ep, ro, he'⟩, rfl, q _ (I.hok.fresh (Nat.le_succ _))⟩
def rLtN (K : PySem.W.Frag) : R2 := fun x y H Q => ∃ kx ky, KeyV K H (.tup kx) x ∧ KeyV K H ky y ∧ alike (NestedKey.tup kx).data ky.data = true ∧ (NestedKey.tup kx).depth ≤ 8 ∧ Q (.bl (dataLt (NestedKey.tup kx).data ky.data)) H
theorem op_ltN {X : Cx} (hu : X.A.units + 64 < cLine) : OpR X (compareOp .Lt) (rLtN X.K) := by
  rintro pins s σ H x y v u Q I rx ry ⟨kx, ky, h1, h2, ha, hd, q⟩
  obtain ⟨as, ra⟩ := h1.reads I rx
  obtain ⟨bs, rb⟩ := h2.reads I ry
  have hdd := data_depth (NestedKey.tup kx)
  exact lt_data ra rb ha (fun z => by cases z) (by omega) ⟨.bl _, H, I, rfl, q⟩
end My
/-! name = {k: v for .. in ..}, the keys tuples of tuples -/
namespace My
open PySem PySem.Spec PyProof.Rows L2
section
variable {X : Cx}
theorem d_dictSetN {pins : List (Addr × Obj)} {σ : L2.St} {H : Hp} {s : Shared} {E : Value → Shared → Prop} {d b : Addr} {kvs : NKs} {k : NK} {v : V} {u : Value} {Q : Unit → Shared → Prop} (hu : X.A.units + 16 < cLine) (I : Inv X pins σ H s) (e : H d = some (DnO X.w d kvs)) (hk : KeysOk X.K H kvs) (kb : KeyV X.K H k (.ref b)) (kd : k.depth ≤ 8)
    (hl : kvs.length < sizeLine) (rv : RelV v u) (h : ∀ s', Inv X pins σ (upd H d (DnO X.w d (putN kvs k b v))) s' → Q () s') : wpAny (model X.prog X.w) X.A (dictSet d (.ref b) u) Q E s := by
  obtain ⟨z, hs, hd, xs, r, dd⟩ := dn_of I (.inl e) hk
  have hz : xs.length ≤ sizeLine := by rw [← Paired.length r]; exact z
  refine wpAny_dictSet_heap (knd := nestedKind X.prog X.w) (hsz := hz) (show X.A.units + 8 < cLine by omega) ⟨kb.is I rfl, kd⟩ dd fun h' dd' sb => h _ ?_
  obtain ⟨q, es, ep, hq, h2, h3, h4, _, h5⟩ := dd'
  refine d_write I (by rw [e]; exact True.intro) sb ⟨q, hq⟩ (dnO_ok ?_ hs ?_ (r.put k b rv) hq h2 h3 h4 h5)
  · have := putN_len kvs k b v; omega
  · intro x hx
    rcases putN_mem hx with ⟨y, hy, e1, _⟩ | ⟨e1, _⟩
    · rw [← e1]; exact hd y hy
    · rw [e1]; exact kd
end
/-- D the new dict -/
def tDcN (K : PySem.W.Frag) (w : World) (wi : TI) (g : TG) (tt : TT) (tk tv : TE) (vs : List Nat) : TE := fun σ H Q => wi σ H fun J H1 => ∀ D, H1 D = none → ∃ W : Nat → Nat → Hp → Prop, (∃ m, W 0 m (upd H1 D (DnO w D []))) ∧ ∀ i m H, W i m H →
  (J.stop i H ∧ Q (.ref D) H) ∨ (J.go i H ∧ ∃ Nx : Hp → Prop, (∀ H', Nx H' → ∃ m', m' < m ∧ W (i + 1) m' H') ∧ ∀ x H', J.yld i H x H' → g x (wipe σ vs) H' fun σ2 H2 => wipe σ2 vs = wipe σ vs ∧ tt σ2 H2 fun b H3 =>
    if b = true then tk σ2 H3 fun y H4 => tv σ2 H4 fun z H5 => ∃ kvs k a, y = .ref a ∧ H5 D = some (DnO w D kvs) ∧ KeysOk K H5 kvs ∧ KeyV K H5 k y ∧ k.depth ≤ 8 ∧ kvs.length < sizeLine ∧ Nx (upd H5 D (DnO w D (putN kvs k a z))) else Nx H3)
section
variable {X : Cx}
theorem ps_setDcN {i : Nat} {y : Str} {py : Pos} {kx vx tg iter : Expr} {ifs : List Expr} {scope : Scope} {own : List (Str × Nat)} {pos spos : Pos} {wi : TI} {g : TG} {tt : TT} {tk tv : TE} {K : PySem.W.Frag} {w : World} (hK : X.K = K) (hw : X.w = w) (hu : X.A.units + 32 < cLine) (hc : X.calm = true) (hN : X.N.Nodup) (hy : X.N[i]? = some y) (hyl : X.env.scope.names.lookup y = some .local)
    (hsw : swapsWith (.DictComp kx vx [⟨tg, iter, ifs, 0⟩] scope pos) (some (.Name y py)) spos.line X.env = pure true) (hi : PI X tg iter wi) (ok : BlkOk X.N X.env.scope scope own)
    (hg : ∀ (s : Shared) (H : Hp) (C : Addr) (cl : List (Str × Addr)) (fp : List Addr), PG (X.blk s H scope (compEnvC scope cl C X.env) fp) tg g) (ht : ∀ (s : Shared) (H : Hp) (C : Addr) (cl : List (Str × Addr)) (fp : List Addr), PTs (X.blk s H scope (compEnvC scope cl C X.env) fp) ifs tt)
    (hk : ∀ (s : Shared) (H : Hp) (C : Addr) (cl : List (Str × Addr)) (fp : List Addr), PE (X.blk s H scope (compEnvC scope cl C X.env) fp) kx tk)
    (he : ∀ (s : Shared) (H : Hp) (C : Addr) (cl : List (Str × Addr)) (fp : List Addr), PE (X.blk s H scope (compEnvC scope cl C X.env) fp) vx tv) (hs : ∀ x, foldedSetIterable iter X.env x = pure x := by intro _; rfl) :
    PS X (.Assign [.Name y py] (.DictComp kx vx [⟨tg, iter, ifs, 0⟩] scope pos) spos) (tAsg (tDcN K w wi g tt tk tv (own.map (·.2))) (gName i)) := by
  subst hK hw
  refine ⟨fun pins s σ H D I h => ?_⟩
  rw [exec_Assign_Name_used _ _ _ _ hsw]
  refine wpAny_bind (wpAny_standAt (wpAny_bind ?_))
  have h : tDcN X.K X.w wi g tt tk tv (own.map (·.2)) σ H (fun x H1 => gName i x σ H1 D.nx) := h
  have hfree : ∀ z ∈ scope.names, z.2 = .free → ∃ c, X.env.cells.lookup z.1 = some c := fun z hz e => (ok.free z hz e).elim (fun k => I.ok.has _ (.inl k)) fun k => I.ok.has _ (.inr k)
  show wpAny _ X.A (do let _ ← comprehension (.DictComp kx vx [⟨tg, iter, ifs, 0⟩] scope pos) scope X.env (firstIterPos [⟨tg, iter, ifs, 0⟩] pos) newDict false (eval iter X.env) (some (assign (.Name y py) X.env))) _ _ s
  refine wpAny_bind (thn (Q := fun _ s' => SP X pins D .next s') ?_ fun _ s' hq => wpAny_pure (wpAny_pure hq))
  refine wpAny_comprehension_free rfl hs (closure_ok hfree) ok.kind (fun z hz e => by rw [ok.uniq z hz, e]) (thn (hi.run pins s σ H _ I h) fun xv s1 hx => thn hx fun itv s2 h2 => ?_)
  obtain ⟨it, fp, tn, J, H2, ei, I2, T, st2, f2, q⟩ := h2
  subst ei
  refine wpAny_newObj_type (newEnv_comp ?_)
  obtain ⟨W, ⟨m0, w0⟩, turn⟩ := q s2.heap.objs.size (I2.hok.fresh (Nat.le_refl _))
  -- the new dict
  obtain ⟨D0, hD0⟩ : ∃ D0, D0 = s2.heap.objs.size := ⟨_, rfl⟩
  obtain ⟨s3, hs3⟩ : ∃ s3 : Shared, s3 = { s2 with heap := s2.heap.push { cls := .type "dict", data := .dict #[] } } := ⟨_, rfl⟩
  obtain ⟨H3, hH3⟩ : ∃ H3, H3 = upd H2 D0 (DnO X.w D0 []) := ⟨_, rfl⟩
  have k3 : ∀ b o, s2.heap.get? b = some o → s3.heap.get? b = some o := fun b o e => by rw [hs3]; exact Heap.get?_push_of_some _ e
  have z3 : s3.heap.objs.size = D0 + 1 := by rw [hs3, hD0]; exact Heap.size_push _ _
  have I3 : Inv X pins σ H3 s3 := by
    rw [hs3, hH3]
    refine I2.laid (t' := s2.toks) (fun b o e => Heap.get?_push_of_some _ e) (Nat.le_of_eq hD0.symm) ?_
    rw [hD0]
    exact dnO_ok (Nat.zero_le _) (beq_eq_false_iff_ne.mpr (Ne.symm (Nat.ne_of_lt I2.big))) (fun x hx => nomatch hx) .nil (Heap.get?_push_size _ rfl) ⟨rfl, rfl, rfl⟩ rfl rfl List.nodup_nil
  have lt2 : ∀ b ∈ fp, b < s2.heap.objs.size := fun b hb => let ⟨_, e, _⟩ := T.obj _ _ st2 b hb; Heap.lt_size e
  have f3 : ∀ b ∈ fp, FpOk X pins H3 b ∧ b < s3.heap.objs.size := fun b hb => by
    have hlt := lt2 b hb
    refine ⟨⟨?_, (f2 b hb).2⟩, by rw [z3, hD0]; exact Nat.lt_succ_of_lt hlt⟩
    rw [hH3, upd_ne (by rw [hD0]; exact Nat.ne_of_lt hlt)]
    exact (f2 b hb).1
  have st3 : tn 0 s3.heap := T.keep _ _ _ st2 fun b _ o e => k3 b o e
  rw [← hD0, ← hH3] at w0
  rw [← hD0] at turn
  have I4 := block_start (own := own) (fp := fp) I3 ok hN f3
  have pg := hg s3 H3 s3.heap.objs.size (cellsFrom (s3.heap.objs.size + 1) scope.names (cloFrom X.env.cells scope.names [])) fp
  have pt := ht s3 H3 s3.heap.objs.size (cellsFrom (s3.heap.objs.size + 1) scope.names (cloFrom X.env.cells scope.names [])) fp
  have pk := hk s3 H3 s3.heap.objs.size (cellsFrom (s3.heap.objs.size + 1) scope.names (cloFrom X.env.cells scope.names [])) fp
  have pe := he s3 H3 s3.heap.objs.size (cellsFrom (s3.heap.objs.size + 1) scope.names (cloFrom X.env.cells scope.names [])) fp
  show codeAny _ _ (.compStart (.DictComp kx vx [⟨tg, iter, ifs, 0⟩] scope pos) 0 (.ref it) (.ref s2.heap.objs.size) (compEnvC scope (cellsFrom ((s2.heap.push { cls := .type "dict", data := .dict #[] }).objs.size + 1) scope.names (cloFrom X.env.cells scope.names [])) (s2.heap.push { cls := .type "dict", data := .dict #[] }).objs.size X.env)) _ { s2 with heap := pushCells ((s2.heap.push { cls := .type "dict", data := .dict #[] }).push { cls := .type "dict", data := .dict #[] }) scope.names }
  have eh : s2.heap.push { cls := .type "dict", data := .dict #[] } = s3.heap := by rw [hs3]
  rw [eh, ← hD0]
  have e4 : ({ s2 with heap := pushCells (s3.heap.push { cls := .type "dict", data := .dict #[] }) scope.names } : Shared) = { s3 with heap := pushCells (s3.heap.push { cls := .type "dict", data := .dict #[] }) scope.names } := by rw [hs3]
  rw [e4]
  have kC : ∀ b o, s3.heap.get? b = some o → (pushCells (s3.heap.push { cls := .type "dict", data := .dict #[] }) scope.names).get? b = some o := fun b o e => pushCells_keeps _ _ _ _ (Heap.get?_push_of_some _ e)
  obtain ⟨ce, hce⟩ : ∃ ce, ce = compEnvC scope (cellsFrom (s3.heap.objs.size + 1) scope.names (cloFrom X.env.cells scope.names [])) s3.heap.objs.size X.env := ⟨_, rfl⟩
  obtain ⟨s4, hs4⟩ : ∃ s4 : Shared, s4 = { s3 with heap := pushCells (s3.heap.push { cls := .type "dict", data := .dict #[] }) scope.names } := ⟨_, rfl⟩
  rw [← hce, ← hs4] at I4
  rw [← hce] at pg pt pk pe
  rw [← hce, ← hs4]
  have cL : ce.locals = s3.heap.objs.size := by rw [hce]; rfl
  have st4 : tn 0 s4.heap := T.keep _ _ _ st3 fun b _ o e => by rw [hs4]; exact kC _ _ e
  have out : ∀ {σ' : L2.St} {H' : Hp} {s' : Shared}, Inv (X.blk s3 H3 scope ce fp) [] σ' H' s' → Inv X pins σ H' s' := fun {σ' H' s'} I' => I3.call' (ch := fp) I'.os I'.base I'.hok I'.bare fun b hb => ⟨(f3 b hb).1.2.2.2.1, (f3 b hb).1.2.1, (f3 b hb).1.2.2.2.2.1, (f3 b hb).1.2.2.2.2.2⟩
  have fpB : ∀ {σ' : L2.St} {H' : Hp} {s' : Shared}, Inv (X.blk s3 H3 scope ce fp) [] σ' H' s' → (∀ b ∈ fp, H' b = none) → ∀ b ∈ fp, FpOk (X.blk s3 H3 scope ce fp) [] H' b := fun {σ' H' s'} I' hn b hb =>
    ⟨hn b hb, (I'.ok.exf b hb).1, I'.ok.exfs b hb, .inl hb, fun x c e => (I'.ok.exf b hb).2 x c e, fun p hp => absurd (show p ∈ ([] : List (Addr × Obj)) ++ [] from hp) (by simp)⟩
  have loop : codeAny (model X.prog X.w) X.A (.compLoop (.DictComp kx vx [⟨tg, iter, ifs, 0⟩] scope pos) 0 (.ref it) (.ref D0) ce) (compPost (model X.prog X.w) X.A X.xe (some (assign (.Name y py) X.env)) (fun _ s' => SP X pins D .next s') (.ref D0) s3.heap.objs.size) s4 := by
    refine compLoop_anyD (fun m s' => ∃ j H', Inv (X.blk s3 H3 scope ce fp) [] (wipe σ (own.map (·.2))) H' s' ∧ tn j s'.heap ∧ (∀ b ∈ fp, H' b = none) ∧ W j m H') ?_ m0 ⟨0, H3, I4, st4, fun b hb => (f3 b hb).1.1, w0⟩
    rintro m s5 ⟨j, H5, I5, st5, n5, w5⟩
    rcases turn j m H5 w5 with ⟨stop, qq⟩ | ⟨go, Nx, hNx, step⟩
    · refine thnF (T.done (X.blk s3 H3 scope ce fp) rfl rfl rfl hc j [] s5 _ H5 (fun _ _ => False) I5 (fpB I5 n5) st5 stop) fun r s6 ⟨hr, I6⟩ => ?_
      subst hr
      have I7 := out I6
      have nC : H5 s3.heap.objs.size = none := by
        have z : H5 ce.locals = none := I6.free
        rwa [cL] at z
      obtain ⟨mm, hn, _⟩ := I6.loc
      have hn : s6.heap.Ns ce.locals mm := hn
      rw [cL] at hn
      obtain ⟨g0, g1, g2, g3, g4, g5⟩ := I3.fpOk (Nat.le_refl _) nC
      show wpAny _ _ (assign (.Name y py) X.env (.ref D0)) _ _ _
      refine wpAny_assign_Name (store_ok2 (v := V.ref D0) I7 hN hy (.inl hyl) rfl (fun s8 I8 ⟨aa, sb, haa⟩ => ?_) (.inr hyl))
      have haC : s3.heap.objs.size ≠ aa := haa.elim (fun z => by rw [z]; exact g1) fun z e => g4 y aa z e.symm
      exact ⟨mm, hn.sameBut sb haC, fun h9 sb9 => ⟨_, H5, I8.turned (t' := s8.toks) (fun b o hb e => (sb9.2 b hb).trans e) g0 g1 g3 g4 g5, qq⟩⟩
    · refine thnF (T.item (X.blk s3 H3 scope ce fp) rfl rfl rfl hc j [] s5 _ H5 (fun _ _ => False) I5 (fpB I5 n5) st5 go) fun r s6 ⟨u, hr, h6⟩ => ?_
      subst hr
      refine thnF h6 fun _ s7 ⟨x, H7, I7, r7, y7, st7, n7⟩ => ?_
      have I7' := I7.pinned (fpB I7 n7) (T.obj _ _ st7)
      refine thnF (pg.run _ s7 _ H7 x u _ I7' r7 (step x H7 y7)) fun _ s8 ⟨σ8, H8, I8, hw8, q8⟩ => ?_
      refine thnF (pt.run _ s8 σ8 H8 _ I8 q8) fun bb s9 ⟨H9, I9, q9⟩ => ?_
      have fin : ∀ {s' : Shared} {H' : Hp}, Inv (X.blk s3 H3 scope ce fp) ([] ++ pinsAt fp s7.heap) σ8 H' s' → Nx H' → ∃ m', m' < m ∧ ∃ j H', Inv (X.blk s3 H3 scope ce fp) [] (wipe σ (own.map (·.2))) H' s' ∧ tn j s'.heap ∧ (∀ b ∈ fp, H' b = none) ∧ W j m' H' := fun {s' H'} I' nx => by
        obtain ⟨m', hm, w'⟩ := hNx H' nx
        have pz : ∀ b ∈ fp, ∀ o, s7.heap.get? b = some o → s'.heap.get? b = some o ∧ H' b = none := fun b hb o e =>
          let z := I'.pin (b, o) (List.mem_append_right _ (List.mem_append_right _ (mem_pinsAt hb e)))
          ⟨z.1, z.2.1⟩
        refine ⟨m', hm, j + 1, H', (I'.unpinned (pins := [])).weak (by rw [← hw8, wipe_length]) (fun k v e => ?_), T.keep _ _ _ st7 fun b hb o e => (pz b hb o e).1, fun b hb => ?_, w'⟩
        · rw [← hw8] at e
          exact (wipe_some e).1
        · obtain ⟨o, e, _⟩ := T.obj _ _ st7 b hb
          exact (pz b hb o e).2
      cases bb with
      | false =>
        simp only [Bool.false_eq_true, if_false] at q9 ⊢
        exact fin I9 q9
      | true =>
        simp only [if_true] at q9 ⊢
        refine thnF (pk.run _ s9 σ8 H9 _ I9 q9) fun z s10 ⟨yk, H10, I10, r10, q10⟩ => ?_
        refine thnF (pe.run _ s10 σ8 H10 _ I10 q10) fun z2 s11 ⟨yv, H11, I11, r11, kvs, k, a, ek, hD11, hk11, kb, kd, hz11, nx⟩ => ?_
        subst ek
        obtain rfl : z = Value.ref a := r10
        exact d_dictSetN (X := X.blk s3 H3 scope ce fp) (by show X.A.units + 16 < cLine; omega) I11 hD11 hk11 kb kd hz11 r11 fun s12 I12 => fin I12 nx
  exact codeAny_compStart_dict loop (T.self X.A 0 _ _ _ st4 loop)
theorem swd_true {kx vx : Expr} {gs : List Comprehension} {scope : Scope} {pos py : Pos} {y : Str} {l : Nat} {env : Env} (hk : env.scope.kind = .function) (hy : env.scope.names.lookup y = some .local) (hl : (py.line == pos.line) = true)
    (ha : (scope.names.any fun (n, k) => n == y && (k == .local || k == .cell)) = false) : swapsWith (.DictComp kx vx gs scope pos) (some (.Name y py)) l env = pure true := by
  have ky : env.kindOf y = some .local := hy
  have hb : env.blockKind = .function := by unfold Env.blockKind; rw [hk]; rfl
  unfold swapsWith
  simp only [hb, ky, ha, Expr.pos, hl]
  rfl
end
end My
/-! list(d), the keys tuples of tuples -/
namespace My
open PySem PySem.Spec PyProof.Rows L2
section
variable {X : Cx}
def rListN (w : World) : List V → Hp → VK → Prop := fun xs H Q => ∃ d kvs, xs = [V.ref d] ∧ Rd H d (DnO w d kvs) ∧ ∀ p, H p = none → Q (.ref p) (upd H p (.lst (kvs.map fun x => V.ref x.2.1)))
theorem call_list_dN {w : World} (hw : X.w = w) (hc : X.calm = true) : CallR X (.type "list") (rListN w) := by
  subst hw
  intro pins s σ H xs us Q I r h
  obtain ⟨d, kvs, rfl, hd, q⟩ := h
  rw [Vals.ref1 r]
  obtain ⟨⟨z, hs, hdp, ys, rel, o, es, ep, ho, hx, hdt, he, hn⟩, _, _⟩ := (show ObjOk X.prog X.w H s.heap d (DnO X.w d kvs) from rd_of I.hok hd)
  have l1 := congrArg List.length he
  rw [Array.length_toList, List.length_map] at l1
  have l2 : kvs.length = ys.length := Paired.length rel
  refine PySem.W.kdl_call (kdl_raw hs hx hdt) (I.ok.hd hc) ho (by omega) fun h' tk acc' c' kp e it => ?_
  have lz : acc'.toList.length = kvs.length := by rw [Array.length_toList, it.1]; omega
  have rv : Vals (kvs.map fun x => V.ref x.2.1) acc'.toList := vals_of_at (by rw [List.length_map, lz]) fun j x u h1 h2 => by
    obtain ⟨en, hen, rfl⟩ := it.2 j u (by rw [← Array.getElem?_toList]; exact h2)
    rw [List.getElem?_map] at h1
    cases hk : kvs[j]? with
    | none => rw [hk] at h1; cases h1
    | some p =>
      rw [hk] at h1
      cases h1
      obtain ⟨y, hy, _, e2, _⟩ := rel.at hk
      have q2 : es[j]? = some (entN X.w y) := by rw [← Array.getElem?_toList, he, List.getElem?_map, hy]; rfl
      rw [q2] at hen
      cases hen
      show Value.ref y.2.1 = Value.ref p.2.1
      rw [e2]
  refine ⟨.ref s.heap.objs.size, _, I.laid (t' := tk) (o := .lst (kvs.map fun x => V.ref x.2.1)) kp (Nat.le_refl _) ?_, rfl, q _ (I.hok.fresh (Nat.le_refl _))⟩
  exact ⟨by rw [List.length_map]; omega, acc'.toList, c', rv, by rw [Array.toArray_toList]; exact e⟩
end
end My
/-! for a, b in zip(xs, t): xs a list, t a tuple -/
namespace My
open PySem PySem.Spec PyProof.Rows L2
/-- the list at a and the tuple at b as they stand at each turn, the items in new pairs -/
def ItzM (K : PySem.W.Frag) (a b : Addr) : It :=
  ⟨fun i H => ∃ (xs ys : List V) (x y : V), SqL K H a xs ∧ SqT K H b ys ∧ xs[i]? = some x ∧ ys[i]? = some y,
    fun i H v H' => ∃ T x y, v = .ref T ∧ H T = none ∧ H' = upd H T (.tup [x, y]) ∧ (∀ xs, SqL K H a xs → xs[i]? = some x) ∧ ∀ ys, SqT K H b ys → ys[i]? = some y,
    fun i H => ∃ xs ys : List V, SqL K H a xs ∧ SqT K H b ys ∧ xs.length = ys.length ∧ i = xs.length⟩
def ZmSt (z TI TO i1 i2 a b : Addr) (i : Nat) (h : Heap) : Prop := IsZip h z TI TO .none ∧ IsTupOf2 h TI (.ref i1) (.ref i2) ∧ (∃ a1 a2, IsTupOf2 h TO a1 a2) ∧ h.IsListIter i1 a i ∧ h.IsTupleIter i2 b i
theorem turn_zipM {P : Program} {w : World} {K : PySem.W.Frag} {elts : List Expr} {kk : Nat} {tpos : Pos} {a b z TI TO i1 i2 : Addr} (S : ZipSep2 z TI TO i1 i2 [i1, a] [i2, b]) (na : a ≠ i1) (nb : b ≠ i2) (nbz : b ≠ z) :
    Turn P w K (.Tuple elts kk tpos) (ItzM K a b) [z, TI, TO, i1, i2] z (fun i h => ZmSt z TI TO i1 i2 a b i h) := by
  have m5 : ∀ {c : Addr}, c ∈ [z, TI, TO, i1, i2] → c = z ∨ c = TI ∨ c = TO ∨ c = i1 ∨ c = i2 := fun {c} h => by simpa using h
  refine ⟨by simp, fun i h st c hc => ?_, fun i h h' st k => ?_, fun X hP hw hK hc i pins s σ H E I hf st hg => ?_, fun X hP hw hK hc i pins s σ H E I hf st hg => ?_, fun A i s Q E st h => wpAny_pyIter_zip st.1 h⟩
  · obtain ⟨hz, hTI, ⟨x, y, hTO⟩, ⟨o1, e1, _, d1⟩, ⟨o2, e2, _, d2⟩⟩ := st
    rcases m5 hc with q | q | q | q | q
    · rw [q]; exact ⟨_, hz, fun v q => nomatch q⟩
    · rw [q]; exact ⟨_, hTI, fun v q => nomatch q⟩
    · rw [q]; exact ⟨_, hTO, fun v q => nomatch q⟩
    · rw [q]; exact ⟨o1, e1, fun v q => by rw [d1] at q; cases q⟩
    · rw [q]; exact ⟨o2, e2, fun v q => by rw [d2] at q; cases q⟩
  · obtain ⟨hz, hTI, ⟨x, y, hTO⟩, h1, h2⟩ := st
    exact ⟨k z (by simp) _ hz, k TI (by simp) _ hTI, ⟨x, y, k TO (by simp) _ hTO⟩, h1.at fun o q => k i1 (by simp) o q, h2.at fun o q => k i2 (by simp) o q⟩
  · subst hP hw hK
    obtain ⟨hz, hTI, hTO, h1, h2⟩ := st
    obtain ⟨xs, ys, x, y, hqx, hqy, hx, hy⟩ := hg
    obtain ⟨its, rv, p, _⟩ := I.list hqx
    obtain ⟨its2, rv2, p2, _⟩ := I.tuple hqy
    obtain ⟨u, hu, ru⟩ := rv.get hx
    obtain ⟨u2, hu2, ru2⟩ := rv2.get hy
    have hzl : z < s.heap.objs.size := Heap.lt_size hz
    have hi1 : i < its.toArray.size := (List.getElem?_eq_some_iff.mp hu).1
    have hi2 : i < its2.toArray.size := (List.getElem?_eq_some_iff.mp hu2).1
    refine (GoesN.zip2 (x1 := kk) (pos := tpos) (elts := elts) S (Draws.list (A := X.A.in1) (I.ok.hd hc) i1 a na its.toArray) (Draws.tuple (A := X.A.in1) (I.ok.hd hc) i2 b nb its2.toArray)).goes i s _ _ (by omega) ⟨hz, hTI, hTO, ⟨h1, p.isList⟩, ⟨h2, show s.heap.IsTuple b its2.toArray from p2⟩⟩ fun v h' tk ⟨T, x', y', ev, hT0, hx', hy', hT⟩ st' hk htk => ?_
    have ex : x' = u := by
      have h3 : its.toArray[i]? = some u := by simpa using hu
      rw [h3] at hx'
      exact (Option.some.inj hx').symm
    have ey : y' = u2 := by
      have h3 : its2.toArray[i]? = some u2 := by simpa using hu2
      rw [h3] at hy'
      exact (Option.some.inj hy').symm
    subst ev ex ey
    obtain ⟨hz', hTI', hTO', ⟨h1', _⟩, ⟨h2', _⟩⟩ := st'
    have hlt : ∀ c ∈ [z, TI, TO, i1, i2], c < s.heap.objs.size := fun c hcm => by
      obtain ⟨x0, y0, hTO⟩ := hTO
      obtain ⟨_, e1, _⟩ := h1
      obtain ⟨_, e2, _⟩ := h2
      rcases m5 hcm with q | q | q | q | q
      · rw [q]; exact hzl
      · rw [q]; exact Heap.lt_size hTI
      · rw [q]; exact Heap.lt_size hTO
      · rw [q]; exact Heap.lt_size e1
      · rw [q]; exact Heap.lt_size e2
    obtain ⟨oT, hoT, hcT, nT, hdT⟩ := hT
    have new : ObjOk X.prog X.w (upd H T (.tup [x, y])) h' T (.tup [x, y]) :=
      ⟨by show 2 ≤ sizeLine; decide, [x', y'], .cons ru (.cons ru2 .nil), ⟨oT, hoT, hcT, nT, hdT⟩⟩
    have I1 : Inv X pins σ (upd H T (.tup [x, y])) { s with heap := h', toks := tk } :=
      I.turnedNew (ch := [z, TI, TO, i1, i2]) (fun c o hb q => hk c o (fun q' => hb (by
        have q2 : c = z ∨ c = TO ∨ c = i1 ∨ c = i2 := by simpa using q'
        rcases q2 with q2 | q2 | q2 | q2 <;> simp [q2])) q) hf hT0 new
    refine ⟨.ref T, _, I1, rfl, ⟨T, x, y, rfl, I.hok.fresh hT0, rfl, fun l hl => by rw [I.list_inj hl hqx]; exact hx, fun l hl => by rw [I.tuple_inj hl hqy]; exact hy⟩, ⟨hz', hTI', hTO', h1', h2'⟩, fun c hcm => ?_⟩
    rw [upd_ne (Nat.ne_of_lt (Nat.lt_of_lt_of_le (hlt c hcm) hT0))]
    exact (hf c hcm).1
  · subst hP hw hK
    obtain ⟨hz, hTI, hTO, h1, h2⟩ := st
    obtain ⟨xs, ys, hqx, hqy, hl, hi⟩ := hg
    obtain ⟨its, rv, p, _⟩ := I.list hqx
    obtain ⟨its2, rv2, p2, _⟩ := I.tuple hqy
    have l1 := rv.length
    have l2 := rv2.length
    have hm : min its.toArray.size its2.toArray.size = i := by rw [List.size_toArray, List.size_toArray]; omega
    refine (GoesN.zip2 (x1 := kk) (pos := tpos) (elts := elts) S (Draws.list (A := X.A.in1) (I.ok.hd hc) i1 a na its.toArray) (Draws.tuple (A := X.A.in1) (I.ok.hd hc) i2 b nb its2.toArray)).stops s _ _ (by rw [hm]; exact ⟨hz, hTI, hTO, ⟨h1, p.isList⟩, ⟨h2, show s.heap.IsTuple b its2.toArray from p2⟩⟩) fun h' tk hk htk => ?_
    exact I.turnedL (ch := [z, TI, TO, i1, i2]) (fun c o hb q => hk c o (fun q' => hb (by
        have q2 : c = z ∨ c = TO ∨ c = i1 ∨ c = i2 := by simpa using q'
        rcases q2 with q2 | q2 | q2 | q2 <;> simp [q2])) q) hf
def iZipM (K : PySem.W.Frag) (ta : TA) : TI := fun σ H R => ta σ H fun vs H1 => ∃ a b xs ys, vs = [.ref a, .ref b] ∧ SqL K H1 a xs ∧ SqT K H1 b ys ∧ R (ItzM K a b) H1
theorem pi_zipM {X : Cx} {K : PySem.W.Frag} {e e2 : Expr} {ta : TA} {p pos tpos : Pos} {elts : List Expr} {kk : Nat} (hK : X.K = K) (hg : Gl X "zip") (hm : X.mg "zip" = none) (ha : PA X [e, e2] ta)
    (hs : starEach [e, e2] X.env = (false, eval e X.env) :: starEach [e2] X.env := by rfl) (hpl : (backTo pos (starEach [e2] X.env)).any (·.1) = false := by rfl) :
    PI X (.Tuple elts kk tpos) (.Call (.Name "zip" p) [e, e2] [] pos) (iZipM K ta) := by
  subst hK
  refine ⟨fun pins s σ H R I h => ?_⟩
  refine Call_ (ld_blt I hg hm PyProof.Rows.boot_zip (PyProof.Rows.callWith_type1 (thn (ha.run pos pins s σ H _ I h) fun us s1 ⟨vs, H1, I1, r1, q1⟩ => ?_) hs hpl))
  obtain ⟨a, b, xs, ys, ex, hqx, hqy, q⟩ := q1
  subst ex
  obtain rfl : us = [Value.ref a, Value.ref b] := by
    cases r1 with
    | cons h1 t1 =>
      cases t1 with
      | cons h2 t2 => cases t2; cases h1; cases h2; rfl
  obtain ⟨its, rv, p1, _⟩ := I1.list hqx
  obtain ⟨its2, rv2, p2, _⟩ := I1.tuple hqy
  have la : a < s1.heap.objs.size := p1.lt
  have lb : b < s1.heap.objs.size := p2.lt
  refine zip_begins2 (begins_list a its.toArray) (begins_tuple b its2.toArray) p1.isList (show s1.heap.IsTuple b its2.toArray from p2) fun h' hz hTI hTO g1 g2 hsz hk => wpAny_pyIter_zip hz ?_
  have I2 : Inv X pins σ H1 { s1 with heap := h' } := I1.kept (t' := s1.toks) hk
  have S := zip_sep2 (N := s1.heap.objs.size) (fp1 := [a]) (fp2 := [b]) (fun c hc => by rw [List.mem_singleton.mp hc]; exact la) (fun c hc => by rw [List.mem_singleton.mp hc]; exact lb)
  refine ⟨s1.heap.objs.size + 4, [s1.heap.objs.size + 4, s1.heap.objs.size + 2, s1.heap.objs.size + 3, s1.heap.objs.size, s1.heap.objs.size + 1], _, _, H1, rfl, I2,
    turn_zipM S (Nat.ne_of_lt la) (Nat.ne_of_lt (Nat.lt_succ_of_lt lb)) (Nat.ne_of_lt (Nat.lt_of_lt_of_le lb (Nat.le_add_right _ _))), ⟨hz, hTI, ⟨_, _, hTO⟩, ⟨_, g1, rfl, rfl⟩, ⟨_, g2, rfl, rfl⟩⟩, fun c hcm => ?_, q⟩
  have e' : c = s1.heap.objs.size + 4 ∨ c = s1.heap.objs.size + 2 ∨ c = s1.heap.objs.size + 3 ∨ c = s1.heap.objs.size ∨ c = s1.heap.objs.size + 1 := by simpa using hcm
  have hle : s1.heap.objs.size ≤ c := by
    rcases e' with z | z | z | z | z
    · rw [z]; exact Nat.le_add_right _ _
    · rw [z]; exact Nat.le_add_right _ _
    · rw [z]; exact Nat.le_add_right _ _
    · rw [z]; exact Nat.le_refl _
    · rw [z]; exact Nat.le_add_right _ _
  exact I1.fpOk hle (I1.hok.fresh hle)
theorem walk_zipM {K : PySem.W.Frag} {a b : Addr} {xs ys : List V} (hl : xs.length = ys.length) : Walk (ItzM K a b) xs.length (fun H => SqL K H a xs ∧ SqT K H b ys) (YPair (fun i => xs[i]?) (fun i => ys[i]?)) := by
  refine ⟨fun i H hi q => ?_, fun H q => ⟨xs, ys, q.1, q.2, hl, rfl⟩, fun i H v H' _ q y => ?_⟩
  · exact ⟨xs, ys, xs[i], ys[i], q.1, q.2, List.getElem?_eq_getElem hi, List.getElem?_eq_getElem (by omega)⟩
  · obtain ⟨T, x, z, h1, h2, h3, h4, h5⟩ := y
    exact ⟨T, x, z, h1, h2, h3, h4 xs q.1, h5 ys q.2⟩
end My
namespace My
open PySem L2
def top (i : Nat) : Stmt := PySem.Challenge.pw_matchclocks_k93_whole_hands_at_several_c.main.body.getD i (.Pass ⟨0, 0, 0, 0⟩)
def inClass (st : Stmt) (i : Nat) : Stmt := (C8.clsBody st).getD i (.Pass ⟨0, 0, 0, 0⟩)
abbrev MOST : Int := 10 ^ 30
abbrev nV (n : Nat) : V := V.int (n : Int)
/-- what the module's names hold -/
structure Gb (mg : Str → Option Value) : Prop where
  len : mg "len" = none
  range : mg "range" = none
  min : mg "min" = none
  max : mg "max" = none
  abs : mg "abs" = none
  int : mg "int" = none
  tuple : mg "tuple" = none
  list : mg "list" = none
  isinstance : mg "isinstance" = none
  enumerate : mg "enumerate" = none
  zip : mg "zip" = none
  sorted : mg "sorted" = none
  all : mg "all" = none
  bool : mg "bool" = none
  MOST_BOARDS : ∃ u, mg "MOST_BOARDS" = some u ∧ RelV (.int 3) u
  MOST_WORK : ∃ u, mg "MOST_WORK" = some u ∧ RelV (.int 6) u
  MOST_LIMIT : ∃ u, mg "MOST_LIMIT" = some u ∧ RelV (.int 12) u
  MOST_LATEST : ∃ u, mg "MOST_LATEST" = some u ∧ RelV (.int 8) u
  MOST_STANDINGS : ∃ u, mg "MOST_STANDINGS" = some u ∧ RelV (.int 2000) u
  WAIT : ∃ u, mg "WAIT" = some u ∧ RelV (.int (-1)) u
  HAND : ∃ u, mg "HAND" = some u ∧ RelV (.int 0) u
  OTHER : ∃ u, mg "OTHER" = some u ∧ RelV (.int 1) u
  KEPT : ∃ u, mg "KEPT" = some u ∧ RelV (.str "kept") u
  FALLS : ∃ u, mg "FALLS" = some u ∧ RelV (.str "falls") u
  MOST : ∃ u, mg "MOST" = some u ∧ RelV (.int MOST) u
  MOST_ALLOWANCE : ∃ u, mg "MOST_ALLOWANCE" = some u ∧ RelV (.int 9) u
  MOST_STAGES : ∃ u, mg "MOST_STAGES" = some u ∧ RelV (.int 3) u
  MOST_STAGE_MOVES : ∃ u, mg "MOST_STAGE_MOVES" = some u ∧ RelV (.int 6) u
  MOST_GAIN : ∃ u, mg "MOST_GAIN" = some u ∧ RelV (.int 60) u
  MOST_STATES : ∃ u, mg "MOST_STATES" = some u ∧ RelV (.int 12) u
  TIMES : ∃ u, mg "TIMES" = some u ∧ RelV (.int 10) u
  MOST_LENGTH : ∃ u, mg "MOST_LENGTH" = some u ∧ RelV (.int 60) u
/-! ### the rules with the written part as a letter -/
section
variable {X : Cx} (K : PySem.W.Frag)
def rLenK (K : PySem.W.Frag) : List V → Hp → VK → Prop := fun xs H Q => ∃ p ys, xs = [.ref p] ∧ (SqL K H p ys ∨ SqT K H p ys) ∧ Q (.int ys.length) H
def rTupK (K : PySem.W.Frag) : List V → Hp → VK → Prop := fun xs H Q => ∃ p ys, xs = [.ref p] ∧ ((SqL K H p ys ∧ ∀ l, H l = none → Q (.ref l) (upd H l (.tup ys))) ∨ (SqT K H p ys ∧ Q (.ref p) H))
theorem ix_listK (hK : X.K = K) : IxR X (rIxL K) := hK ▸ ix_list
theorem ix_tupK (hK : X.K = K) : IxR X (rIxT K) := hK ▸ ix_tup
theorem call_lenK (hK : X.K = K) : CallR X (.builtin "len") (rLenK K) := hK ▸ call_len_seq
theorem call_tupK (hK : X.K = K) : CallR X (.type "tuple") (rTupK K) := hK ▸ call_tuple_of
theorem op_inK (hK : X.K = K) : OpR X (compareOp .In) (rIn K false) := hK ▸ op_in_seq
theorem op_notInK (hK : X.K = K) : OpR X (compareOp .NotIn) (rIn K true) := hK ▸ op_notIn_seq
theorem pi_listK {tg l : Expr} {tl : TE} (hK : X.K = K) (hl : PE X l tl) : PI X tg l (iList K tl) := hK ▸ pi_list hl
theorem pi_tupK {tg l : Expr} {tl : TE} (hK : X.K = K) (hl : PE X l tl) : PI X tg l (iTup K tl) := hK ▸ pi_tup hl
theorem pe_fldK {e : Expr} {f : Str} {pos : Pos} {ta : TE} (hK : X.K = K) (he : PE X e ta) (hb : attributeBase e f X.env (eval e X.env) = eval e X.env) : PE X (.Attribute e f pos) (tFld K ta f) := hK ▸ pe_fld he hb
end
theorem yes_go {σ : L2.St} {H : Hp} {A B : Hp → Prop} (h : A H) : tYes σ H (fun b H3 => if b = true then A H3 else B H3) := by
  show if true = true then A H else B H
  exact iteT h
theorem ifF {c A B : Prop} [Decidable c] (hc : ¬ c) (h : B) : if decide c = true then A else B := by
  rw [decide_eq_false hc]
  exact iteF h
theorem ifT {c A B : Prop} [Decidable c] (hc : c) (h : A) : if decide c = true then A else B := by
  rw [decide_eq_true hc]
  exact iteT h
theorem ifNT {c A B : Prop} [Decidable c] (hc : ¬ c) (h : A) : if (!decide c) = true then A else B := by
  rw [decide_eq_false hc]
  exact iteT h
theorem ifNF {c A B : Prop} [Decidable c] (hc : c) (h : B) : if (!decide c) = true then A else B := by
  rw [decide_eq_true hc]
  exact iteF h
theorem paired_at {α β : Type} {F : α → β → Prop} : ∀ {l : List α} {m : List β} {i : Nat} {a : α}, Paired F l m → l[i]? = some a → ∃ b, m[i]? = some b ∧ F a b
  | _, _, _, _, .nil, e => by simp at e
  | _, _, 0, _, .cons r _, e => by simp at e; subst e; exact ⟨_, rfl, r⟩
  | _, _, i + 1, _, .cons _ t, e => by
    obtain ⟨b, h1, h2⟩ := paired_at (i := i) t (by simpa using e)
    exact ⟨b, by simpa using h1, h2⟩
theorem paired_at2 {α β : Type} {F : α → β → Prop} : ∀ {l : List α} {m : List β} {i : Nat} {b : β}, Paired F l m → m[i]? = some b → ∃ a, l[i]? = some a ∧ F a b
  | _, _, _, _, .nil, e => by simp at e
  | _, _, 0, _, .cons r _, e => by simp at e; subst e; exact ⟨_, rfl, r⟩
  | _, _, i + 1, _, .cons _ t, e => by
    obtain ⟨a, h1, h2⟩ := paired_at2 (i := i) t (by simpa using e)
    exact ⟨a, by simpa using h1, h2⟩
theorem at_map {α β : Type} {f : α → β} {l : List α} {i : Nat} {b : β} (h : (l.map f)[i]? = some b) : ∃ a, l[i]? = some a ∧ b = f a := by
  rw [List.getElem?_map] at h
  cases e : l[i]? with
  | none => rw [e] at h; cases h
  | some a => rw [e] at h; exact ⟨a, rfl, (Option.some.inj h).symm⟩
theorem at_ex {α : Type} {l : List α} {i : Nat} (h : i < l.length) : ∃ a, l[i]? = some a := ⟨l[i], List.getElem?_eq_getElem h⟩
theorem take_snoc {α : Type} {l : List α} {i : Nat} {a : α} (h : l[i]? = some a) : l.take (i + 1) = l.take i ++ [a] := by
  rw [List.take_add_one, h]
  rfl
/-- everything that stands still stands, as it was -/
def Same (H H' : Hp) : Prop := ∀ b o, H b = some o → H' b = some o
theorem Same.refl (H : Hp) : Same H H := fun _ _ e => e
theorem Same.trans {H H' H'' : Hp} (a : Same H H') (b : Same H' H'') : Same H H'' := fun x o e => b x o (a x o e)
theorem ne_of_none' {H : Hp} {a b : Addr} {o : HO} (h1 : H a = some o) (h2 : H b = none) : a ≠ b := fun z => by
  rw [z, h2] at h1
  cases h1
theorem same_new {H H' : Hp} {p : Addr} {o : HO} (e : Same H H') (h : H' p = none) : Same H (upd H' p o) := fun b u q => by
  rw [upd_ne (ne_of_none' (e b u q) h)]
  exact e b u q
theorem same_mut {H H' : Hp} {p : Addr} {o : HO} (e : Same H H') (h : H p = none) : Same H (upd H' p o) := fun b u q => by
  rw [upd_ne (ne_of_none' q h)]
  exact e b u q
theorem Same.free {H H' : Hp} (e : Same H H') {a : Addr} (h : H' a = none) : H a = none := by
  cases q : H a with
  | none => rfl
  | some o =>
    have := e _ _ q
    rw [h] at this
    cases this
theorem Same.tup {K : PySem.W.Frag} {H H' : Hp} {a : Addr} {xs : List V} (e : Same H H') (h : SqT K H a xs) : SqT K H' a xs := by
  rcases h with (h | ⟨o, h⟩) | h
  · exact .inl (.inl (e _ _ h))
  · exact .inl (.inr ⟨o, e _ _ h⟩)
  · exact .inr h
theorem Same.seq {K : PySem.W.Frag} {H H' : Hp} {a : Addr} {xs : List V} (e : Same H H') (h : SqL K H a xs) : SqL K H' a xs := by
  rcases h with (h | ⟨o, h⟩) | h
  · exact .inl (.inl (e _ _ h))
  · exact .inl (.inr ⟨o, e _ _ h⟩)
  · exact .inr h
theorem Same.key {K : PySem.W.Frag} {H H' : Hp} {k : NK} {v : V} (e : Same H H') (h : KeyV K H k v) : KeyV K H' k v := h.up fun _ _ q => e.tup q
theorem size_le {n : Nat} (h : n ≤ 100000) : n ≤ sizeLine := Nat.le_trans h (by decide)
theorem size_lt {n : Nat} (h : n < 100000) : n < sizeLine := Nat.lt_of_lt_of_le h (by decide)
theorem nV_at {ns : List Nat} {i n : Nat} (h : ns[i]? = some n) : (ns.map nV)[i]? = some (nV n) := by rw [List.getElem?_map, h]; rfl
/-! ### boards, standings -/
structure Bd where
  work : Nat
  limit : Nat
  soon : Nat
  late : Nat
structure Bd.Ok (b : Bd) : Prop where
  w1 : 1 ≤ b.work
  w2 : b.work ≤ 6
  l1 : 1 ≤ b.limit
  l2 : b.limit ≤ 12
  s1 : 1 ≤ b.soon
  s2 : b.soon ≤ b.late
  a2 : b.late ≤ 8
def Bd.vs (b : Bd) : List V := [nV b.work, nV b.limit, nV b.soon, nV b.late]
def BdV (K : PySem.W.Frag) (H : Hp) (v : V) (b : Bd) : Prop := ∃ a, v = .ref a ∧ SqT K H a b.vs
theorem BdV.mono {K : PySem.W.Frag} {H H' : Hp} {v : V} {b : Bd} (s : Same H H') (h : BdV K H v b) : BdV K H' v b := let ⟨a, e, q⟩ := h; ⟨a, e, s.tup q⟩
structure BdsAt (K : PySem.W.Frag) (H : Hp) (a : Addr) (bs : List Bd) : Prop where
  ex : ∃ vs, SqL K H a vs ∧ Paired (BdV K H) vs bs
theorem BdsAt.mono {K : PySem.W.Frag} {H H' : Hp} {a : Addr} {bs : List Bd} (s : Same H H') (h : BdsAt K H a bs) : BdsAt K H' a bs := by
  obtain ⟨vs, h1, h2⟩ := h.ex
  exact ⟨vs, s.seq h1, L2.Paired.mapP h2 fun _ _ => BdV.mono s⟩
structure BdsOk (bs : List Bd) : Prop where
  n1 : 1 ≤ bs.length
  n2 : bs.length ≤ 2
  ok : ∀ b ∈ bs, b.Ok
abbrev Pl := List (Nat × Nat)
def pairK (p : Nat × Nat) : NK := .tup [.num (p.1 : Int), .num (p.2 : Int)]
def pk (pl : Pl) : NK := .tup (pl.map pairK)
/-- a pair of a standing on a board -/
def okP (b : Bd) (p : Nat × Nat) : Prop := (p.1 = 0 ∧ p.2 ≤ b.limit) ∨ (p.1 = 1 ∧ p.2 < b.late)
/-- a standing of the boards -/
def okPl : List Bd → Pl → Prop
  | [], [] => True
  | b :: bs, p :: ps => okP b p ∧ okPl bs ps
  | _, _ => False
def PairV (K : PySem.W.Frag) (H : Hp) (v : V) (p : Nat × Nat) : Prop := ∃ a, v = .ref a ∧ SqT K H a [nV p.1, nV p.2]
theorem PairV.mono {K : PySem.W.Frag} {H H' : Hp} {v : V} {p : Nat × Nat} (s : Same H H') (h : PairV K H v p) : PairV K H' v p := let ⟨a, e, q⟩ := h; ⟨a, e, s.tup q⟩
theorem pairV_key {K : PySem.W.Frag} {H : Hp} {v : V} {p : Nat × Nat} (h : PairV K H v p) : KeyV K H (pairK p) v := by
  obtain ⟨a, rfl, q⟩ := h
  exact .tup q (.cons (.num _) (.cons (.num _) .nil))
theorem key_pairV {K : PySem.W.Frag} {H : Hp} {v : V} {p : Nat × Nat} (h : KeyV K H (pairK p) v) : PairV K H v p := by
  unfold pairK at h
  cases h with
  | tup q k =>
    cases k with
    | cons k1 k =>
      cases k with
      | cons k2 k =>
        cases k
        cases k1
        cases k2
        exact ⟨_, rfl, q⟩
/-- v is the standing pl -/
def PlV (K : PySem.W.Frag) (H : Hp) (v : V) (pl : Pl) : Prop := ∃ a xs, v = .ref a ∧ SqT K H a xs ∧ Paired (PairV K H) xs pl
theorem PlV.mono {K : PySem.W.Frag} {H H' : Hp} {v : V} {pl : Pl} (s : Same H H') (h : PlV K H v pl) : PlV K H' v pl := let ⟨a, xs, e, q, r⟩ := h; ⟨a, xs, e, s.tup q, L2.Paired.mapP r fun _ _ => PairV.mono s⟩
theorem plV_key {K : PySem.W.Frag} {H : Hp} {v : V} {pl : Pl} (h : PlV K H v pl) : KeyV K H (pk pl) v := by
  obtain ⟨a, xs, rfl, q, r⟩ := h
  refine .tup q ?_
  clear q
  induction r with
  | nil => exact .nil
  | cons h _ ih => exact .cons (pairV_key h) ih
theorem keys_pairs {K : PySem.W.Frag} {H : Hp} : ∀ {pl : Pl} {xs : List V}, KeysV K H (pl.map pairK) xs → Paired (PairV K H) xs pl
  | [], _, h => by cases h; exact .nil
  | p :: pl, _, h => by
    cases h with
    | cons h1 h2 => exact .cons (key_pairV h1) (keys_pairs h2)
theorem key_plV {K : PySem.W.Frag} {H : Hp} {v : V} {pl : Pl} (h : KeyV K H (pk pl) v) : PlV K H v pl := by
  unfold pk at h
  cases h with
  | tup q k => exact ⟨_, _, rfl, q, keys_pairs k⟩
theorem pk_depth (pl : Pl) : (pk pl).depth ≤ 8 := by
  have h : ∀ l : Pl, NestedKey.depthAll (l.map pairK) ≤ 1 := by
    intro l
    induction l with
    | nil => exact Nat.zero_le _
    | cons p l ih =>
      show max (pairK p).depth (NestedKey.depthAll (l.map pairK)) ≤ 1
      have : (pairK p).depth = 1 := rfl
      omega
  have := h pl
  show NestedKey.depthAll (pl.map pairK) + 1 ≤ 8
  omega
theorem pairK_inj {p q : Nat × Nat} (h : pairK p = pairK q) : p = q := by
  unfold pairK at h
  injection h with h
  injection h with h1 h
  injection h with h2 _
  injection h1 with h1
  injection h2 with h2
  exact Prod.ext (Int.ofNat.inj h1) (Int.ofNat.inj h2)
theorem pk_inj {p q : Pl} (h : pk p = pk q) : p = q := by
  unfold pk at h
  injection h with h
  exact (List.map_inj_right fun _ _ => pairK_inj).mp h
end My
namespace My
open PySem L2
section
variable {P : Program} {w : World} {K : PySem.W.Frag} {mg : Str → Option Value} {base : Heap}
abbrev s_board_fits : Stmt := top 20
abbrev N_board_fits : List Str := ["board", "work", "limit", "soonest", "latest"]
theorem sc_board_fits : FnScope N_board_fits ["board"] (C8.fnScope s_board_fits) := C8.fnScope_by (by decide +kernel)
def sp_board_fits (K : PySem.W.Frag) : Sp := fun vs H Q _ => ∃ (v : V) (b : Bd), vs = [v] ∧ BdV K H v b ∧ b.Ok ∧ Q (.bl true) H
theorem ok_board_fits {f : Addr} {fd : FuncData} (F : C8.Def K mg "board_fits" s_board_fits f fd) (b : Binds K fd ["board"] []) (T : Gb mg) : C8.Cal P w K mg base 1 "board_fits" (sp_board_fits K) [] := by
  refine C8.cal0 F b .nil sc_board_fits (fun vs H Q E h => ?_) (fun cdv A outer s H vs Q E hr h => ?_)
  · obtain ⟨v, b, rfl, _⟩ := h
    rfl
  · obtain ⟨v, b, rfl, ⟨a, rfl, ha⟩, ⟨w1, w2, l1, l2, s1, s2, a2⟩, q⟩ := h
    refine ⟨_, (pss_cons (ps_asg (pv 0) (pg_tup (by rfl) (pgs_cons (pg_name (i := 1) sc_board_fits.nd rfl (Or.inl rfl)) (pgs_cons (pg_name (i := 2) sc_board_fits.nd rfl (Or.inl rfl)) (pgs_cons (pg_name (i := 3) sc_board_fits.nd rfl (Or.inl rfl)) (pgs_cons (pg_name (i := 4) sc_board_fits.nd rfl (Or.inl rfl)) pgs_nil))))))
(pss_cons (ps_if (PW.pt (pw_or (pt_cmpR op_lt (pv 1) pe_int (nomark _)) (pw_or (pt_cmpR op_gt (pv 1) (C8.pe_gc (by rfl) T.MOST_WORK) (nomark _)) (pw_or (pt_cmpR op_lt (pv 2) pe_int (nomark _)) (pw_or1 (pt_cmpR op_gt (pv 2) (C8.pe_gc (by rfl) T.MOST_LIMIT) (nomark _)))))))
(pss_one (ps_ret pe_bl))
pss_nil)
(pss_one (ps_ret (pe_and (pe_cmpR op_ge (pv 3) pe_int (nomark _)) (pe_and (pe_cmpR op_le (pv 3) (pv 4) (nomark _)) (pe_one (pe_cmpR op_le (pv 4) (C8.pe_gc (by rfl) T.MOST_LATEST) (nomark _))))))))), ?_⟩
    refine ⟨_, rfl, a, _, rfl, ha, rfl, _, _, rfl, _, _, rfl, _, _, rfl, _, _, rfl, rfl, ?_⟩
    refine ⟨_, rfl, _, _, rfl, rfl, _, rfl, ?_⟩
    refine ifF (by omega) ?_
    refine ⟨_, rfl, _, _, rfl, rfl, _, rfl, ?_⟩
    refine ifF (by omega) ?_
    refine ⟨_, rfl, _, _, rfl, rfl, _, rfl, ?_⟩
    refine ifF (by omega) ?_
    refine ⟨_, rfl, _, _, rfl, rfl, _, rfl, ?_⟩
    refine ifF (by omega) ?_
    refine ⟨_, rfl, _, _, rfl, rfl, _, rfl, ?_⟩
    refine ifT (by omega) ?_
    refine ⟨_, rfl, _, rfl, _, _, rfl, rfl, _, rfl, ?_⟩
    refine ifT (by omega) ?_
    refine ⟨_, rfl, _, _, rfl, rfl, ?_⟩
    show Q (V.bl (decide ((b.late : Int) ≤ 8))) H
    rw [decide_eq_true (show (b.late : Int) ≤ 8 by omega)]
    exact q
abbrev s_checked_boards : Stmt := top 21
abbrev N_checked_boards : List Str := ["boards", "many", "index", "board"]
theorem sc_checked_boards : FnScope N_checked_boards ["boards"] (C8.fnScope s_checked_boards) := C8.fnScope_by (by decide +kernel)
def manyB (bs : List Bd) : Nat := bs.foldl (fun m b => m * (b.limit + 1 + b.late)) 1
theorem manyB_snoc (bs : List Bd) (b : Bd) : manyB (bs ++ [b]) = manyB bs * (b.limit + 1 + b.late) := by unfold manyB; rw [List.foldl_append]; rfl
theorem manyB_le {bs : List Bd} (h : BdsOk bs) : manyB bs ≤ 441 := by
  obtain ⟨h1, h2, h3⟩ := h
  match bs, h1, h2, h3 with
  | [a], _, _, h3 =>
    have o := h3 a (by simp)
    have e1 := o.l2
    have e2 := o.a2
    show 1 * (a.limit + 1 + a.late) ≤ 441
    omega
  | [a, b], _, _, h3 =>
    have o := h3 a (by simp)
    have p := h3 b (by simp)
    have e1 := o.l2
    have e2 := o.a2
    have e3 := p.l2
    have e4 := p.a2
    show 1 * (a.limit + 1 + a.late) * (b.limit + 1 + b.late) ≤ 441
    have : 1 * (a.limit + 1 + a.late) * (b.limit + 1 + b.late) ≤ 21 * 21 := Nat.mul_le_mul (by omega) (by omega)
    omega
  | _ :: _ :: _ :: _, _, h2, _ => exact absurd h2 (by simp)
theorem manyB_take {bs : List Bd} (h : BdsOk bs) (i : Nat) : manyB (bs.take i) ≤ 441 := by
  have n1 := h.n1
  have n2 := h.n2
  by_cases e : i = 0
  · subst e
    show 1 ≤ 441
    decide
  · exact manyB_le ⟨by rw [List.length_take]; omega, by rw [List.length_take]; omega, fun b hb => h.ok b (List.mem_of_mem_take hb)⟩
def sp_checked_boards (K : PySem.W.Frag) : Sp := fun vs H Q _ => ∃ (a : Addr) (bs : List Bd), vs = [.ref a] ∧ BdsAt K H a bs ∧ BdsOk bs ∧ ∀ (l : Addr) H', Same H H' → BdsAt K H' l bs → Q (.ref l) H'
theorem ok_checked_boards {f : Addr} {fd : FuncData} (F : C8.Def K mg "checked_boards" s_checked_boards f fd) (b : Binds K fd ["boards"] []) (T : Gb mg) (c_board_fits : C8.Cal P w K mg base 1 "board_fits" (sp_board_fits K) []) : C8.Cal P w K mg base 2 "checked_boards" (sp_checked_boards K) [] := by
  refine C8.cal0 F b .nil sc_checked_boards (fun vs H Q E h => ?_) (fun cdv A outer s H vs Q E hr h => ?_)
  · obtain ⟨a, bs, rfl, _⟩ := h
    rfl
  · obtain ⟨a, bs, rfl, hB, hok, q⟩ := h
    obtain ⟨xs, hxs, hxp⟩ := hB.ex
    have hl := hxp.length
    have n1 := hok.n1
    have n2 := hok.n2
    have hm := manyB_le hok
    refine ⟨_, (pss_cons (ps_if (PW.pt (pw_or (pt_cmpR op_lt (pe_callB (call_lenK K rfl) (by rfl) T.len PySem.boot_len (pa_cons (pv 0) pa_nil)) pe_int (nomark _)) (pw_or1 (pt_cmpR op_gt (pe_callB (call_lenK K rfl) (by rfl) T.len PySem.boot_len (pa_cons (pv 0) pa_nil)) (C8.pe_gc (by rfl) T.MOST_BOARDS) (nomark _)))))
(pss_one ps_never)
pss_nil)
(pss_cons (ps_set (i := 1) sc_checked_boards.nd rfl (Or.inl rfl) pe_int)
(pss_cons (ps_for PassesOwn.never rfl (pi_enum (by rfl) T.enumerate (pa_cons (pv 0) pa_nil)) (pg_tup (by rfl) (pgs_cons (pg_name (i := 2) sc_checked_boards.nd rfl (Or.inl rfl)) (pgs_cons (pg_name (i := 3) sc_checked_boards.nd rfl (Or.inl rfl)) pgs_nil)))
(pss_cons (ps_if (pt_not (pt_val (C8.pe_c c_board_fits hr (by decide) (by rfl) (pa_cons (pv 3) pa_nil))))
(pss_one ps_never)
pss_nil)
(pss_one (ps_set (i := 1) sc_checked_boards.nd rfl (Or.inl rfl) (pe_op op_mul (pv 1) (pe_op op_add (pe_op op_add (pe_ix (ix_tupK K rfl) (pv 3) pe_int (fun _ _ => rfl)) pe_int) (pe_ix (ix_tupK K rfl) (pv 3) pe_int (fun _ _ => rfl))))))))
(pss_cons (ps_if (pt_cmpR op_gt (pv 1) (C8.pe_gc (by rfl) T.MOST_STANDINGS) (nomark _))
(pss_one ps_never)
pss_nil)
(pss_one (ps_ret (pe_lc (own := [("board", 3)]) rfl sc_checked_boards.nd (pi_listK K rfl (pv 0)) (blkOk_by (N := N_checked_boards) (sc := C8.fnScope s_checked_boards) (by decide +kernel)) (fun _ _ _ _ _ => (pg_name (i := 3) sc_checked_boards.nd rfl (Or.inl rfl))) (fun _ _ _ _ _ => pts_nil) (fun _ _ _ _ _ => (pe_callTy (call_tupK K rfl) (by rfl) T.tuple (by decide +kernel) (pa_cons (pv 3) pa_nil)))))))))), ?_⟩
    refine ⟨_, rfl, a, xs, rfl, .inl hxs, _, _, rfl, rfl, _, rfl, ?_⟩
    refine ifF (by omega) ?_
    refine ⟨_, rfl, a, xs, rfl, .inl hxs, _, _, rfl, rfl, _, rfl, ?_⟩
    refine ifF (by omega) ?_
    refine ⟨_, rfl, a, xs, rfl, hxs, for_it (walk_enum (xs := xs)) (fun i σ H' => Same H H' ∧ ∃ v2 v3, σ = [some (.ref a), some (nV (manyB (bs.take i))), v2, v3])
      ⟨Same.refl H, _, _, rfl⟩ (fun i σ H' _ h => h.1.seq hxs) ?_ ?_⟩
    · rintro i v σ H1 H1' hi ⟨sm1, v2, v3, rfl⟩ ⟨t, x, y, rfl, ht, rfl, hx, hy⟩
      cases hx
      obtain ⟨bd, hbd, hbv⟩ := paired_at hxp hy
      have smt := same_new (o := .tup [.int (i : Int), y]) sm1 ht
      have hb2 := hbv.mono smt
      refine ⟨t, _, rfl, SqT.of upd_same, rfl, _, _, rfl, _, _, rfl, rfl, ?_⟩
      refine ⟨_, rfl, y, bd, rfl, hb2, hok.ok bd (List.mem_of_getElem? hbd), true, rfl, ?_⟩
      refine iteF ?_
      obtain ⟨ba, rfl, hba⟩ := hb2
      refine ⟨_, rfl, _, rfl, ba, _, 1, nV bd.limit, rfl, rfl, hba, rfl, _, _, rfl, rfl, _, rfl, ba, _, 3, nV bd.late, rfl, rfl, hba, rfl, _, _, rfl, rfl, _, _, rfl, rfl, ?_, ?_⟩
      · have h1 := manyB_take hok i
        have h2 := (hok.ok bd (List.mem_of_getElem? hbd)).l2
        have h3 := (hok.ok bd (List.mem_of_getElem? hbd)).a2
        exact .inr ⟨by omega, by omega⟩
      refine ⟨smt, some (.int (i : Int)), some (.ref ba), ?_⟩
      rw [take_snoc hbd, manyB_snoc]
      rfl
    · rintro σ H1 ⟨sm1, v2, v3, rfl⟩
      rw [hl, List.take_length]
      refine ⟨_, rfl, _, _, rfl, rfl, _, rfl, ?_⟩
      refine ifF (by omega) ?_
      have hx1 := sm1.seq hxs
      refine ⟨_, rfl, a, rfl, ⟨_, hx1⟩, fun D hD => lc_it (walk_list (xs := xs)) (fun i H' => Same H1 H' ∧ H' D = some (.lst (xs.take i))) ⟨same_new (Same.refl _) hD, upd_same⟩ (fun i H' _ h => h.1.seq hx1) ?_ ?_⟩
      · rintro i x H2 H2' hi ⟨sm2, hD2⟩ ⟨rfl, hx⟩
        obtain ⟨bd, hbd, hbv⟩ := paired_at hxp hx
        obtain ⟨ba, rfl, hba⟩ := hbv.mono (sm1.trans sm2)
        refine ⟨rfl, yes_go ?_⟩
        refine ⟨_, rfl, ba, _, rfl, .inr ⟨hba, ?_⟩⟩
        refine ⟨_, hD2, size_lt (by rw [List.length_take]; omega), same_mut sm2 hD, ?_⟩
        rw [upd_same, take_snoc hx]
      · rintro H2 ⟨sm2, hD2⟩
        rw [List.take_length] at hD2
        have sm := sm1.trans sm2
        exact q D H2 sm ⟨xs, SqL.of hD2, L2.Paired.mapP hxp fun _ _ => BdV.mono sm⟩
end
end My
namespace My
open PySem L2
theorem okPl_len : ∀ {bs : List Bd} {pl : Pl}, okPl bs pl → pl.length = bs.length
  | [], [], _ => rfl
  | b :: bs, p :: ps, h => by
    rw [List.length_cons, List.length_cons, okPl_len h.2]
  | [], _ :: _, h => h.elim
  | _ :: _, [], h => h.elim
theorem okPl_at : ∀ {bs : List Bd} {pl : Pl}, okPl bs pl → ∀ {i : Nat} {b : Bd} {p : Nat × Nat}, bs[i]? = some b → pl[i]? = some p → okP b p
  | [], [], _, i, b, p, h1, _ => by simp at h1
  | b0 :: bs, p0 :: ps, h, i, b, p, h1, h2 => by
    cases i with
    | zero => cases h1; cases h2; exact h.1
    | succ i => exact okPl_at h.2 (i := i) (by simpa using h1) (by simpa using h2)
  | [], _ :: _, h, _, _, _, _, _ => h.elim
  | _ :: _, [], h, _, _, _, _, _ => h.elim
section
variable {P : Program} {w : World} {K : PySem.W.Frag} {mg : Str → Option Value} {base : Heap}
abbrev s_as_standing : Stmt := top 22
abbrev N_as_standing : List Str := ["pairs", "pair"]
theorem sc_as_standing : FnScope N_as_standing ["pairs"] (C8.fnScope s_as_standing) := C8.fnScope_by (by decide +kernel)
abbrev s_is_standing : Stmt := top 23
abbrev N_is_standing : List Str := ["boards", "standing", "board", "turn", "age"]
theorem sc_is_standing : FnScope N_is_standing ["boards", "standing"] (C8.fnScope s_is_standing) := C8.fnScope_by (by decide +kernel)
def sp_is_standing (K : PySem.W.Frag) : Sp := fun vs H Q _ => ∃ (ba : Addr) (v : V) (bs : List Bd) (pl : Pl), vs = [.ref ba, v] ∧ BdsAt K H ba bs ∧ PlV K H v pl ∧ okPl bs pl ∧ ∀ H', Same H H' → Q (.bl true) H'
theorem ok_is_standing {f : Addr} {fd : FuncData} (F : C8.Def K mg "is_standing" s_is_standing f fd) (b : Binds K fd ["boards", "standing"] []) (T : Gb mg) : C8.Cal P w K mg base 1 "is_standing" (sp_is_standing K) [] := by
  refine C8.cal0 F b .nil sc_is_standing (fun vs H Q E h => ?_) (fun cdv A outer s H vs Q E hr h => ?_)
  · obtain ⟨ba, v, bs, pl, rfl, _⟩ := h
    rfl
  · obtain ⟨ba, v, bs, pl, rfl, hB, hP, hok, q⟩ := h
    obtain ⟨xs, hxs, hxp⟩ := hB.ex
    obtain ⟨a, ys, rfl, hys, hyp⟩ := hP
    have hl := okPl_len hok
    have l1 := hxp.length
    have l2 := hyp.length
    have hxy : xs.length = ys.length := by omega
    refine ⟨_, (pss_cons (ps_if (pt_cmpR op_ne (pe_callB (call_lenK K rfl) (by rfl) T.len PySem.boot_len (pa_cons (pv 1) pa_nil)) (pe_callB (call_lenK K rfl) (by rfl) T.len PySem.boot_len (pa_cons (pv 0) pa_nil)) (nomark _))
(pss_one (ps_ret pe_bl))
pss_nil)
(pss_cons (ps_for PassesOwn.never rfl (pi_zipM (K := K) rfl (by rfl) T.zip (pa_cons (pv 0) (pa_cons (pv 1) pa_nil))) (pg_tup (by rfl) (pgs_cons (pg_name (i := 2) sc_is_standing.nd rfl (Or.inl rfl)) (pgs_cons (pg_tup (by rfl) (pgs_cons (pg_name (i := 3) sc_is_standing.nd rfl (Or.inl rfl)) (pgs_cons (pg_name (i := 4) sc_is_standing.nd rfl (Or.inl rfl)) pgs_nil))) pgs_nil)))
(pss_one (ps_if (pt_cmpR op_eq (pv 3) (C8.pe_gc (by rfl) T.HAND) (nomark _))
(pss_one (ps_if (PW.pt (pw_or (pt_cmpR op_lt (pv 4) pe_int (nomark _)) (pw_or1 (pt_cmpR op_gt (pv 4) (pe_ix (ix_tupK K rfl) (pv 2) pe_int (fun _ _ => rfl)) (nomark _)))))
(pss_one (ps_ret pe_bl))
pss_nil))
(pss_one (ps_if (PW.pt (pw_or (pt_cmpR op_ne (pv 3) (C8.pe_gc (by rfl) T.OTHER) (nomark _)) (pw_or (pt_cmpR op_lt (pv 4) pe_int (nomark _)) (pw_or1 (pt_cmpR op_ge (pv 4) (pe_ix (ix_tupK K rfl) (pv 2) pe_int (fun _ _ => rfl)) (nomark _))))))
(pss_one (ps_ret pe_bl))
pss_nil)))))
(pss_one (ps_ret pe_bl)))), ?_⟩
    refine ⟨_, rfl, a, ys, rfl, .inr hys, _, rfl, ba, xs, rfl, .inl hxs, rfl, _, rfl, ?_⟩
    refine ifNF (by rw [hxy]) ?_
    refine ⟨_, rfl, _, rfl, ba, a, xs, ys, rfl, hxs, hys, for_it (walk_zipM hxy) (fun i σ H' => Same H H' ∧ ∃ v2 v3 v4, σ = [some (.ref ba), some (.ref a), v2, v3, v4])
      ⟨Same.refl H, _, _, _, rfl⟩ (fun i σ H' _ h => ⟨h.1.seq hxs, h.1.tup hys⟩) ?_ ?_⟩
    · rintro i v σ H1 H1' hi ⟨sm1, v2, v3, v4, rfl⟩ ⟨t, x, y, rfl, ht, rfl, hx, hy⟩
      obtain ⟨bd, hbd, hbv⟩ := paired_at hxp hx
      obtain ⟨⟨p1, p2⟩, hp, hpv⟩ := paired_at hyp hy
      have hokp : (p1 = 0 ∧ p2 ≤ bd.limit) ∨ (p1 = 1 ∧ p2 < bd.late) := okPl_at hok hbd hp
      have smt := same_new (o := .tup [x, y]) sm1 ht
      obtain ⟨xa, rfl, hxa⟩ := hbv.mono smt
      obtain ⟨ya, rfl, hya⟩ := hpv.mono smt
      refine ⟨t, _, rfl, SqT.of upd_same, rfl, _, _, rfl, _, _, rfl, ⟨ya, _, rfl, hya, rfl, _, _, rfl, _, _, rfl, rfl, rfl, ?_⟩⟩
      refine ⟨_, rfl, rfl, _, rfl, ?_⟩
      rcases hokp with ⟨rfl, h2⟩ | ⟨rfl, h2⟩
      · refine ifT rfl ?_
        refine ⟨_, rfl, _, _, rfl, rfl, _, rfl, ?_⟩
        refine ifF (by omega) ?_
        refine ⟨_, rfl, _, rfl, xa, _, 1, nV bd.limit, rfl, rfl, hxa, rfl, _, _, rfl, rfl, _, rfl, ?_⟩
        refine ifF (by omega) ?_
        exact ⟨smt, _, _, _, rfl⟩
      · refine ifF (by intro z; cases z) ?_
        refine ⟨_, rfl, rfl, _, rfl, ?_⟩
        refine ifNF rfl ?_
        refine ⟨_, rfl, _, _, rfl, rfl, _, rfl, ?_⟩
        refine ifF (by omega) ?_
        refine ⟨_, rfl, _, rfl, xa, _, 3, nV bd.late, rfl, rfl, hxa, rfl, _, _, rfl, rfl, _, rfl, ?_⟩
        refine ifF (by omega) ?_
        exact ⟨smt, _, _, _, rfl⟩
    · rintro σ H1 ⟨sm1, v2, v3, v4, rfl⟩
      exact q H1 sm1
abbrev s_checked_standing : Stmt := top 24
abbrev N_checked_standing : List Str := ["boards", "standing", "told"]
theorem sc_checked_standing : FnScope N_checked_standing ["boards", "standing"] (C8.fnScope s_checked_standing) := C8.fnScope_by (by decide +kernel)
def sp_as_standingT (K : PySem.W.Frag) : Sp := fun vs H Q _ => ∃ (a : Addr) (xs : List V) (pl : Pl), vs = [.ref a] ∧ SqT K H a xs ∧ Paired (PairV K H) xs pl ∧ pl.length ≤ 1000 ∧ ∀ (v : V) H', Same H H' → PlV K H' v pl → Q v H'
theorem ok_as_standingT {f : Addr} {fd : FuncData} (F : C8.Def K mg "as_standing" s_as_standing f fd) (b : Binds K fd ["pairs"] []) (T : Gb mg) : C8.Cal P w K mg base 1 "as_standing" (sp_as_standingT K) [] := by
  refine C8.cal0 F b .nil sc_as_standing (fun vs H Q E h => ?_) (fun cdv A outer s H vs Q E hr h => ?_)
  · obtain ⟨a, xs, pl, rfl, _⟩ := h
    rfl
  · obtain ⟨a, xs, pl, rfl, hxs, hxp, hn, q⟩ := h
    have hl := hxp.length
    refine ⟨_, (pss_one (ps_ret (pe_callTy (call_tupK K rfl) (by rfl) T.tuple (by decide +kernel) (pa_cons (pe_lc (own := [("pair", 1)]) rfl sc_as_standing.nd (pi_tupK K rfl (pv 0)) (blkOk_by (N := N_as_standing) (sc := C8.fnScope s_as_standing) (by decide +kernel)) (fun _ _ _ _ _ => (pg_name (i := 1) sc_as_standing.nd rfl (Or.inl rfl))) (fun _ _ _ _ _ => pts_nil) (fun _ _ _ _ _ => (pe_callTy (call_tupK K rfl) (by rfl) T.tuple (by decide +kernel) (pa_cons (pv 1) pa_nil)))) pa_nil)))), ?_⟩
    refine ⟨_, rfl, a, rfl, ⟨_, hxs⟩, fun D hD => lc_it (walk_tup (xs := xs)) (fun i H' => Same H H' ∧ H' D = some (.lst (xs.take i))) ⟨same_new (Same.refl _) hD, upd_same⟩ (fun i H' _ h => h.1.tup hxs) ?_ ?_⟩
    · rintro i x H2 H2' hi ⟨sm2, hD2⟩ ⟨rfl, hx⟩
      obtain ⟨p, hp, hpv⟩ := paired_at hxp hx
      obtain ⟨pa, rfl, hpa⟩ := hpv.mono sm2
      refine ⟨rfl, yes_go ?_⟩
      refine ⟨_, rfl, pa, _, rfl, .inr ⟨hpa, ?_⟩⟩
      refine ⟨_, hD2, size_lt (by rw [List.length_take]; omega), same_mut sm2 hD, ?_⟩
      rw [upd_same, take_snoc hx]
    · rintro H2 ⟨sm2, hD2⟩
      rw [List.take_length] at hD2
      refine ⟨D, xs, rfl, .inl ⟨SqL.of hD2, fun t ht => ?_⟩⟩
      have sm := same_new (o := .tup xs) sm2 ht
      exact q _ _ sm ⟨t, xs, rfl, SqT.of upd_same, L2.Paired.mapP hxp fun _ _ => PairV.mono sm⟩
def sp_checked_standingT (K : PySem.W.Frag) : Sp := fun vs H Q _ => ∃ (ba a : Addr) (xs : List V) (bs : List Bd) (pl : Pl), vs = [.ref ba, .ref a] ∧ BdsAt K H ba bs ∧ SqT K H a xs ∧ Paired (PairV K H) xs pl ∧ okPl bs pl ∧ bs.length ≤ 1000 ∧ ∀ (v : V) H', Same H H' → PlV K H' v pl → Q v H'
theorem ok_checked_standingT {f : Addr} {fd : FuncData} (F : C8.Def K mg "checked_standing" s_checked_standing f fd) (b : Binds K fd ["boards", "standing"] []) (c_as_standing : C8.Cal P w K mg base 1 "as_standing" (sp_as_standingT K) []) (c_is_standing : C8.Cal P w K mg base 1 "is_standing" (sp_is_standing K) []) : C8.Cal P w K mg base 2 "checked_standing" (sp_checked_standingT K) [] := by
  refine C8.cal0 F b .nil sc_checked_standing (fun vs H Q E h => ?_) (fun cdv A outer s H vs Q E hr h => ?_)
  · obtain ⟨ba, a, xs, bs, pl, rfl, _⟩ := h
    rfl
  · obtain ⟨ba, a, xs, bs, pl, rfl, hB, hxs, hxp, hok, hn, q⟩ := h
    have hl := okPl_len hok
    refine ⟨_, (pss_cons (ps_set (i := 2) sc_checked_standing.nd rfl (Or.inl rfl) (C8.pe_c c_as_standing hr (by decide) (by rfl) (pa_cons (pv 1) pa_nil)))
(pss_cons (ps_if (pt_not (pt_val (C8.pe_c c_is_standing hr (by decide) (by rfl) (pa_cons (pv 0) (pa_cons (pv 2) pa_nil)))))
(pss_one ps_never)
pss_nil)
(pss_one (ps_ret (pv 2))))), ?_⟩
    refine ⟨_, rfl, a, xs, pl, rfl, hxs, hxp, by omega, fun v H1 sm1 hv => ?_⟩
    refine ⟨_, rfl, _, rfl, ba, v, bs, pl, rfl, hB.mono sm1, hv, hok, fun H2 sm2 => ⟨true, rfl, ?_⟩⟩
    refine iteF ?_
    exact ⟨_, rfl, q v H2 (sm1.trans sm2) (hv.mono sm2)⟩
def sp_as_standingL (K : PySem.W.Frag) : Sp := fun vs H Q _ => ∃ (a : Addr) (xs : List V) (pl : Pl), vs = [.ref a] ∧ SqL K H a xs ∧ Paired (PairV K H) xs pl ∧ pl.length ≤ 1000 ∧ ∀ (v : V) H', Same H H' → PlV K H' v pl → Q v H'
theorem ok_as_standingL {f : Addr} {fd : FuncData} (F : C8.Def K mg "as_standing" s_as_standing f fd) (b : Binds K fd ["pairs"] []) (T : Gb mg) : C8.Cal P w K mg base 1 "as_standing" (sp_as_standingL K) [] := by
  refine C8.cal0 F b .nil sc_as_standing (fun vs H Q E h => ?_) (fun cdv A outer s H vs Q E hr h => ?_)
  · obtain ⟨a, xs, pl, rfl, _⟩ := h
    rfl
  · obtain ⟨a, xs, pl, rfl, hxs, hxp, hn, q⟩ := h
    have hl := hxp.length
    refine ⟨_, (pss_one (ps_ret (pe_callTy (call_tupK K rfl) (by rfl) T.tuple (by decide +kernel) (pa_cons (pe_lc (own := [("pair", 1)]) rfl sc_as_standing.nd (pi_listK K rfl (pv 0)) (blkOk_by (N := N_as_standing) (sc := C8.fnScope s_as_standing) (by decide +kernel)) (fun _ _ _ _ _ => (pg_name (i := 1) sc_as_standing.nd rfl (Or.inl rfl))) (fun _ _ _ _ _ => pts_nil) (fun _ _ _ _ _ => (pe_callTy (call_tupK K rfl) (by rfl) T.tuple (by decide +kernel) (pa_cons (pv 1) pa_nil)))) pa_nil)))), ?_⟩
    refine ⟨_, rfl, a, rfl, ⟨_, hxs⟩, fun D hD => lc_it (walk_list (xs := xs)) (fun i H' => Same H H' ∧ H' D = some (.lst (xs.take i))) ⟨same_new (Same.refl _) hD, upd_same⟩ (fun i H' _ h => h.1.seq hxs) ?_ ?_⟩
    · rintro i x H2 H2' hi ⟨sm2, hD2⟩ ⟨rfl, hx⟩
      obtain ⟨p, hp, hpv⟩ := paired_at hxp hx
      obtain ⟨pa, rfl, hpa⟩ := hpv.mono sm2
      refine ⟨rfl, yes_go ?_⟩
      refine ⟨_, rfl, pa, _, rfl, .inr ⟨hpa, ?_⟩⟩
      refine ⟨_, hD2, size_lt (by rw [List.length_take]; omega), same_mut sm2 hD, ?_⟩
      rw [upd_same, take_snoc hx]
    · rintro H2 ⟨sm2, hD2⟩
      rw [List.take_length] at hD2
      refine ⟨D, xs, rfl, .inl ⟨SqL.of hD2, fun t ht => ?_⟩⟩
      have sm := same_new (o := .tup xs) sm2 ht
      exact q _ _ sm ⟨t, xs, rfl, SqT.of upd_same, L2.Paired.mapP hxp fun _ _ => PairV.mono sm⟩
def sp_checked_standingL (K : PySem.W.Frag) : Sp := fun vs H Q _ => ∃ (ba a : Addr) (xs : List V) (bs : List Bd) (pl : Pl), vs = [.ref ba, .ref a] ∧ BdsAt K H ba bs ∧ SqL K H a xs ∧ Paired (PairV K H) xs pl ∧ okPl bs pl ∧ bs.length ≤ 1000 ∧ ∀ (v : V) H', Same H H' → PlV K H' v pl → Q v H'
theorem ok_checked_standingL {f : Addr} {fd : FuncData} (F : C8.Def K mg "checked_standing" s_checked_standing f fd) (b : Binds K fd ["boards", "standing"] []) (c_as_standing : C8.Cal P w K mg base 1 "as_standing" (sp_as_standingL K) []) (c_is_standing : C8.Cal P w K mg base 1 "is_standing" (sp_is_standing K) []) : C8.Cal P w K mg base 2 "checked_standing" (sp_checked_standingL K) [] := by
  refine C8.cal0 F b .nil sc_checked_standing (fun vs H Q E h => ?_) (fun cdv A outer s H vs Q E hr h => ?_)
  · obtain ⟨ba, a, xs, bs, pl, rfl, _⟩ := h
    rfl
  · obtain ⟨ba, a, xs, bs, pl, rfl, hB, hxs, hxp, hok, hn, q⟩ := h
    have hl := okPl_len hok
    refine ⟨_, (pss_cons (ps_set (i := 2) sc_checked_standing.nd rfl (Or.inl rfl) (C8.pe_c c_as_standing hr (by decide) (by rfl) (pa_cons (pv 1) pa_nil)))
(pss_cons (ps_if (pt_not (pt_val (C8.pe_c c_is_standing hr (by decide) (by rfl) (pa_cons (pv 0) (pa_cons (pv 2) pa_nil)))))
(pss_one ps_never)
pss_nil)
(pss_one (ps_ret (pv 2))))), ?_⟩
    refine ⟨_, rfl, a, xs, pl, rfl, hxs, hxp, by omega, fun v H1 sm1 hv => ?_⟩
    refine ⟨_, rfl, _, rfl, ba, v, bs, pl, rfl, hB.mono sm1, hv, hok, fun H2 sm2 => ⟨true, rfl, ?_⟩⟩
    refine iteF ?_
    exact ⟨_, rfl, q v H2 (sm1.trans sm2) (hv.mono sm2)⟩
end
end My
namespace My
open PySem L2
/-! ### open_choices, answered, passed -/
def isHand (pl : Pl) (k : Nat) : Bool := match pl[k]? with
  | some p => p.1 == 0
  | none => false
def ableN (pl : Pl) : List Nat := (List.range pl.length).filter (isHand pl)
def ableI (pl : Pl) : List Int := -1 :: (ableN pl).map fun (n : Nat) => (n : Int)
theorem filter_snoc {p : Nat → Bool} (i : Nat) : (List.range (i + 1)).filter p = (List.range i).filter p ++ (if p i = true then [i] else []) := by
  rw [List.range_succ, List.filter_append]
  congr 1
  by_cases h : p i = true
  · rw [if_pos h]; simp [h]
  · rw [if_neg h]; simp [h]
/-- the ticks of an answer: by the tick it comes at -/
def ansIn (b : Bd) (age tick : Nat) : Bool := decide (b.soon ≤ age + tick) && decide (age + tick ≤ b.late)
def ansP (b : Bd) (age t : Nat) (n : Nat) : List (Nat × Nat) := ((List.range n).filter fun i => ansIn b age (i + 1) && decide (t - (i + 1) ≤ b.limit)).map fun i => (0, t - (i + 1))
def ansF (b : Bd) (age t : Nat) (n : Nat) : Bool := (List.range n).any fun i => ansIn b age (i + 1) && decide (b.limit < t - (i + 1))
def answeredF (b : Bd) (age t : Nat) : Bool × List (Nat × Nat) := (ansF b age t t, ansP b age t t ++ (if age + t < b.late then [(1, age + t)] else []))
def passedF (b : Bd) (p : Nat × Nat) (chosen : Bool) (t : Nat) : Bool × List (Nat × Nat) :=
  if p.1 = 1 then answeredF b p.2 t
  else if b.limit < p.2 + t then (true, [])
  else if chosen = true then (false, [(1, 0)]) else (false, [(0, p.2 + t)])
theorem ansP_snoc (b : Bd) (age t n : Nat) : ansP b age t (n + 1) = ansP b age t n ++ (if (ansIn b age (n + 1) && decide (t - (n + 1) ≤ b.limit)) = true then [(0, t - (n + 1))] else []) := by
  unfold ansP
  rw [filter_snoc, List.map_append]
  congr 1
  split <;> rfl
theorem ansF_snoc (b : Bd) (age t n : Nat) : ansF b age t (n + 1) = (ansF b age t n || (ansIn b age (n + 1) && decide (b.limit < t - (n + 1)))) := by
  unfold ansF
  rw [List.range_succ, List.any_append]
  simp
theorem ansP_len (b : Bd) (age t n : Nat) : (ansP b age t n).length ≤ n := by
  unfold ansP
  rw [List.length_map]
  exact Nat.le_trans (List.length_filter_le _ _) (by rw [List.length_range]; exact Nat.le_refl _)
section
variable {P : Program} {w : World} {K : PySem.W.Frag} {mg : Str → Option Value} {base : Heap}
abbrev s_open_choices : Stmt := top 25
abbrev N_open_choices : List Str := ["standing", "index"]
theorem sc_open_choices : FnScope N_open_choices ["standing"] (C8.fnScope s_open_choices) := C8.fnScope_by (by decide +kernel)
def sp_open_choices (K : PySem.W.Frag) : Sp := fun vs H Q _ => ∃ (v : V) (pl : Pl), vs = [v] ∧ PlV K H v pl ∧ pl.length ≤ 100 ∧ ∀ (p : Addr) H', Same H H' → H p = none → H' p = some (.lst ((ableI pl).map V.int)) → Q (.ref p) H'
theorem ok_open_choices {f : Addr} {fd : FuncData} (F : C8.Def K mg "open_choices" s_open_choices f fd) (b : Binds K fd ["standing"] []) (T : Gb mg) : C8.Cal P w K mg base 1 "open_choices" (sp_open_choices K) [] := by
  refine C8.cal0 F b .nil sc_open_choices (fun vs H Q E h => ?_) (fun cdv A outer s H vs Q E hr h => ?_)
  · obtain ⟨v, pl, rfl, _⟩ := h
    rfl
  · obtain ⟨v, pl, rfl, ⟨a, xs, rfl, hxs, hxp⟩, hn, q⟩ := h
    have hl := hxp.length
    refine ⟨_, (pss_one (ps_ret (pe_op op_cat (pe_lst (pa_cons (C8.pe_gc (by rfl) T.WAIT) pa_nil)) (pe_lc (own := [("index", 1)]) rfl sc_open_choices.nd (pi_range1 (by rfl) T.range (pa_cons (pe_callB (call_lenK K rfl) (by rfl) T.len PySem.boot_len (pa_cons (pv 0) pa_nil)) pa_nil)) (blkOk_by (N := N_open_choices) (sc := C8.fnScope s_open_choices) (by decide +kernel)) (fun _ _ _ _ _ => (pg_name (i := 1) sc_open_choices.nd rfl (Or.inl rfl))) (fun _ _ _ _ _ => (pts_one (pt_cmpR op_eq (pe_ix (ix_tupK K rfl) (pe_ix (ix_tupK K rfl) (pv 0) (pv 1) (fun _ _ => rfl)) pe_int (fun _ _ => rfl)) (C8.pe_gc (by rfl) T.HAND) (nomark _)))) (fun _ _ _ _ _ => (pv 1)))))), ?_⟩
    refine ⟨by show 1 ≤ sizeLine; decide, fun D1 hD1 => ?_⟩
    have sm1 := same_new (o := .lst [.int (-1)]) (Same.refl H) hD1
    have hx1 := sm1.tup hxs
    refine ⟨_, rfl, a, xs, rfl, .inr hx1, _, rfl, by omega, by omega, fun D hD => lc_range (lo := 0) (n := ((xs.length : Nat) : Int).toNat) (fun i H' => Same (upd H D1 (.lst [.int (-1)])) H' ∧ H' D = some (.lst (((List.range i).filter (isHand pl)).map nV)))
      ⟨same_new (Same.refl _) hD, upd_same⟩ ?_ ?_⟩
    · rintro i H2 hi ⟨sm2, hD2⟩
      rw [Int.toNat_natCast] at hi
      rw [show (0 : Int) + (i : Int) = (i : Int) by omega]
      obtain ⟨x, hx⟩ := at_ex hi
      obtain ⟨⟨p1, p2⟩, hp, hpv⟩ := paired_at hxp hx
      obtain ⟨pa, rfl, hpa⟩ := hpv.mono (sm1.trans sm2)
      have hfl : (((List.range i).filter (isHand pl)).map nV).length ≤ 100 := by
        rw [List.length_map]
        exact Nat.le_trans (List.length_filter_le _ _) (by rw [List.length_range]; omega)
      have his : isHand pl i = (p1 == 0) := by unfold isHand; rw [hp]
      refine ⟨rfl, ?_⟩
      refine ⟨_, rfl, _, rfl, a, _, _, .ref pa, rfl, rfl, sm2.tup hx1, atI_nat hx, pa, _, 0, nV p1, rfl, rfl, hpa, rfl, rfl, _, rfl, ?_⟩
      by_cases e : p1 = 0
      · subst e
        refine ifT rfl ?_
        refine ⟨_, rfl, _, hD2, size_lt (by omega), same_mut sm2 hD, ?_⟩
        rw [upd_same, filter_snoc, his, List.map_append]
        rfl
      · refine ifF (by intro z; exact e (Int.ofNat.inj (V.int.inj z))) ?_
        refine ⟨sm2, ?_⟩
        rw [hD2, filter_snoc, his, if_neg (by simp [e]), List.append_nil]
    · rintro H2 ⟨sm2, hD2⟩
      rw [Int.toNat_natCast, hl] at hD2
      refine ⟨D1, D, _, _, rfl, rfl, sm2 _ _ upd_same, hD2, ?_, fun p hp => ?_⟩
      · rw [List.length_map]
        have := List.length_filter_le (isHand pl) (List.range pl.length)
        rw [List.length_range] at this
        exact size_le (by show 1 + _ ≤ 100000; omega)
      have sm := same_new (o := .lst ([V.int (-1)] ++ ((List.range pl.length).filter (isHand pl)).map nV)) (sm1.trans sm2) hp
      refine q p _ sm ((sm1.trans sm2).free hp) ?_
      rw [upd_same]
      unfold ableI ableN
      rw [List.map_cons, List.map_map]
      rfl
abbrev s_answered : Stmt := top 26
abbrev N_answered : List Str := ["board", "age", "ticks", "limit", "soonest", "latest", "falls", "pairs", "tick"]
theorem sc_answered : FnScope N_answered ["board", "age", "ticks"] (C8.fnScope s_answered) := C8.fnScope_by (by decide +kernel)
/-- a list of pairs -/
def PairsAt (K : PySem.W.Frag) (H : Hp) (a : Addr) (ps : List (Nat × Nat)) : Prop := ∃ vs, H a = some (.lst vs) ∧ Paired (PairV K H) vs ps
theorem PairsAt.mono {K : PySem.W.Frag} {H H' : Hp} {a : Addr} {ps : List (Nat × Nat)} (s : Same H H') (h : PairsAt K H a ps) : PairsAt K H' a ps := let ⟨vs, e, q⟩ := h; ⟨vs, s _ _ e, L2.Paired.mapP q fun _ _ => PairV.mono s⟩
theorem SqT.updL' {K : PySem.W.Frag} {H : Hp} {D a : Addr} {xs ys : List V} {o : HO} (hD : H D = some (.lst xs)) (h : SqT K H a ys) : SqT K (upd H D o) a ys := by
  rcases h with (h | ⟨ob, h⟩) | h
  · exact .inl (.inl ((upd_ne (fun z => by rw [z, hD] at h; cases h)).trans h))
  · exact .inl (.inr ⟨ob, (upd_ne (fun z => by rw [z, hD] at h; cases h)).trans h⟩)
  · exact .inr h
theorem PairV.updL {K : PySem.W.Frag} {H : Hp} {D : Addr} {xs : List V} {o : HO} {v : V} {p : Nat × Nat} (hD : H D = some (.lst xs)) (h : PairV K H v p) : PairV K (upd H D o) v p := let ⟨a, e, q⟩ := h; ⟨a, e, SqT.updL' hD q⟩
/-- a list that is being made: what stood ahead of it stays; the pairs in it -/
structure Mk2 (K : PySem.W.Frag) (H H' : Hp) (D : Addr) (ps : List (Nat × Nat)) : Prop where
  sm : Same H H'
  at_ : PairsAt K H' D ps
theorem Mk2.push {K : PySem.W.Frag} {H H' : Hp} {D t : Addr} {ps : List (Nat × Nat)} {p : Nat × Nat} {x y : V} (ex : x = nV p.1) (ey : y = nV p.2) (hD : H D = none) (h : Mk2 K H H' D ps) (ht : H' t = none) :
    ∃ vs, (upd H' t (.tup [x, y])) D = some (.lst vs) ∧ vs.length = ps.length ∧ Mk2 K H (upd (upd H' t (.tup [x, y])) D (.lst (vs ++ [.ref t]))) D (ps ++ [p]) := by
  subst ex ey
  obtain ⟨sm, vs, hv, hp⟩ := h
  have smt := same_new (o := .tup [nV p.1, nV p.2]) (Same.refl H') ht
  have hv2 := smt _ _ hv
  refine ⟨vs, hv2, hp.length, same_mut (sm.trans smt) hD, vs ++ [.ref t], upd_same, ?_⟩
  exact Paired.snoc (L2.Paired.mapP hp fun _ _ z => (z.mono smt).updL hv2) (PairV.updL hv2 ⟨t, rfl, SqT.of upd_same⟩)
def sp_answered (K : PySem.W.Frag) : Sp := fun vs H Q _ => ∃ (v : V) (b : Bd) (age t : Nat), vs = [v, nV age, nV t] ∧ BdV K H v b ∧ age ≤ 1000 ∧ t ≤ 1000 ∧
  ∀ (p l : Addr) H', Same H H' → SqT K H' p [.bl (answeredF b age t).1, .ref l] → PairsAt K H' l (answeredF b age t).2 → H l = none → Q (.ref p) H'
theorem ok_answered {f : Addr} {fd : FuncData} (F : C8.Def K mg "answered" s_answered f fd) (b : Binds K fd ["board", "age", "ticks"] []) (T : Gb mg) : C8.Cal P w K mg base 1 "answered" (sp_answered K) [] := by
  refine C8.cal0 F b .nil sc_answered (fun vs H Q E h => ?_) (fun cdv A outer s H vs Q E hr h => ?_)
  · obtain ⟨v, b, age, t, rfl, _⟩ := h
    rfl
  · obtain ⟨v, b, age, t, rfl, ⟨ba, rfl, hb⟩, hag, htt, q⟩ := h
    refine ⟨_, (pss_cons (ps_asg (pe_slice sl_tup (pv 0) (po_some pe_int) po_none) (pg_tup (by rfl) (pgs_cons (pg_name (i := 3) sc_answered.nd rfl (Or.inl rfl)) (pgs_cons (pg_name (i := 4) sc_answered.nd rfl (Or.inl rfl)) (pgs_cons (pg_name (i := 5) sc_answered.nd rfl (Or.inl rfl)) pgs_nil)))))
(pss_cons (ps_set (i := 6) sc_answered.nd rfl (Or.inl rfl) pe_bl)
(pss_cons (ps_set (i := 7) sc_answered.nd rfl (Or.inl rfl) (pe_lst pa_nil))
(pss_cons (ps_for PassesOwn.never rfl (pi_range2 (by rfl) T.range (pa_cons pe_int (pa_cons (pe_op op_add (pv 2) pe_int) pa_nil))) (pg_name (i := 8) sc_answered.nd rfl (Or.inl rfl))
(pss_one (ps_if (PW.pt (pw_and (pt_cmpR op_ge (pe_op op_add (pv 1) (pv 8)) (pv 4) (nomark _)) (pw_and1 (pt_cmpR op_le (pe_op op_add (pv 1) (pv 8)) (pv 5) (nomark _)))))
(pss_one (ps_if (pt_cmpR op_gt (pe_op op_sub (pv 2) (pv 8)) (pv 3) (nomark _))
(pss_one (ps_set (i := 6) sc_answered.nd rfl (Or.inl rfl) pe_bl))
(pss_one (ps_expr (pe_bm PySem.F.plainAttrs_list PySem.F.slot_list_append PySem.F.type_list_append mt_append (pv 7) (pa_cons (pe_tup (pa_cons (C8.pe_gc (by rfl) T.HAND) (pa_cons (pe_op op_sub (pv 2) (pv 8)) pa_nil))) pa_nil))))))
pss_nil)))
(C8.pss_cut (ps_if (pt_cmpR op_lt (pe_op op_add (pv 1) (pv 2)) (pv 5) (nomark _))
(pss_one (ps_expr (pe_bm PySem.F.plainAttrs_list PySem.F.slot_list_append PySem.F.type_list_append mt_append (pv 7) (pa_cons (pe_tup (pa_cons (C8.pe_gc (by rfl) T.OTHER) (pa_cons (pe_op op_add (pv 1) (pv 2)) pa_nil))) pa_nil))))
pss_nil)
(pss_one (ps_ret (pe_tup (pa_cons (pv 6) (pa_cons (pv 7) pa_nil)))))))))), ?_⟩
    refine ⟨_, rfl, 1, rfl, ba, _, rfl, hb, ?_, fun t1 ht1 => ?_⟩
    · intro z
      have z1 : (1 : Nat) = 0 := z.1
      cases z1
    have sm1 := same_new (o := .tup [nV b.limit, nV b.soon, nV b.late]) (Same.refl H) ht1
    refine ⟨t1, [nV b.limit, nV b.soon, nV b.late], rfl, SqT.of upd_same, rfl, _, _, rfl, _, _, rfl, _, _, rfl, rfl, ?_⟩
    refine ⟨by show 0 ≤ sizeLine; decide, fun D hD => ?_⟩
    have hD0 : H D = none := sm1.free hD
    refine ⟨_, rfl, _, _, rfl, rfl, 1, (t : Int) + 1, rfl, ⟨by decide, by decide, by omega, by omega⟩, for_range (lo := 1) (n := ((t : Int) + 1 - 1).toNat) (fun n σ H' => Mk2 K H H' D (ansP b age t n) ∧ ∃ v8, σ = [some (.ref ba), some (nV age), some (nV t), some (nV b.limit), some (nV b.soon), some (nV b.late), some (.bl (ansF b age t n)), some (.ref D), v8])
      ⟨⟨same_new sm1 hD, [], upd_same, .nil⟩, _, rfl⟩ ?_ ?_⟩
    · rintro n σ H1 hn ⟨hm, v8, rfl⟩
      have hnt : n < t := by omega
      rw [show (1 : Int) + (n : Int) = ((n + 1 : Nat) : Int) by omega]
      have fin : ∀ {v : Bool} {H' : Hp} {ps : List (Nat × Nat)}, v = ansF b age t (n + 1) → ps = ansP b age t (n + 1) → Mk2 K H H' D ps → (Mk2 K H H' D (ansP b age t (n + 1)) ∧ ∃ v8', [some (V.ref ba), some (nV age), some (nV t), some (nV b.limit), some (nV b.soon), some (nV b.late), some (V.bl v), some (V.ref D), some (nV (n + 1))] = [some (V.ref ba), some (nV age), some (nV t), some (nV b.limit), some (nV b.soon), some (nV b.late), some (V.bl (ansF b age t (n + 1))), some (V.ref D), v8']) := fun {v H' ps} e1 e2 h => by
        subst e1 e2
        exact ⟨h, _, rfl⟩
      refine ⟨_, rfl, _, rfl, _, _, rfl, rfl, _, rfl, _, _, rfl, rfl, _, rfl, ?_⟩
      by_cases c1 : b.soon ≤ age + (n + 1)
      · refine ifT (by omega) ?_
        refine ⟨_, rfl, _, rfl, _, _, rfl, rfl, _, rfl, _, _, rfl, rfl, _, rfl, ?_⟩
        by_cases c2 : age + (n + 1) ≤ b.late
        · have hin : ansIn b age (n + 1) = true := by unfold ansIn; rw [decide_eq_true c1, decide_eq_true c2]; rfl
          refine ifT (by omega) ?_
          refine ⟨_, rfl, _, rfl, _, _, rfl, rfl, _, rfl, _, _, rfl, rfl, _, rfl, ?_⟩
          by_cases c3 : b.limit < t - (n + 1)
          · refine ifT (by omega) ?_
            refine fin ?_ ?_ hm
            · rw [ansF_snoc, hin, decide_eq_true c3]; simp
            · rw [ansP_snoc, hin, decide_eq_false (by omega)]; simp
          · refine ifF (by omega) ?_
            obtain ⟨vs, hv, hp⟩ := hm.at_
            refine ⟨_, rfl, .inl ⟨rfl, _, SqL.of hv⟩, _, rfl, _, rfl, _, _, rfl, rfl, by show 2 ≤ sizeLine; decide, fun tt htt => ?_⟩
            have hcast : (t : Int) - ((n + 1 : Nat) : Int) = ((t - (n + 1) : Nat) : Int) := by omega
            obtain ⟨vs2, hv2, hl2, hm2⟩ := Mk2.push (p := (0, t - (n + 1))) (x := .int 0) (y := .int ((t : Int) - ((n + 1 : Nat) : Int))) rfl (by rw [hcast]) hD0 hm htt
            have hlen := ansP_len b age t n
            refine ⟨D, vs2, _, rfl, rfl, hv2, size_lt (by omega), ?_⟩
            refine fin ?_ ?_ hm2
            · rw [ansF_snoc, hin, decide_eq_false c3]; simp
            · rw [ansP_snoc, hin, decide_eq_true (show t - (n + 1) ≤ b.limit by omega)]; rfl
        · refine ifF (by omega) ?_
          have hin : ansIn b age (n + 1) = false := by unfold ansIn; rw [decide_eq_false c2, Bool.and_false]
          refine fin ?_ ?_ hm
          · rw [ansF_snoc, hin]; simp
          · rw [ansP_snoc, hin]; simp
      · refine ifF (by omega) ?_
        have hin : ansIn b age (n + 1) = false := by unfold ansIn; rw [decide_eq_false c1, Bool.false_and]
        refine iteF ?_
        refine fin ?_ ?_ hm
        · rw [ansF_snoc, hin]; simp
        · rw [ansP_snoc, hin]; simp
    · rintro σ H1 ⟨hm, v8, rfl⟩
      rw [show ((t : Int) + 1 - 1).toNat = t by omega] at hm ⊢
      have hlen := ansP_len b age t t
      refine ⟨fun σ' H' => Mk2 K H H' D (answeredF b age t).2 ∧ σ' = [some (.ref ba), some (nV age), some (nV t), some (nV b.limit), some (nV b.soon), some (nV b.late), some (.bl (ansF b age t t)), some (.ref D), v8], ?_, ?_⟩
      · refine ⟨_, rfl, _, rfl, _, _, rfl, rfl, _, rfl, _, _, rfl, rfl, _, rfl, ?_⟩
        by_cases c : age + t < b.late
        · refine ifT (by omega) ?_
          obtain ⟨vs, hv, hp⟩ := hm.at_
          refine ⟨_, rfl, .inl ⟨rfl, _, SqL.of hv⟩, _, rfl, _, rfl, _, _, rfl, rfl, by show 2 ≤ sizeLine; decide, fun tt htt => ?_⟩
          obtain ⟨vs2, hv2, hl2, hm2⟩ := Mk2.push (p := (1, age + t)) (x := .int 1) (y := .int ((age : Int) + (t : Int))) rfl rfl hD0 hm htt
          refine ⟨D, vs2, _, rfl, rfl, hv2, size_lt (by omega), ?_⟩
          refine ⟨?_, rfl⟩
          unfold answeredF
          rw [if_pos c]
          exact hm2
        · refine ifF (by omega) ?_
          refine ⟨?_, rfl⟩
          unfold answeredF
          rw [if_neg c, List.append_nil]
          exact hm
      · rintro σ2 H2 ⟨hm2, rfl⟩
        refine ⟨_, rfl, _, rfl, by show 2 ≤ sizeLine; decide, fun p hp => ?_⟩
        have smp := same_new (o := .tup [.bl (ansF b age t t), .ref D]) (Same.refl H2) hp
        exact q p D _ (hm2.sm.trans smp) (SqT.of upd_same) (hm2.at_.mono smp) hD0
end
end My
namespace My
open PySem L2
theorem answeredF_len (b : Bd) (age t : Nat) : (answeredF b age t).2.length ≤ t + 1 := by
  unfold answeredF
  rw [List.length_append]
  have := ansP_len b age t t
  split
  · rw [List.length_singleton]; omega
  · rw [List.length_nil]; omega
theorem passedF_len (b : Bd) (p : Nat × Nat) (c : Bool) (t : Nat) : (passedF b p c t).2.length ≤ t + 1 := by
  unfold passedF
  split
  · exact answeredF_len b p.2 t
  · split
    · exact Nat.zero_le _
    · split
      · show 1 ≤ t + 1; omega
      · show 1 ≤ t + 1; omega
section
variable {P : Program} {w : World} {K : PySem.W.Frag} {mg : Str → Option Value} {base : Heap}
abbrev s_passed : Stmt := top 27
abbrev N_passed : List Str := ["board", "pair", "chosen", "ticks", "turn", "age"]
theorem sc_passed : FnScope N_passed ["board", "pair", "chosen", "ticks"] (C8.fnScope s_passed) := C8.fnScope_by (by decide +kernel)
def sp_passed (K : PySem.W.Frag) : Sp := fun vs H Q _ => ∃ (v u : V) (b : Bd) (p : Nat × Nat) (c : Bool) (t : Nat), vs = [v, u, .bl c, nV t] ∧ BdV K H v b ∧ PairV K H u p ∧ p.2 ≤ 1000 ∧ t ≤ 1000 ∧
  ∀ (q l : Addr) H', Same H H' → SqT K H' q [.bl (passedF b p c t).1, .ref l] → PairsAt K H' l (passedF b p c t).2 → H l = none → Q (.ref q) H'
theorem ok_passed {f : Addr} {fd : FuncData} (F : C8.Def K mg "passed" s_passed f fd) (b : Binds K fd ["board", "pair", "chosen", "ticks"] []) (T : Gb mg) (c_answered : C8.Cal P w K mg base 1 "answered" (sp_answered K) []) : C8.Cal P w K mg base 2 "passed" (sp_passed K) [] := by
  refine C8.cal0 F b .nil sc_passed (fun vs H Q E h => ?_) (fun cdv A outer s H vs Q E hr h => ?_)
  · obtain ⟨v, u, b, p, c, t, rfl, _⟩ := h
    rfl
  · obtain ⟨v, u, b, ⟨turn, age⟩, c, t, rfl, hbv, ⟨pa, rfl, hpa⟩, hag, htt, q⟩ := h
    have hag : age ≤ 1000 := hag
    obtain ⟨ba, rfl, hb⟩ := id hbv
    refine ⟨_, (pss_cons (ps_asg (pv 1) (pg_tup (by rfl) (pgs_cons (pg_name (i := 4) sc_passed.nd rfl (Or.inl rfl)) (pgs_cons (pg_name (i := 5) sc_passed.nd rfl (Or.inl rfl)) pgs_nil))))
(pss_cons (ps_if (pt_cmpR op_eq (pv 4) (C8.pe_gc (by rfl) T.OTHER) (nomark _))
(pss_one (ps_ret (C8.pe_c c_answered hr (by decide) (by rfl) (pa_cons (pv 0) (pa_cons (pv 5) (pa_cons (pv 3) pa_nil))))))
pss_nil)
(pss_cons (ps_if (pt_cmpR op_gt (pe_op op_add (pv 5) (pv 3)) (pe_ix (ix_tupK K rfl) (pv 0) pe_int (fun _ _ => rfl)) (nomark _))
(pss_one (ps_ret (pe_tup (pa_cons pe_bl (pa_cons (pe_lst pa_nil) pa_nil)))))
pss_nil)
(pss_cons (ps_if (pt_val (pv 2))
(pss_one (ps_ret (pe_tup (pa_cons pe_bl (pa_cons (pe_lst (pa_cons (pe_tup (pa_cons (C8.pe_gc (by rfl) T.OTHER) (pa_cons pe_int pa_nil))) pa_nil)) pa_nil)))))
pss_nil)
(pss_one (ps_ret (pe_tup (pa_cons pe_bl (pa_cons (pe_lst (pa_cons (pe_tup (pa_cons (C8.pe_gc (by rfl) T.HAND) (pa_cons (pe_op op_add (pv 5) (pv 3)) pa_nil))) pa_nil)) pa_nil))))))))), ?_⟩
    refine ⟨_, rfl, pa, _, rfl, hpa, rfl, _, _, rfl, _, _, rfl, rfl, ?_⟩
    refine ⟨_, rfl, rfl, _, rfl, ?_⟩
    by_cases e1 : turn = 1
    · subst e1
      refine ifT rfl ?_
      have ep : passedF b (1, age) c t = answeredF b age t := if_pos rfl
      rw [ep] at q
      exact ⟨_, rfl, _, rfl, _, rfl, _, b, age, t, rfl, hbv, hag, htt, q⟩
    · refine ifF (by intro z; exact e1 (Int.ofNat.inj (V.int.inj z))) ?_
      refine ⟨_, rfl, _, rfl, _, _, rfl, rfl, _, rfl, ba, _, 1, nV b.limit, rfl, rfl, hb, rfl, _, _, rfl, rfl, _, rfl, ?_⟩
      by_cases e2 : b.limit < age + t
      · refine ifT (by omega) ?_
        have ep : passedF b (turn, age) c t = (true, []) := by unfold passedF; rw [if_neg e1, if_pos e2]
        rw [ep] at q
        refine ⟨by show 0 ≤ sizeLine; decide, fun l hl => ?_⟩
        have sl := same_new (o := .lst []) (Same.refl H) hl
        refine ⟨by show 2 ≤ sizeLine; decide, fun r hr2 => ?_⟩
        have sr := same_new (o := .tup [.bl true, .ref l]) sl hr2
        have nl : l ≠ r := ne_of_none' upd_same hr2
        exact q r l _ sr (SqT.of upd_same) ⟨[], (upd_ne nl).trans upd_same, .nil⟩ hl
      · refine ifF (by omega) ?_
        refine ⟨_, rfl, c, rfl, ?_⟩
        have fin : ∀ {x y : V} {p : Nat × Nat}, x = nV p.1 → y = nV p.2 → passedF b (turn, age) c t = (false, [p]) → ∀ (tt : Addr), H tt = none → ∀ l, (upd H tt (.tup [x, y])) l = none → ∀ r, (upd (upd H tt (.tup [x, y])) l (.lst [.ref tt])) r = none →
            Q (.ref r) (upd (upd (upd H tt (.tup [x, y])) l (.lst [.ref tt])) r (.tup [.bl false, .ref l])) := fun {x y p} ex ey ep tt ht l hl r hr2 => by
          subst ex ey
          rw [ep] at q
          have st := same_new (o := .tup [nV p.1, nV p.2]) (Same.refl H) ht
          have sl := same_new (o := .lst [.ref tt]) st hl
          have sr := same_new (o := .tup [.bl false, .ref l]) sl hr2
          have nl : l ≠ r := ne_of_none' upd_same hr2
          have ntl : tt ≠ l := ne_of_none' upd_same hl
          have ntr : tt ≠ r := ne_of_none' ((upd_ne ntl).trans upd_same) hr2
          exact q r l _ sr (SqT.of upd_same) ⟨[.ref tt], (upd_ne nl).trans upd_same, .cons ⟨tt, rfl, SqT.of ((upd_ne ntr).trans ((upd_ne ntl).trans upd_same))⟩ .nil⟩ (st.free hl)
        cases c with
        | true =>
          refine iteT ?_
          refine ⟨by show 2 ≤ sizeLine; decide, fun tt ht => ⟨by show 1 ≤ sizeLine; decide, fun l hl => ⟨by show 2 ≤ sizeLine; decide, fun r hr2 => ?_⟩⟩⟩
          exact fin (p := (1, 0)) rfl rfl (by unfold passedF; rw [if_neg e1, if_neg e2, if_pos rfl]) tt ht l hl r hr2
        | false =>
          refine iteF ?_
          refine ⟨_, rfl, _, rfl, _, _, rfl, rfl, by show 2 ≤ sizeLine; decide, fun tt ht => ⟨by show 1 ≤ sizeLine; decide, fun l hl => ⟨by show 2 ≤ sizeLine; decide, fun r hr2 => ?_⟩⟩⟩
          exact fin (p := (0, age + t)) rfl rfl (by unfold passedF; rw [if_neg e1, if_neg e2, if_neg (by decide)]) tt ht l hl r hr2
end
end My
namespace My
open PySem L2
/-! ### two clauses of a comprehension, by walks -/
section
variable {J J1 : It} {n n1 : Nat} {G G1 : Hp → Prop} {Y Y1 : Nat → Hp → V → Hp → Prop}
theorem lc_in (w : Walk J1 n1 G1 Y1) {g1 : TG} {tt1 : TT} {te : TE} {vs1 : List Nat} {σ2 : L2.St} {H4 : Hp} {D : Addr} {Nx : Hp → Prop} (Pv : Nat → Hp → Prop) (h0 : Pv 0 H4) (hG : ∀ j H, j ≤ n1 → Pv j H → G1 H)
    (hs : ∀ j x H H', j < n1 → Pv j H → Y1 j H x H' → g1 x (wipe σ2 vs1) H' fun σ3 H5 => wipe σ3 vs1 = wipe σ2 vs1 ∧ tt1 σ3 H5 fun b H6 =>
      if b = true then te σ3 H6 fun y H7 => ∃ acc, H7 D = some (.lst acc) ∧ acc.length < sizeLine ∧ Pv (j + 1) (upd H7 D (.lst (acc ++ [y]))) else Pv (j + 1) H6) (hd : ∀ H, Pv n1 H → Nx H) :
    ∃ W1 : Nat → Nat → Hp → Prop, (∃ m, W1 0 m H4) ∧ ∀ j k H, W1 j k H →
      (J1.stop j H ∧ Nx H) ∨ (J1.go j H ∧ ∃ Nx1 : Hp → Prop, (∀ H', Nx1 H' → ∃ k', k' < k ∧ W1 (j + 1) k' H') ∧ ∀ x H', J1.yld j H x H' → g1 x (wipe σ2 vs1) H' fun σ3 H5 => wipe σ3 vs1 = wipe σ2 vs1 ∧ tt1 σ3 H5 fun b H6 =>
        if b = true then te σ3 H6 fun y H7 => ∃ acc, H7 D = some (.lst acc) ∧ acc.length < sizeLine ∧ Nx1 (upd H7 D (.lst (acc ++ [y]))) else Nx1 H6) := by
  refine ⟨fun j m H => m = n1 - j ∧ j ≤ n1 ∧ Pv j H, ⟨n1, rfl, Nat.zero_le _, h0⟩, ?_⟩
  rintro j m H ⟨rfl, hj, p⟩
  have q := hG j H hj p
  by_cases hlt : j < n1
  · exact .inr ⟨w.goes j H hlt q, Pv (j + 1), fun H' p' => ⟨n1 - (j + 1), by omega, rfl, hlt, p'⟩, fun x H' y => hs j x H H' hlt p (w.yields j H x H' hlt q y)⟩
  · have e : j = n1 := by omega
    subst e
    exact .inl ⟨w.stops H q, hd H p⟩
theorem lc2_it (w : Walk J n G Y) {g g1 : TG} {tt tt1 : TT} {wi1 : TI} {te : TE} {vs vs1 : List Nat} {σ : L2.St} {H1 : Hp} {D : Addr} {Qd : Hp → Prop} (Pv : Nat → Hp → Prop) (h0 : Pv 0 (upd H1 D (.lst []))) (hG : ∀ i H, i ≤ n → Pv i H → G H)
    (hs : ∀ i x H H', i < n → Pv i H → Y i H x H' → g x (wipe σ vs) H' fun σ2 H2 => wipe σ2 vs = wipe σ vs ∧ tt σ2 H2 fun b H3 =>
      if b = true then wi1 σ2 H3 fun J1 H4 => ∃ W1 : Nat → Nat → Hp → Prop, (∃ m, W1 0 m H4) ∧ ∀ j k H, W1 j k H →
        (J1.stop j H ∧ Pv (i + 1) H) ∨ (J1.go j H ∧ ∃ Nx1 : Hp → Prop, (∀ H', Nx1 H' → ∃ k', k' < k ∧ W1 (j + 1) k' H') ∧ ∀ x H', J1.yld j H x H' → g1 x (wipe σ2 vs1) H' fun σ3 H5 => wipe σ3 vs1 = wipe σ2 vs1 ∧ tt1 σ3 H5 fun b H6 =>
          if b = true then te σ3 H6 fun y H7 => ∃ acc, H7 D = some (.lst acc) ∧ acc.length < sizeLine ∧ Nx1 (upd H7 D (.lst (acc ++ [y]))) else Nx1 H6)
      else Pv (i + 1) H3) (hd : ∀ H, Pv n H → Qd H) :
    ∃ W : Nat → Nat → Hp → Prop, (∃ m, W 0 m (upd H1 D (.lst []))) ∧ ∀ i m H, W i m H →
  (J.stop i H ∧ Qd H) ∨ (J.go i H ∧ ∃ Nx : Hp → Prop, (∀ H', Nx H' → ∃ m', m' < m ∧ W (i + 1) m' H') ∧ ∀ x H', J.yld i H x H' → g x (wipe σ vs) H' fun σ2 H2 => wipe σ2 vs = wipe σ vs ∧ tt σ2 H2 fun b H3 =>
    if b = true then wi1 σ2 H3 fun J1 H4 => ∃ W1 : Nat → Nat → Hp → Prop, (∃ m, W1 0 m H4) ∧ ∀ j k H, W1 j k H →
      (J1.stop j H ∧ Nx H) ∨ (J1.go j H ∧ ∃ Nx1 : Hp → Prop, (∀ H', Nx1 H' → ∃ k', k' < k ∧ W1 (j + 1) k' H') ∧ ∀ x H', J1.yld j H x H' → g1 x (wipe σ2 vs1) H' fun σ3 H5 => wipe σ3 vs1 = wipe σ2 vs1 ∧ tt1 σ3 H5 fun b H6 =>
        if b = true then te σ3 H6 fun y H7 => ∃ acc, H7 D = some (.lst acc) ∧ acc.length < sizeLine ∧ Nx1 (upd H7 D (.lst (acc ++ [y]))) else Nx1 H6)
    else Nx H3) := by
  refine ⟨fun i m H => m = n - i ∧ i ≤ n ∧ Pv i H, ⟨n, rfl, Nat.zero_le _, h0⟩, ?_⟩
  rintro i m H ⟨rfl, hi, p⟩
  have q := hG i H hi p
  by_cases hlt : i < n
  · exact .inr ⟨w.goes i H hlt q, Pv (i + 1), fun H' p' => ⟨n - (i + 1), by omega, rfl, hlt, p'⟩, fun x H' y => hs i x H H' hlt p (w.yields i H x H' hlt q y)⟩
  · have e : i = n := by omega
    subst e
    exact .inl ⟨w.stops H q, hd H p⟩
end
/-! ### led -/
def rowsNext (rows : List Pl) (ps : List (Nat × Nat)) : List Pl := rows.flatMap fun r => ps.map fun p => r ++ [p]
def ledI (bs : List Bd) (pl : Pl) (c : Int) (t : Nat) : Nat → Bool × List Pl
  | 0 => (false, [[]])
  | i + 1 => match bs[i]?, pl[i]? with
    | some b, some p => ((ledI bs pl c t i).1 || (passedF b p (decide ((i : Int) = c)) t).1, rowsNext (ledI bs pl c t i).2 (passedF b p (decide ((i : Int) = c)) t).2)
    | _, _ => ledI bs pl c t i
def ticksF (bs : List Bd) (c : Int) : Nat := if c = -1 then 1 else ((bs[c.toNat]?).map (·.work)).getD 1
def leP : Pl → Pl → Bool := PySem.W.dataLe false fun p => (pk p).data
def ledF (bs : List Bd) (pl : Pl) (c : Int) : Bool × List Pl := ((ledI bs pl c (ticksF bs c) bs.length).1, (ledI bs pl c (ticksF bs c) bs.length).2.mergeSort leP)
theorem ledI_succ {bs : List Bd} {pl : Pl} {c : Int} {t i : Nat} {b : Bd} {p : Nat × Nat} (hb : bs[i]? = some b) (hp : pl[i]? = some p) : ledI bs pl c t (i + 1) = ((ledI bs pl c t i).1 || (passedF b p (decide ((i : Int) = c)) t).1, rowsNext (ledI bs pl c t i).2 (passedF b p (decide ((i : Int) = c)) t).2) := by
  show (match bs[i]?, pl[i]? with | some b, some p => _ | _, _ => _) = _
  rw [hb, hp]
theorem rowsNext_len (rows : List Pl) (ps : List (Nat × Nat)) : (rowsNext rows ps).length = rows.length * ps.length := by
  unfold rowsNext
  induction rows with
  | nil => simp
  | cons r rows ih =>
    rw [List.flatMap_cons, List.length_append, ih, List.length_map, List.length_cons, Nat.succ_mul, Nat.add_comm]
theorem ledI_row {bs : List Bd} {pl : Pl} (hl : pl.length = bs.length) {c : Int} {t : Nat} : ∀ {i : Nat}, i ≤ bs.length → ∀ r ∈ (ledI bs pl c t i).2, List.length r = i
  | 0, _, r, hr => by
    have : r ∈ ([[]] : List Pl) := hr
    rw [List.mem_singleton] at this
    rw [this]
    rfl
  | i + 1, hi, r, hr => by
    obtain ⟨b, hb⟩ := at_ex (l := bs) (i := i) (by omega)
    obtain ⟨p, hp⟩ := at_ex (l := pl) (i := i) (by omega)
    rw [ledI_succ hb hp] at hr
    obtain ⟨r0, h0, hr⟩ := List.mem_flatMap.mp hr
    obtain ⟨q, _, rfl⟩ := List.mem_map.mp hr
    rw [List.length_append, ledI_row hl (by omega) r0 h0]
    rfl
end My
namespace My
open PySem L2
theorem op_catAK {X : Cx} {K : PySem.W.Frag} (hK : X.K = K) : OpR X (binaryOp .Add) (rCatA K) := hK ▸ op_catA
theorem cr_sortedNK {X : Cx} {K : PySem.W.Frag} (hK : X.K = K) (hu : X.A.units + 64 < cLine) : CallR X (.builtin "sorted") (rSortN K) := hK ▸ cr_sortedN hu
theorem alike_pairs : ∀ a b : Pl, PySem.W.alikeAll (NestedKey.datas (a.map pairK)) (NestedKey.datas (b.map pairK)) = true
  | [], [] => rfl
  | [], _ :: _ => rfl
  | _ :: _, [] => rfl
  | p :: a, q :: b => by
    show (PySem.W.alike (pairK p).data (pairK q).data && PySem.W.alikeAll (NestedKey.datas (a.map pairK)) (NestedKey.datas (b.map pairK))) = true
    rw [alike_pairs a b]
    rfl
theorem alike_pk (a b : Pl) : PySem.W.alike (pk a).data (pk b).data = true := alike_pairs a b
/-- values and the standings that they are -/
abbrev ZP := V × Pl
def kbOf (z : ZP) : KB := (z.1, pk z.2)
def leZ (a b : ZP) : Bool := leP a.2 b.2
theorem sort_fst (zs : List ZP) : ((zs.map kbOf).mergeSort leN).map (·.1) = (zs.mergeSort leZ).map (·.1) := by
  rw [← List.map_mergeSort (r := leZ) (s := leN) (f := kbOf) (fun a _ b _ => rfl), List.map_map]
  rfl
theorem sort_snd (zs : List ZP) : (zs.mergeSort leZ).map (·.2) = (zs.map (·.2)).mergeSort leP := List.map_mergeSort (r := leZ) (s := leP) (f := fun z : ZP => z.2) (fun a _ b _ => rfl)
theorem paired_zip {K : PySem.W.Frag} {H : Hp} {vs : List V} {rows : List Pl} (h : Paired (PlV K H) vs rows) : ∃ zs : List ZP, zs.map (·.1) = vs ∧ zs.map (·.2) = rows ∧ ∀ z ∈ zs, PlV K H z.1 z.2 := by
  induction h with
  | nil => exact ⟨[], rfl, rfl, fun z hz => nomatch hz⟩
  | @cons v p vs ps h _ ih =>
    obtain ⟨zs, e1, e2, e3⟩ := ih
    refine ⟨(v, p) :: zs, by rw [List.map_cons, e1], by rw [List.map_cons, e2], fun z hz => ?_⟩
    rcases List.mem_cons.mp hz with rfl | hz
    · exact h
    · exact e3 z hz
theorem zip_paired {K : PySem.W.Frag} {H : Hp} : ∀ {zs : List ZP}, (∀ z ∈ zs, PlV K H z.1 z.2) → Paired (PlV K H) (zs.map (·.1)) (zs.map (·.2))
  | [], _ => .nil
  | z :: zs, h => .cons (h z List.mem_cons_self) (zip_paired fun y hy => h y (List.mem_cons_of_mem _ hy))
def RowsPl (K : PySem.W.Frag) (H : Hp) (a : Addr) (rows : List Pl) : Prop := ∃ vs, H a = some (.lst vs) ∧ Paired (PlV K H) vs rows
theorem RowsPl.mono {K : PySem.W.Frag} {H H' : Hp} {a : Addr} {rows : List Pl} (s : Same H H') (h : RowsPl K H a rows) : RowsPl K H' a rows := let ⟨vs, e, q⟩ := h; ⟨vs, s _ _ e, L2.Paired.mapP q fun _ _ => PlV.mono s⟩
theorem PlV.updL {K : PySem.W.Frag} {H : Hp} {D : Addr} {xs : List V} {o : HO} {v : V} {p : Pl} (hD : H D = some (.lst xs)) (h : PlV K H v p) : PlV K (upd H D o) v p := let ⟨a, ys, e, q, r⟩ := h; ⟨a, ys, e, SqT.updL' hD q, L2.Paired.mapP r fun _ _ z => z.updL hD⟩
/-- row + (pair,) -/
theorem PlV.app {K : PySem.W.Frag} {H : Hp} {xs : List V} {r : Pl} {u : V} {p : Nat × Nat} {a : Addr} (hx : Paired (PairV K H) xs r) (hu : PairV K H u p) (ha : SqT K H a (xs ++ [u])) : PlV K H (.ref a) (r ++ [p]) := ⟨a, _, rfl, ha, Paired.snoc hx hu⟩
theorem ledI_len {bs : List Bd} {pl : Pl} {c : Int} {t : Nat} (hl : pl.length = bs.length) : ∀ {i : Nat}, i ≤ bs.length → (ledI bs pl c t i).2.length ≤ (t + 1) ^ i
  | 0, _ => Nat.le_refl _
  | i + 1, hi => by
    obtain ⟨b, hb⟩ := at_ex (l := bs) (i := i) (by omega)
    obtain ⟨p, hp⟩ := at_ex (l := pl) (i := i) (by omega)
    rw [ledI_succ hb hp]
    show (rowsNext _ _).length ≤ _
    rw [rowsNext_len, Nat.pow_succ]
    exact Nat.mul_le_mul (ledI_len hl (by omega)) (passedF_len _ _ _ _)
theorem ticks_le {bs : List Bd} (h : BdsOk bs) (c : Int) : ticksF bs c ≤ 6 := by
  unfold ticksF
  split
  · decide
  · cases e : bs[c.toNat]? with
    | none => show 1 ≤ 6; decide
    | some b => exact (h.ok b (List.mem_of_getElem? e)).w2
theorem dec_int {a b : Int} [Decidable (V.int a = V.int b)] : decide (V.int a = V.int b) = decide (a = b) := by
  rw [decide_eq_decide]
  exact ⟨fun z => V.int.inj z, fun z => by rw [z]⟩
theorem orV_go {c d : Bool} {j : Nat} {σ : L2.St} {H : Hp} {Q : VK} (hv : σ[j]? = some (some (.bl d))) (h : Q (.bl (c || d)) H) : if c = true then Q (.bl true) H else tVar j σ H Q := by
  cases c
  · exact ⟨_, hv, h⟩
  · exact h
/-- the rows made so far, in the list that a comprehension fills -/
structure CL (K : PySem.W.Frag) (H0 : Hp) (D : Addr) (H : Hp) (out : List Pl) : Prop where
  same : Same H0 H
  at_ : RowsPl K H D out
theorem CL.push {K : PySem.W.Frag} {H0 H H' : Hp} {D : Addr} {out : List Pl} {y : V} {p : Pl} (h : CL K H0 D H out) (hD : H0 D = none) (s : Same H H') (hy : PlV K H' y p) (hl : out.length < 100000) :
    ∃ acc, H' D = some (.lst acc) ∧ acc.length < sizeLine ∧ CL K H0 D (upd H' D (.lst (acc ++ [y]))) (out ++ [p]) := by
  obtain ⟨acc, e, q⟩ := h.at_
  have e' := s _ _ e
  have ql := q.length
  refine ⟨acc, e', size_lt (by omega), same_mut (h.same.trans s) hD, _, upd_same, Paired.snoc (L2.Paired.mapP q fun _ _ z => (z.mono s).updL e') (hy.updL e')⟩
theorem rowsNext_snoc {rows : List Pl} {r : Nat} {row : Pl} {ps : List (Nat × Nat)} (h : rows[r]? = some row) : rowsNext (rows.take (r + 1)) ps = rowsNext (rows.take r) ps ++ ps.map fun p => row ++ [p] := by
  unfold rowsNext
  rw [take_snoc h, List.flatMap_append, List.flatMap_cons, List.flatMap_nil, List.append_nil]
theorem okPl_at2 : ∀ {bs : List Bd} {pl : Pl} {i : Nat} {p : Nat × Nat}, okPl bs pl → pl[i]? = some p → ∃ b, bs[i]? = some b ∧ okP b p
  | [], [], i, p, _, h => by simp at h
  | b :: bs, q :: ps, 0, p, h, e => by
    simp at e
    subst e
    exact ⟨b, rfl, h.1⟩
  | b :: bs, q :: ps, i + 1, p, h, e => okPl_at2 (bs := bs) (pl := ps) (i := i) h.2 (by simpa using e)
theorem okPl_age {bs : List Bd} {pl : Pl} {i : Nat} {p : Nat × Nat} (hok : BdsOk bs) (h : okPl bs pl) (e : pl[i]? = some p) : p.2 ≤ 1000 := by
  obtain ⟨b, hb, hp⟩ := okPl_at2 h e
  have o := hok.ok b (List.mem_of_getElem? hb)
  have h1 := o.l2
  have h2 := o.a2
  rcases hp with ⟨_, hp⟩ | ⟨_, hp⟩ <;> omega
section
variable {P : Program} {w : World} {K : PySem.W.Frag} {mg : Str → Option Value} {base : Heap}
abbrev s_led : Stmt := top 28
abbrev N_led : List Str := ["boards", "standing", "choice", "ticks", "risky", "rows", "index", "board", "falls", "pairs", "row", "pair"]
theorem sc_led : FnScope N_led ["boards", "standing", "choice"] (C8.fnScope s_led) := C8.fnScope_by (by decide +kernel)
def sp_led (K : PySem.W.Frag) : Sp := fun vs H Q _ => ∃ (ba : Addr) (v : V) (bs : List Bd) (pl : Pl) (c : Int), vs = [.ref ba, v, .int c] ∧ BdsAt K H ba bs ∧ PlV K H v pl ∧ BdsOk bs ∧ okPl bs pl ∧ (c = -1 ∨ ∃ k : Nat, k < bs.length ∧ c = (k : Int)) ∧
  ∀ (p l : Addr) H', Same H H' → SqT K H' p [.bl (ledF bs pl c).1, .ref l] → RowsPl K H' l (ledF bs pl c).2 → H l = none → Q (.ref p) H'
theorem ok_led {f : Addr} {fd : FuncData} (F : C8.Def K mg "led" s_led f fd) (b : Binds K fd ["boards", "standing", "choice"] []) (T : Gb mg) (c_passed : C8.Cal P w K mg base 2 "passed" (sp_passed K) []) : C8.Cal P w K mg base 3 "led" (sp_led K) [] := by
  refine C8.cal0 F b .nil sc_led (fun vs H Q E h => ?_) (fun cdv A outer s H vs Q E hr h => ?_)
  · obtain ⟨ba, v, bs, pl, c, rfl, _⟩ := h
    rfl
  · obtain ⟨ba, v, bs, pl, c, rfl, hB, hP, hok, hokp, hc, q⟩ := h
    obtain ⟨xs, hxs, hxp⟩ := hB.ex
    obtain ⟨sa, ys, rfl, hys, hyp⟩ := id hP
    have hl := okPl_len hokp
    have l1 := hxp.length
    have l2 := hyp.length
    have n1 := hok.n1
    have n2 := hok.n2
    have ht6 := ticks_le hok c
    refine ⟨_, (C8.pss_cut (ps_set (i := 3) sc_led.nd rfl (Or.inl rfl) (pe_ifExp (pt_cmpR op_eq (pv 2) (C8.pe_gc (by rfl) T.WAIT) (nomark _)) pe_int (pe_ix (ix_tupK K rfl) (pe_ix (ix_listK K rfl) (pv 0) (pv 2) (fun _ _ => rfl)) pe_int (fun _ _ => rfl))))
(pss_cons (ps_set (i := 4) sc_led.nd rfl (Or.inl rfl) pe_bl)
(pss_cons (ps_set (i := 5) sc_led.nd rfl (Or.inl rfl) (pe_lst (pa_cons (pe_tup pa_nil) pa_nil)))
(pss_cons (ps_for PassesOwn.never rfl (pi_enum (by rfl) T.enumerate (pa_cons (pv 0) pa_nil)) (pg_tup (by rfl) (pgs_cons (pg_name (i := 6) sc_led.nd rfl (Or.inl rfl)) (pgs_cons (pg_name (i := 7) sc_led.nd rfl (Or.inl rfl)) pgs_nil)))
(pss_cons (ps_asg (C8.pe_c c_passed hr (by decide) (by rfl) (pa_cons (pv 7) (pa_cons (pe_ix (ix_tupK K rfl) (pv 1) (pv 6) (fun _ _ => rfl)) (pa_cons (pe_cmpR op_eq (pv 6) (pv 2) (nomark _)) (pa_cons (pv 3) pa_nil))))) (pg_tup (by rfl) (pgs_cons (pg_name (i := 8) sc_led.nd rfl (Or.inl rfl)) (pgs_cons (pg_name (i := 9) sc_led.nd rfl (Or.inr rfl)) pgs_nil))))
(pss_cons (ps_set (i := 4) sc_led.nd rfl (Or.inl rfl) (pe_or (pv 4) (pe_one (pv 8))))
(pss_one (ps_setLc2 (i := 5) (own := [("row", 10), ("pair", 11)]) (vs1 := [11]) rfl sc_led.nd rfl rfl (sw_true rfl rfl rfl (by decide +kernel)) (pi_listK K rfl (pv 5)) (blkOk_by (N := N_led) (sc := C8.fnScope s_led) (by decide +kernel)) (by decide) (fun _ _ _ _ _ => (pg_name (i := 10) sc_led.nd rfl (Or.inl rfl))) (fun _ _ _ _ _ => pts_nil)
  (fun _ _ _ _ _ => (pi_listK K rfl (pv 9))) (fun _ _ _ _ _ => (pg_name (i := 11) sc_led.nd rfl (Or.inl rfl))) (fun _ _ _ _ _ => pts_nil) (fun _ _ _ _ _ => (pe_op (op_catAK (K := K) rfl) (pv 10) (pe_tup (pa_cons (pv 11) pa_nil)))))))))
(pss_one (ps_ret (pe_tup (pa_cons (pv 4) (pa_cons (pe_callB (cr_sortedNK (K := K) rfl (Nat.lt_of_le_of_lt (Nat.add_le_add_left (by decide) _) hr.un)) (by rfl) T.sorted (by decide +kernel) (pa_cons (pv 5) pa_nil)) pa_nil))))))))), ?_⟩
    refine ⟨fun σ H' => H' = H ∧ σ = [some (.ref ba), some (.ref sa), some (.int c), some (nV (ticksF bs c)), none, none, none, none, none, none, none, none], ?_, ?_⟩
    · refine ⟨_, rfl, rfl, _, rfl, ?_⟩
      rcases hc with rfl | ⟨k, hk, rfl⟩
      · refine ifT rfl ?_
        exact ⟨rfl, rfl⟩
      · obtain ⟨bd, hbd⟩ := at_ex (l := bs) (i := k) hk
        obtain ⟨xv, hxv⟩ := at_ex (l := xs) (i := k) (by omega)
        obtain ⟨bd', hbd', z, rfl, hz⟩ := paired_at hxp hxv
        rw [hbd] at hbd'
        cases hbd'
        refine ifF (by intro z; have z := V.int.inj z; omega) ?_
        refine ⟨_, rfl, _, rfl, ba, _, _, _, rfl, rfl, hxs, atI_nat hxv, z, _, 0, nV bd.work, rfl, rfl, hz, rfl, ?_⟩
        have et : ticksF bs (k : Int) = bd.work := by
          unfold ticksF
          rw [if_neg (by omega), show ((k : Int)).toNat = k by omega, hbd]
          rfl
        rw [et]
        exact ⟨rfl, rfl⟩
    rintro σ1 H1 ⟨rfl, rfl⟩
    refine ⟨by show 0 ≤ sizeLine; decide, fun e0 he0 => ⟨by show 1 ≤ sizeLine; decide, fun D hD => ?_⟩⟩
    have sm0 := same_new (o := .lst [.ref e0]) (same_new (o := .tup []) (Same.refl H1) he0) hD
    have hD0 : H1 D = none := (same_new (o := .tup []) (Same.refl H1) he0).free hD
    refine ⟨_, rfl, ba, xs, rfl, sm0.seq hxs, for_it (walk_enum (xs := xs)) (fun i σ H' => Same H1 H' ∧ ∃ D v6 v7 v8 v9 v10 v11, H1 D = none ∧ RowsPl K H' D (ledI bs pl c (ticksF bs c) i).2 ∧ σ = [some (.ref ba), some (.ref sa), some (.int c), some (nV (ticksF bs c)), some (.bl (ledI bs pl c (ticksF bs c) i).1), some (.ref D), v6, v7, v8, v9, v10, v11])
      ⟨sm0, D, _, _, _, _, _, _, hD0, ⟨[.ref e0], upd_same, .cons ⟨e0, _, rfl, SqT.of ((upd_ne (ne_of_none' upd_same hD)).trans upd_same), .nil⟩ .nil⟩, rfl⟩ (fun i σ H' _ h => h.1.seq hxs) ?_ ?_⟩
    · rintro i v σ H2 H2' hi ⟨sm1, D2, v6, v7, v8, v9, v10, v11, hD2, hrows, rfl⟩ ⟨t, x, y, rfl, ht, rfl, hx, hy⟩
      cases hx
      obtain ⟨bd, hbd, hbv⟩ := paired_at hxp hy
      obtain ⟨yv, hyv⟩ := at_ex (l := ys) (i := i) (by omega)
      obtain ⟨pr, hpr, hpv⟩ := paired_at hyp hyv
      have smt := same_new (o := .tup [.int (i : Int), y]) sm1 ht
      refine ⟨t, _, rfl, SqT.of upd_same, rfl, _, _, rfl, _, _, rfl, rfl, ?_⟩
      have hag : pr.2 ≤ 1000 := okPl_age hok hokp hpr
      refine ⟨_, rfl, _, rfl, _, rfl, sa, ys, _, yv, rfl, rfl, smt.tup hys, atI_nat hyv, _, rfl, _, rfl, rfl, _, rfl, ?_⟩
      refine ⟨y, yv, bd, pr, decide ((i : Int) = c), _, congrArg (fun b => ([y, yv, V.bl b, nV (ticksF bs c)] : List V)) dec_int, hbv.mono smt, hpv.mono smt, hag, by omega, fun p l H3 sm3 hp hls hfree => ?_⟩
      refine ⟨p, _, rfl, hp, rfl, _, _, rfl, _, _, rfl, rfl, ?_⟩
      obtain ⟨rv, hrv, hrp⟩ := hrows
      obtain ⟨pvs, hpvs, hpvp⟩ := hls
      have s23 : Same H2 H3 := (same_new (o := .tup [.int (i : Int), y]) (Same.refl H2) ht).trans sm3
      have hR : (ledI bs pl c (ticksF bs c) i).2.length ≤ 7 := by
        refine Nat.le_trans (ledI_len hl (by omega)) ?_
        rcases (show i = 0 ∨ i = 1 by omega) with rfl | rfl
        · rw [Nat.pow_zero]; decide
        · rw [Nat.pow_one]; omega
      have hRl : ∀ r ∈ (ledI bs pl c (ticksF bs c) i).2, List.length r = i := ledI_row hl (by omega)
      have hPs := passedF_len bd pr (decide ((i : Int) = c)) (ticksF bs c)
      have hlr := hrp.length
      have hlp := hpvp.length
      have eS := ledI_succ (bs := bs) (pl := pl) (c := c) (t := ticksF bs c) hbd hpr
      generalize ledI bs pl c (ticksF bs c) i = LI at hR hRl hrp hlr eS ⊢
      generalize passedF bd pr (decide ((i : Int) = c)) (ticksF bs c) = PF at hPs hp hpvp hlp eS ⊢
      refine ⟨_, rfl, LI.1, rfl, orV_go rfl ?_⟩
      refine ⟨_, rfl, D2, rfl, ⟨_, SqL.of (s23 _ _ hrv)⟩, fun Dn hDn => lc2_it (walk_list (xs := rv)) (fun r H' => CL K H3 Dn H' (rowsNext (LI.2.take r) PF.2)) ⟨same_new (Same.refl _) hDn, [], upd_same, .nil⟩ (fun r H' _ h => h.same.seq (SqL.of (s23 _ _ hrv))) ?_ ?_⟩
      · rintro r x H4 H4' hr4 C4 ⟨rfl, hx4⟩
        obtain ⟨row, hrow, hrowv⟩ := paired_at hrp hx4
        refine ⟨rfl, yes_go ?_⟩
        refine ⟨_, rfl, l, rfl, ⟨_, C4.same.seq (SqL.of hpvs)⟩, lc_in (walk_list (xs := pvs)) (fun j H' => CL K H3 Dn H' (rowsNext (LI.2.take r) PF.2 ++ (PF.2.take j).map fun p => row ++ [p])) (by rw [List.take_zero, List.map_nil, List.append_nil]; exact C4) (fun j H' _ h => h.same.seq (SqL.of hpvs)) ?_ ?_⟩
        · rintro j x2 H5 H5' hj5 C5 ⟨rfl, hx5⟩
          obtain ⟨p5, hp5, hpv5⟩ := paired_at hpvp hx5
          refine ⟨rfl, yes_go ?_⟩
          obtain ⟨ra, rxs, rfl, hra, hrap⟩ := hrowv.mono (s23.trans C5.same)
          have lra := hrap.length
          have hlrow := hRl row (List.mem_of_getElem? hrow)
          have hout : (rowsNext (LI.2.take r) PF.2 ++ (PF.2.take j).map fun p => row ++ [p]).length < 100000 := by
            rw [List.length_append, rowsNext_len, List.length_map]
            have h1 : (LI.2.take r).length ≤ 7 := by rw [List.length_take]; omega
            have h2 : (PF.2.take j).length ≤ 7 := by rw [List.length_take]; omega
            have h3 : (LI.2.take r).length * PF.2.length ≤ 7 * 7 := Nat.mul_le_mul h1 (by omega)
            omega
          have eo : rowsNext (LI.2.take r) PF.2 ++ (PF.2.take (j + 1)).map (fun p => row ++ [p]) = rowsNext (LI.2.take r) PF.2 ++ (PF.2.take j).map (fun p => row ++ [p]) ++ [row ++ [p5]] := by
            rw [take_snoc hp5, List.map_append, List.append_assoc]
            rfl
          have hpv5' := hpv5.mono C5.same
          refine ⟨_, rfl, _, rfl, by show 1 ≤ sizeLine; decide, fun u hu => ?_⟩
          have su := same_new (o := .tup [x2]) (Same.refl H5') hu
          rw [eo]
          refine ⟨ra, u, rxs, [x2], rfl, rfl, su.tup hra, SqT.of upd_same, size_le (by show _ + 1 ≤ _; omega), fun e => ?_, fun _ e => (nomatch e), fun _ _ z hz => ?_⟩
          · subst e
            exact C5.push hDn su (PlV.app (xs := []) (L2.Paired.mapP hrap fun _ _ => PairV.mono su) (hpv5'.mono su) (SqT.of upd_same)) hout
          · have sz := same_new (o := .tup (rxs ++ [x2])) su hz
            exact C5.push hDn sz (PlV.app (L2.Paired.mapP hrap fun _ _ => PairV.mono sz) (hpv5'.mono sz) (SqT.of upd_same)) hout
        · intro H5 C5
          rw [hlp, List.take_length, ← rowsNext_snoc hrow] at C5
          exact C5
      · intro H4 C4
        rw [hlr, List.take_length] at C4
        exact ⟨(smt.trans sm3).trans C4.same, Dn, _, _, _, _, _, _, (smt.trans sm3).free hDn, by rw [eS]; exact C4.at_, by rw [eS]; rfl⟩
    · rintro σ H2 ⟨sm1, D2, v6, v7, v8, v9, v10, v11, hD2, ⟨vs, hvs, hpv⟩, rfl⟩
      rw [l1] at hpv ⊢
      obtain ⟨zs, rfl, z2, z3⟩ := paired_zip hpv
      refine ⟨_, rfl, _, rfl, D2, zs.map kbOf, rfl, ?_⟩
      have e1 : (zs.map kbOf).map (·.1) = zs.map (·.1) := by rw [List.map_map]; rfl
      have hlen : ∀ z ∈ zs, z.2.length = bs.length := fun z hz => ledI_row hl (by omega) z.2 (by rw [← z2]; exact List.mem_map_of_mem hz)
      refine ⟨e1 ▸ SqL.of hvs, ?_, ?_, ?_, fun l hl2 => ?_⟩
      · intro z0 hz0
        obtain ⟨z, hz, rfl⟩ := List.mem_map.mp hz0
        exact ⟨plV_key (z3 z hz), pk_depth _⟩
      · intro d hd d' hd'
        obtain ⟨_, hz0, rfl⟩ := List.mem_map.mp hd
        obtain ⟨z, hz, rfl⟩ := List.mem_map.mp hz0
        obtain ⟨_, hz0', rfl⟩ := List.mem_map.mp hd'
        obtain ⟨z', hz', rfl⟩ := List.mem_map.mp hz0'
        exact alike_pk z.2 z'.2
      · refine .inl fun d hd => ?_
        obtain ⟨_, hz0, rfl⟩ := List.mem_map.mp hd
        obtain ⟨z, hz, rfl⟩ := List.mem_map.mp hz0
        have hz1 := hlen z hz
        obtain ⟨zv, zp⟩ := z
        cases zp with
        | nil => exact absurd hz1 (by show ¬ 0 = _; omega)
        | cons p r => exact ⟨_, _, rfl⟩
      refine ⟨by show 2 ≤ sizeLine; decide, fun r hr2 => ?_⟩
      have sl := same_new (o := .lst (((zs.map kbOf).mergeSort leN).map (·.1))) sm1 hl2
      have sr0 := same_new (o := .tup [.bl (ledI bs pl c (ticksF bs c) bs.length).1, .ref l]) (Same.refl _) hr2
      have sr := sl.trans sr0
      have nl : l ≠ r := ne_of_none' upd_same hr2
      have s2 := (same_new (o := .lst (((zs.map kbOf).mergeSort leN).map (·.1))) (Same.refl H2) hl2).trans sr0
      have hz := zip_paired (zs := zs.mergeSort leZ) fun z hz => (z3 z ((List.mergeSort_perm _ _).mem_iff.mp hz)).mono s2
      rw [sort_snd, z2, ← sort_fst] at hz
      exact q r l _ sr (SqT.of upd_same) ⟨_, (upd_ne nl).trans upd_same, hz⟩ (sm1.free hl2)
end
end My
namespace My
open PySem L2
/-! ### standings are few, and led keeps to them -/
theorem passed_ok {b : Bd} (o : b.Ok) {p : Nat × Nat} {c : Bool} {t : Nat} {q : Nat × Nat} (h : q ∈ (passedF b p c t).2) : okP b q := by
  unfold passedF at h
  split at h
  · have h : q ∈ ansP b p.2 t t ++ (if p.2 + t < b.late then [(1, p.2 + t)] else []) := h
    rcases List.mem_append.mp h with h | h
    · obtain ⟨i, hi, rfl⟩ := List.mem_map.mp h
      have hi := (List.mem_filter.mp hi).2
      rw [Bool.and_eq_true] at hi
      exact .inl ⟨rfl, of_decide_eq_true hi.2⟩
    · split at h
      · rw [List.mem_singleton] at h
        subst h
        exact .inr ⟨rfl, by assumption⟩
      · cases h
  · split at h
    · cases h
    · split at h
      · rw [List.mem_singleton] at h
        subst h
        have h1 := o.s1
        have h2 := o.s2
        exact .inr ⟨rfl, by show 0 < b.late; omega⟩
      · rw [List.mem_singleton] at h
        subst h
        exact .inl ⟨rfl, by show p.2 + t ≤ b.limit; omega⟩
theorem okPl_snoc : ∀ {bs : List Bd} {r : Pl} {b : Bd} {q : Nat × Nat}, okPl bs r → okP b q → okPl (bs ++ [b]) (r ++ [q])
  | [], [], b, q, _, h => ⟨h, trivial⟩
  | x :: bs, y :: r, b, q, h, h2 => ⟨h.1, okPl_snoc (bs := bs) (r := r) h.2 h2⟩
theorem ledI_ok {bs : List Bd} (hok : BdsOk bs) {pl : Pl} (hl : pl.length = bs.length) {c : Int} {t : Nat} : ∀ {i : Nat}, i ≤ bs.length → ∀ r ∈ (ledI bs pl c t i).2, okPl (bs.take i) r
  | 0, _, r, hr => by
    have : r ∈ ([[]] : List Pl) := hr
    rw [List.mem_singleton] at this
    rw [this]
    exact trivial
  | i + 1, hi, r, hr => by
    obtain ⟨b, hb⟩ := at_ex (l := bs) (i := i) (by omega)
    obtain ⟨p, hp⟩ := at_ex (l := pl) (i := i) (by omega)
    rw [ledI_succ hb hp] at hr
    obtain ⟨r0, h0, hr⟩ := List.mem_flatMap.mp hr
    obtain ⟨q, hq, rfl⟩ := List.mem_map.mp hr
    rw [take_snoc hb]
    exact okPl_snoc (ledI_ok hok hl (by omega) r0 h0) (passed_ok (hok.ok b (List.mem_of_getElem? hb)) hq)
theorem led_ok {bs : List Bd} (hok : BdsOk bs) {pl : Pl} (hl : pl.length = bs.length) {c : Int} {r : Pl} (h : r ∈ (ledF bs pl c).2) : okPl bs r := by
  have h := ledI_ok hok hl (Nat.le_refl _) r ((List.mergeSort_perm _ _).mem_iff.mp h)
  rw [List.take_length] at h
  exact h
theorem led_len {bs : List Bd} (hok : BdsOk bs) {pl : Pl} (hl : pl.length = bs.length) (c : Int) : (ledF bs pl c).2.length ≤ 49 := by
  have h : (ledF bs pl c).2.length = (ledI bs pl c (ticksF bs c) bs.length).2.length := List.length_mergeSort _
  rw [h]
  have h6 := ticks_le hok c
  have n1 := hok.n1
  have n2 := hok.n2
  refine Nat.le_trans (ledI_len hl (Nat.le_refl _)) (Nat.le_trans (Nat.pow_le_pow_left (show ticksF bs c + 1 ≤ 7 by omega) _) (Nat.le_trans (Nat.pow_le_pow_right (by decide) n2) (by decide)))
theorem able_len (pl : Pl) : (ableI pl).length ≤ pl.length + 1 := by
  unfold ableI ableN
  rw [List.length_cons, List.length_map]
  have := List.length_filter_le (isHand pl) (List.range pl.length)
  rw [List.length_range] at this
  omega
theorem able_ok {pl : Pl} {c : Int} (h : c ∈ ableI pl) : c = -1 ∨ ∃ k : Nat, k < pl.length ∧ c = (k : Int) := by
  rcases List.mem_cons.mp h with h | h
  · exact .inl h
  · obtain ⟨k, hk, rfl⟩ := List.mem_map.mp h
    exact .inr ⟨k, List.mem_range.mp (List.mem_filter.mp hk).1, rfl⟩
def allP (b : Bd) : List (Nat × Nat) := (List.range (b.limit + 1)).map (fun n => (0, n)) ++ (List.range b.late).map fun n => (1, n)
def allPl : List Bd → List Pl
  | [] => [[]]
  | b :: bs => (allP b).flatMap fun p => (allPl bs).map fun r => p :: r
theorem mem_allP {b : Bd} {p : Nat × Nat} (h : okP b p) : p ∈ allP b := by
  obtain ⟨x, y⟩ := p
  rcases h with ⟨h1, h2⟩ | ⟨h1, h2⟩
  · cases h1
    exact List.mem_append.mpr (.inl (List.mem_map.mpr ⟨y, List.mem_range.mpr (Nat.lt_succ_of_le h2), rfl⟩))
  · cases h1
    exact List.mem_append.mpr (.inr (List.mem_map.mpr ⟨y, List.mem_range.mpr h2, rfl⟩))
theorem mem_allPl : ∀ {bs : List Bd} {r : Pl}, okPl bs r → r ∈ allPl bs
  | [], [], _ => List.mem_cons_self
  | b :: bs, p :: r, h => List.mem_flatMap.mpr ⟨p, mem_allP h.1, List.mem_map.mpr ⟨r, mem_allPl h.2, rfl⟩⟩
theorem flat_len {α β : Type} {f : α → List β} {n : Nat} : ∀ {l : List α}, (∀ a ∈ l, (f a).length ≤ n) → (l.flatMap f).length ≤ l.length * n
  | [], _ => Nat.zero_le _
  | a :: l, h => by
    rw [List.flatMap_cons, List.length_append, List.length_cons, Nat.succ_mul]
    have h1 := h a List.mem_cons_self
    have h2 := flat_len (f := f) (n := n) (l := l) fun b hb => h b (List.mem_cons_of_mem _ hb)
    omega
theorem allP_len {b : Bd} (o : b.Ok) : (allP b).length ≤ 21 := by
  have h1 := o.l2
  have h2 := o.a2
  unfold allP
  rw [List.length_append, List.length_map, List.length_map, List.length_range, List.length_range]
  omega
theorem allPl_len : ∀ {bs : List Bd}, (∀ b ∈ bs, b.Ok) → (allPl bs).length ≤ 21 ^ bs.length
  | [], _ => Nat.le_refl _
  | b :: bs, h => by
    have h1 := allP_len (h b List.mem_cons_self)
    have h2 := allPl_len (bs := bs) fun x hx => h x (List.mem_cons_of_mem _ hx)
    have h3 := flat_len (f := fun p => (allPl bs).map fun r => p :: r) (n := 21 ^ bs.length) (l := allP b) fun p _ => by rw [List.length_map]; exact h2
    rw [List.length_cons, Nat.pow_succ, Nat.mul_comm]
    exact Nat.le_trans h3 (Nat.mul_le_mul_right _ h1)
theorem nodup_len {α : Type} [DecidableEq α] : ∀ {l m : List α}, l.Nodup → (∀ a ∈ l, a ∈ m) → l.length ≤ m.length
  | [], _, _, _ => Nat.zero_le _
  | a :: l, m, h, s => by
    have hn := List.nodup_cons.mp h
    have ha := s a List.mem_cons_self
    have h2 := nodup_len (l := l) (m := m.erase a) hn.2 fun b hb => (List.mem_erase_of_ne (fun e : b = a => hn.1 (by rw [← e]; exact hb))).mpr (s b (List.mem_cons_of_mem _ hb))
    rw [List.length_erase_of_mem ha] at h2
    have hp := List.length_pos_of_mem ha
    rw [List.length_cons]
    omega
theorem few {bs : List Bd} (hok : BdsOk bs) {ks : List Pl} (hn : ks.Nodup) (h : ∀ k ∈ ks, okPl bs k) : ks.length ≤ 441 := by
  have n2 := hok.n2
  exact Nat.le_trans (nodup_len hn fun k hk => mem_allPl (h k hk)) (Nat.le_trans (allPl_len hok.ok) (Nat.le_trans (Nat.pow_le_pow_right (by decide) n2) (by decide)))
end My
namespace My
open PySem L2
/-! ### the table: standings, and for each of their choices what led tells -/
def rowF (bs : List Bd) (pl : Pl) : List (Bool × List Pl) := (ableI pl).map (ledF bs pl)
/-- what led told, with its list off the addresses X -/
def LedV (K : PySem.W.Frag) (H : Hp) (X : List Addr) (v : V) (r : Bool × List Pl) : Prop := ∃ a l, v = .ref a ∧ SqT K H a [.bl r.1, .ref l] ∧ RowsPl K H l r.2 ∧ l ∉ X
theorem LedV.mono {K : PySem.W.Frag} {H H' : Hp} {X : List Addr} {v : V} {r : Bool × List Pl} (s : Same H H') (h : LedV K H X v r) : LedV K H' X v r := let ⟨a, l, e, q, r, n⟩ := h; ⟨a, l, e, s.tup q, r.mono s, n⟩
def RowV (K : PySem.W.Frag) (H : Hp) (X : List Addr) (v : V) (rs : List (Bool × List Pl)) : Prop := ∃ a vs, v = .ref a ∧ H a = some (.lst vs) ∧ Paired (LedV K H X) vs rs ∧ a ∉ X
theorem RowV.mono {K : PySem.W.Frag} {H H' : Hp} {X : List Addr} {v : V} {rs : List (Bool × List Pl)} (s : Same H H') (h : RowV K H X v rs) : RowV K H' X v rs := let ⟨a, vs, e, q, r, n⟩ := h; ⟨a, vs, e, s _ _ q, L2.Paired.mapP r fun _ _ => LedV.mono s, n⟩
/-- H' is H but at the addresses X, which held no tuples -/
structure But (X : List Addr) (H H' : Hp) : Prop where
  same : ∀ a o, a ∉ X → H a = some o → H' a = some o
  kind : ∀ a ∈ X, (∃ xs, H a = some (.lst xs)) ∨ (∃ q, H a = some (.ext q)) ∨ H a = none
theorem But.tup {K : PySem.W.Frag} {X : List Addr} {H H' : Hp} {a : Addr} {xs : List V} (s : But X H H') (h : SqT K H a xs) : SqT K H' a xs := by
  by_cases n : a ∈ X
  · rcases s.kind a n with ⟨ys, e⟩ | ⟨q, e⟩ | e
    · rcases h with (h | ⟨o, h⟩) | h
      · rw [e] at h; cases h
      · rw [e] at h; cases h
      · exact .inr h
    · rcases h with (h | ⟨o, h⟩) | h
      · rw [e] at h; cases h
      · rw [e] at h; cases h
      · exact .inr h
    · rcases h with (h | ⟨o, h⟩) | h
      · rw [e] at h; cases h
      · rw [e] at h; cases h
      · exact .inr h
  · rcases h with (h | ⟨o, h⟩) | h
    · exact .inl (.inl (s.same _ _ n h))
    · exact .inl (.inr ⟨o, s.same _ _ n h⟩)
    · exact .inr h
theorem But.pair {K : PySem.W.Frag} {X : List Addr} {H H' : Hp} (s : But X H H') {v : V} {p : Nat × Nat} (h : PairV K H v p) : PairV K H' v p := let ⟨a, e, q⟩ := h; ⟨a, e, s.tup q⟩
theorem But.pl {K : PySem.W.Frag} {X : List Addr} {H H' : Hp} (s : But X H H') {v : V} {p : Pl} (h : PlV K H v p) : PlV K H' v p := let ⟨a, xs, e, q, r⟩ := h; ⟨a, xs, e, s.tup q, L2.Paired.mapP r fun _ _ => s.pair⟩
theorem But.rowsPl {K : PySem.W.Frag} {X : List Addr} {H H' : Hp} (s : But X H H') {l : Addr} {rows : List Pl} (n : l ∉ X) (h : RowsPl K H l rows) : RowsPl K H' l rows := let ⟨vs, e, q⟩ := h; ⟨vs, s.same _ _ n e, L2.Paired.mapP q fun _ _ => s.pl⟩
theorem But.led {K : PySem.W.Frag} {X : List Addr} {H H' : Hp} (s : But X H H') {v : V} {r : Bool × List Pl} (h : LedV K H X v r) : LedV K H' X v r := let ⟨a, l, e, q, r, n⟩ := h; ⟨a, l, e, s.tup q, s.rowsPl n r, n⟩
theorem But.row {K : PySem.W.Frag} {X : List Addr} {H H' : Hp} (s : But X H H') {v : V} {rs : List (Bool × List Pl)} (h : RowV K H X v rs) : RowV K H' X v rs := let ⟨a, vs, e, q, r, n⟩ := h; ⟨a, vs, e, s.same _ _ n q, L2.Paired.mapP r fun _ _ => s.led, n⟩
theorem But.upd_lst {X : List Addr} {H : Hp} {a : Addr} {xs : List V} {o : HO} (h : H a = some (.lst xs)) (hX : ∀ b ∈ X, b = a ∨ (∃ xs, H b = some (.lst xs)) ∨ (∃ q, H b = some (.ext q)) ∨ H b = none) (ha : a ∈ X) : But X H (upd H a o) :=
  ⟨fun b u n q => (upd_ne (fun e : b = a => n (e ▸ ha))).trans q, fun b hb => by
    rcases hX b hb with rfl | h2
    · exact .inl ⟨_, h⟩
    · exact h2⟩
/-- the table's keys and rows -/
structure Tab (K : PySem.W.Frag) (H : Hp) (X : List Addr) (bs : List Bd) (kvs : NKs) (ks : List Pl) : Prop where
  keys : kvs.map (·.1) = ks.map pk
  kok : KeysOk K H kvs
  rows : ∀ x ∈ kvs, ∀ k, x.1 = pk k → RowV K H X x.2.2 (rowF bs k)
  nd : ks.Nodup
  ok : ∀ k ∈ ks, okPl bs k
theorem Tab.mono {K : PySem.W.Frag} {H H' : Hp} {X : List Addr} {bs : List Bd} {kvs : NKs} {ks : List Pl} (s : Same H H') (h : Tab K H X bs kvs ks) : Tab K H' X bs kvs ks :=
  ⟨h.keys, fun x hx => s.key (h.kok x hx), fun x hx k e => (h.rows x hx k e).mono s, h.nd, h.ok⟩
theorem But.tab {K : PySem.W.Frag} {H H' : Hp} {X : List Addr} {bs : List Bd} {kvs : NKs} {ks : List Pl} (s : But X H H') (h : Tab K H X bs kvs ks) : Tab K H' X bs kvs ks :=
  ⟨h.keys, fun x hx => (h.kok x hx).up fun _ _ q => s.tup q, fun x hx k e => s.row (h.rows x hx k e), h.nd, h.ok⟩
theorem Tab.nil {K : PySem.W.Frag} {H : Hp} {X : List Addr} {bs : List Bd} : Tab K H X bs [] [] := ⟨rfl, fun x hx => (nomatch hx), fun x hx => (nomatch hx), List.nodup_nil, fun k hk => (nomatch hk)⟩
theorem Tab.has {K : PySem.W.Frag} {H : Hp} {X : List Addr} {bs : List Bd} {kvs : NKs} {ks : List Pl} (h : Tab K H X bs kvs ks) {k : Pl} (hk : k ∈ ks) : ∃ v, valN kvs (pk k) = some v ∧ RowV K H X v (rowF bs k) := by
  have hm : pk k ∈ kvs.map (·.1) := by rw [h.keys]; exact List.mem_map_of_mem hk
  obtain ⟨x, hx, e⟩ := List.mem_map.mp hm
  unfold valN
  cases f : kvs.find? fun x => decide (x.1 = pk k) with
  | none =>
    have := List.find?_eq_none.mp f x hx
    exact absurd (decide_eq_true e) this
  | some y =>
    have hy := List.mem_of_find?_eq_some f
    have ey : y.1 = pk k := by simpa using List.find?_some f
    exact ⟨_, rfl, h.rows y hy k ey⟩
theorem Tab.hasnt {K : PySem.W.Frag} {H : Hp} {X : List Addr} {bs : List Bd} {kvs : NKs} {ks : List Pl} (h : Tab K H X bs kvs ks) {k : Pl} (hk : k ∉ ks) : valN kvs (pk k) = none := by
  unfold valN
  cases f : kvs.find? fun x => decide (x.1 = pk k) with
  | none => rfl
  | some y =>
    have hy := List.mem_of_find?_eq_some f
    have ey : y.1 = pk k := by simpa using List.find?_some f
    have hm : y.1 ∈ ks.map pk := by rw [← h.keys]; exact List.mem_map_of_mem hy
    rw [ey] at hm
    obtain ⟨k', hk', e⟩ := List.mem_map.mp hm
    rw [pk_inj e] at hk'
    exact absurd hk' hk
theorem Tab.put {K : PySem.W.Frag} {H : Hp} {X : List Addr} {bs : List Bd} {kvs : NKs} {ks : List Pl} (h : Tab K H X bs kvs ks) {k : Pl} (hk : k ∉ ks) {b : Addr} {v : V} (hb : PlV K H (.ref b) k) (hv : RowV K H X v (rowF bs k)) (ho : okPl bs k) : Tab K H X bs (putN kvs (pk k) b v) (ks ++ [k]) := by
  have e : putN kvs (pk k) b v = kvs ++ [(pk k, b, v)] := by
    unfold putN
    rw [h.hasnt hk]
    rfl
  rw [e]
  refine ⟨by rw [List.map_append, List.map_append, h.keys]; rfl, fun x hx => ?_, fun x hx k' e' => ?_, ?_, fun k' hk' => ?_⟩
  · rcases List.mem_append.mp hx with hx | hx
    · exact h.kok x hx
    · rw [List.mem_singleton] at hx
      subst hx
      exact plV_key hb
  · rcases List.mem_append.mp hx with hx | hx
    · exact h.rows x hx k' e'
    · rw [List.mem_singleton] at hx
      subst hx
      rw [← pk_inj (show pk k = pk k' from e')]
      exact hv
  · rw [List.nodup_append]
    exact ⟨h.nd, List.nodup_cons.mpr ⟨fun z => (nomatch z), List.nodup_nil⟩, fun a ha c hc e => hk (by rw [List.mem_singleton] at hc; rw [← hc, ← e]; exact ha)⟩
  · rcases List.mem_append.mp hk' with hk' | hk'
    · exact h.ok k' hk'
    · rw [List.mem_singleton] at hk'
      rw [hk']
      exact ho
end My
namespace My
open PySem L2
/-! ### table_from -/
def succs (r : Bool × List Pl) : List Pl := if r.1 = true then [] else r.2
def Closed (bs : List Bd) (ks : List Pl) : Prop := ∀ k ∈ ks, ∀ r ∈ rowF bs k, ∀ q ∈ succs r, q ∈ ks
structure LoopT (K : PySem.W.Frag) (w : World) (H : Hp) (bs : List Bd) (start : Pl) (d wa : Addr) (H' : Hp) (kvs : NKs) (ks : List Pl) (vs : List V) (ws : List Pl) : Prop where
  same : Same H H'
  tab : Tab K H' [d, wa] bs kvs ks
  atd : H' d = some (DnO w d kvs)
  atw : H' wa = some (.lst vs)
  pls : Paired (PlV K H') vs ws
  oks : ∀ q ∈ ws, okPl bs q
  first : start ∈ ks ∨ start ∈ ws
  half : ∀ k ∈ ks, ∀ r ∈ rowF bs k, ∀ q ∈ succs r, q ∈ ks ∨ q ∈ ws
  len : ws.length ≤ 1 + ks.length * 147
theorem succs_len {bs : List Bd} (hok : BdsOk bs) {k : Pl} (hl : k.length = bs.length) : ((rowF bs k).flatMap succs).length ≤ 147 := by
  have n2 := hok.n2
  have h1 := able_len k
  have h2 := flat_len (f := succs) (n := 49) (l := rowF bs k) fun r hr => by
    obtain ⟨c, _, rfl⟩ := List.mem_map.mp hr
    unfold succs
    split
    · exact Nat.zero_le _
    · exact led_len hok hl c
  have h3 : (rowF bs k).length = (ableI k).length := List.length_map _
  rw [h3] at h2
  refine Nat.le_trans h2 (Nat.le_trans (Nat.mul_le_mul_right 49 (show (ableI k).length ≤ 3 by omega)) (by decide))
theorem paired_last {α β : Type} {F : α → β → Prop} : ∀ {l : List α} {m : List β}, Paired F l m → m ≠ [] → ∃ l' a m' b, l = l' ++ [a] ∧ m = m' ++ [b] ∧ Paired F l' m' ∧ F a b
  | _, _, .nil, h => absurd rfl h
  | _, _, .cons (a := a) (b := b) h .nil, _ => ⟨[], a, [], b, rfl, rfl, .nil, h⟩
  | _, _, .cons (a := a) (b := b) h (.cons h2 t), _ => by
    obtain ⟨l', x, m', y, e1, e2, q, r⟩ := paired_last (.cons h2 t) (List.cons_ne_nil _ _)
    exact ⟨a :: l', x, b :: m', y, by rw [e1]; rfl, by rw [e2]; rfl, .cons h q, r⟩
theorem LedV.sub {K : PySem.W.Frag} {H : Hp} {X Y : List Addr} (s : ∀ a ∈ Y, a ∈ X) {v : V} {r : Bool × List Pl} (h : LedV K H X v r) : LedV K H Y v r := let ⟨a, l, e, q, r, n⟩ := h; ⟨a, l, e, q, r, fun z => n (s _ z)⟩
theorem RowV.sub {K : PySem.W.Frag} {H : Hp} {X Y : List Addr} (s : ∀ a ∈ Y, a ∈ X) {v : V} {rs : List (Bool × List Pl)} (h : RowV K H X v rs) : RowV K H Y v rs := let ⟨a, vs, e, q, r, n⟩ := h; ⟨a, vs, e, q, L2.Paired.mapP r fun _ _ => LedV.sub s, fun z => n (s _ z)⟩
theorem Tab.sub {K : PySem.W.Frag} {H : Hp} {X Y : List Addr} {bs : List Bd} {kvs : NKs} {ks : List Pl} (h : Tab K H X bs kvs ks) (s : ∀ a ∈ Y, a ∈ X) : Tab K H Y bs kvs ks := ⟨h.keys, h.kok, fun x hx k e => (h.rows x hx k e).sub s, h.nd, h.ok⟩
/-- the row made so far, in the list that a comprehension fills -/
structure CR (K : PySem.W.Frag) (X : List Addr) (H0 : Hp) (D : Addr) (H : Hp) (out : List (Bool × List Pl)) : Prop where
  same : Same H0 H
  at_ : ∃ acc, H D = some (.lst acc) ∧ Paired (LedV K H X) acc out
theorem nonempty_snoc (vs : List V) (x : V) : true = !(vs ++ [x]).isEmpty := by cases vs <;> rfl
theorem at_last_snoc (vs : List V) (x : V) : (vs ++ [x])[(vs ++ [x]).length - 1]? = some x := by
  rw [List.length_append, List.length_singleton, Nat.add_sub_cancel, List.getElem?_append_right (Nat.le_refl _), Nat.sub_self]
  rfl
structure Mu (m : Nat) (ks ws : List Pl) : Prop where
  e : m = (441 - ks.length) * 1000 + ws.length
theorem Mu.pop {m : Nat} {ks ws : List Pl} {p : Pl} (h : Mu m ks (ws ++ [p])) : ∃ m', m' < m ∧ Mu m' ks ws := ⟨_, by
  rw [h.e, List.length_append, List.length_singleton]
  exact Nat.lt_succ_self _, ⟨rfl⟩⟩
theorem But.upd {X : List Addr} {H : Hp} {a : Addr} {o : HO} (hX : ∀ b ∈ X, (∃ xs, H b = some (.lst xs)) ∨ (∃ q, H b = some (.ext q)) ∨ H b = none) (ha : a ∈ X) : But X H (upd H a o) :=
  ⟨fun b u n q => (upd_ne (fun e : b = a => n (e ▸ ha))).trans q, hX⟩
theorem But.trans {X : List Addr} {H H' H'' : Hp} (s : But X H H') (t : But X H' H'') : But X H H'' := ⟨fun a o n q => t.same a o n (s.same a o n q), s.kind⟩
theorem But.refl {X : List Addr} {H : Hp} (hX : ∀ b ∈ X, (∃ xs, H b = some (.lst xs)) ∨ (∃ q, H b = some (.ext q)) ∨ H b = none) : But X H H := ⟨fun _ _ _ q => q, hX⟩
theorem Mu.grow {m : Nat} {ks ws ws2 : List Pl} {p k : Pl} (h : Mu m ks (ws ++ [p])) (hk : ks.length + [k].length ≤ 441) (hl : ws2.length ≤ ws.length + 147) : ∃ m', m' < m ∧ Mu m' (ks ++ [k]) ws2 := ⟨_, by
  have e := h.e
  rw [List.length_append, List.length_singleton] at e
  rw [List.length_singleton] at hk
  rw [List.length_append, List.length_singleton]
  omega, ⟨rfl⟩⟩
theorem paired_app {α β : Type} {F : α → β → Prop} {l l2 : List α} {m m2 : List β} (h : Paired F l m) (h2 : Paired F l2 m2) : Paired F (l ++ l2) (m ++ m2) := by
  induction h with
  | nil => exact h2
  | cons r _ ih => exact .cons r ih
section
variable {P : Program} {w : World} {K : PySem.W.Frag} {mg : Str → Option Value} {base : Heap}
abbrev s_table_from : Stmt := top 32
abbrev N_table_from : List Str := ["boards", "start", "table", "waiting", "place", "risky", "following", "choice"]
theorem sc_table_from : FnScope N_table_from ["boards", "start"] (C8.fnScope s_table_from) := C8.fnScope_by (by decide +kernel)
def sp_table_from (K : PySem.W.Frag) (w : World) : Sp := fun vs H Q _ => ∃ (ba : Addr) (v : V) (bs : List Bd) (start : Pl), vs = [.ref ba, v] ∧ BdsAt K H ba bs ∧ PlV K H v start ∧ BdsOk bs ∧ okPl bs start ∧
  ∀ (d : Addr) (kvs : NKs) (ks : List Pl) H', Same H H' → H d = none → H' d = some (DnO w d kvs) → Tab K H' [d] bs kvs ks → start ∈ ks → Closed bs ks → Q (.ref d) H'
theorem ok_table_from {f : Addr} {fd : FuncData} (F : C8.Def K mg "table_from" s_table_from f fd) (b : Binds K fd ["boards", "start"] []) (T : Gb mg) (c_open_choices : C8.Cal P w K mg base 1 "open_choices" (sp_open_choices K) []) (c_led : C8.Cal P w K mg base 3 "led" (sp_led K) []) : C8.Cal P w K mg base 4 "table_from" (sp_table_from K w) [] := by
  refine C8.cal0 F b .nil sc_table_from (fun vs H Q E h => ?_) (fun cdv A outer s H vs Q E hr h => ?_)
  · obtain ⟨ba, v, bs, start, rfl, _⟩ := h
    rfl
  · obtain ⟨ba, v, bs, start, rfl, hB, hP, hok, hoks, q⟩ := h
    refine ⟨_, (pss_cons (ps_set (i := 2) sc_table_from.nd rfl (Or.inl rfl) (pe_newNK (w := w) rfl))
(pss_cons (ps_set (i := 3) sc_table_from.nd rfl (Or.inl rfl) (pe_lst (pa_cons (pv 1) pa_nil)))
(pss_cons (ps_while PassesOwn.never (pt_truth (pv 3) (by intro _; rfl))
(pss_cons (ps_set (i := 4) sc_table_from.nd rfl (Or.inr rfl) (pe_bm0 PySem.F.plainAttrs_list PySem.F.slot_list_pop PySem.F.type_list_pop mt_pop (pv 3)))
(pss_one (ps_if (pt_cmpR (op_notInNK (K := K) (w := w) rfl rfl (Nat.lt_of_le_of_lt (Nat.add_le_add_left (by decide) _) hr.un)) (pv 4) (pv 2) rfl)
(pss_cons (ps_asg (pe_lc (own := [("choice", 7)]) rfl sc_table_from.nd (pi_listK K rfl (C8.pe_c c_open_choices hr (by decide) (by rfl) (pa_cons (pv 4) pa_nil))) (blkOk_by (N := N_table_from) (sc := C8.fnScope s_table_from) (by decide +kernel)) (fun _ _ _ _ _ => (pg_name (i := 7) sc_table_from.nd rfl (Or.inl rfl))) (fun _ _ _ _ _ => pts_nil) (fun _ _ _ _ _ => (C8.pe_c c_led hr (by decide) (by rfl) (pa_cons (pv 0) (pa_cons (pv 4) (pa_cons (pv 7) pa_nil)))))) (pg_sub (pv 2) (pv 4) (set_NK (K := K) (w := w) rfl rfl (Nat.lt_of_le_of_lt (Nat.add_le_add_left (by decide) _) hr.un))))
(pss_one (ps_for PassesOwn.never rfl (pi_listK K rfl (pe_ix (ix_dNK (K := K) (w := w) rfl rfl (Nat.lt_of_le_of_lt (Nat.add_le_add_left (by decide) _) hr.un)) (pv 2) (pv 4) (fun _ _ => rfl))) (pg_tup (by rfl) (pgs_cons (pg_name (i := 5) sc_table_from.nd rfl (Or.inl rfl)) (pgs_cons (pg_name (i := 6) sc_table_from.nd rfl (Or.inl rfl)) pgs_nil)))
(pss_one (ps_if (pt_not (pt_val (pv 5)))
(pss_one (ps_expr (pe_bm PySem.F.plainAttrs_list PySem.F.slot_list_extend PySem.F.type_list_extend mt_extend (pv 3) (pa_cons (pv 6) pa_nil))))
pss_nil)))))
pss_nil))))
(pss_one (ps_ret (pv 2)))))), ?_⟩
    intro d hd
    refine ⟨_, rfl, by show 1 ≤ sizeLine; decide, fun wa hwa => ?_⟩
    have sd := same_new (o := DnO w d []) (Same.refl H) hd
    have sm0 := same_new (o := .lst [v]) sd hwa
    have hwa0 : H wa = none := sd.free hwa
    have ndw : d ≠ wa := ne_of_none' upd_same hwa
    refine ⟨fun m σ H' => ∃ kvs ks vs ws v4 v5 v6 v7, Mu m ks ws ∧ LoopT K w H bs start d wa H' kvs ks vs ws ∧ σ = [some (.ref ba), some v, some (.ref d), some (.ref wa), v4, v5, v6, v7],
      ⟨_, _, _, _, _, _, _, _, _, ⟨rfl⟩, ⟨sm0, Tab.nil, (upd_ne ndw).trans upd_same, upd_same, .cons (hP.mono sm0) .nil, fun q hq => by rw [List.mem_singleton] at hq; rw [hq]; exact hoks, .inr List.mem_cons_self, fun k hk => (nomatch hk), Nat.le_refl _⟩, rfl⟩, ?_⟩
    rintro m σ H1 ⟨kvs, ks, vs, ws, v4, v5, v6, v7, hm, L, rfl⟩
    have lv := L.pls.length
    have hfew := few hok L.tab.nd L.tab.ok
    have lw := L.len
    cases hws : ws with
    | nil =>
      subst hws
      have e : vs = [] := List.length_eq_zero_iff.mp lv
      subst e
      refine ⟨_, rfl, false, .inl ⟨[], SqL.of L.atw, rfl⟩, ?_⟩
      refine iteF ?_
      refine ⟨_, rfl, q d kvs ks H1 L.same hd L.atd (L.tab.sub fun a ha => List.mem_cons.mpr (.inl (List.mem_singleton.mp ha))) (L.first.elim id fun z => (nomatch z)) fun k hk r hr q hq => (L.half k hk r hr q hq).elim id fun z => (nomatch z)⟩
    | cons w0 wr =>
      have hne : ws ≠ [] := by rw [hws]; exact List.cons_ne_nil _ _
      clear hws
      obtain ⟨vs', x, ws', p, rfl, rfl, hp', hx⟩ := paired_last L.pls hne
      refine ⟨_, rfl, true, .inl ⟨_, SqL.of L.atw, nonempty_snoc _ _⟩, ?_⟩
      refine iteT ?_
      refine ⟨fun σ' H' => ∃ m' kvs' ks' vs2 ws2 v4 v5 v6 v7, m' < m ∧ Mu m' ks' ws2 ∧ LoopT K w H bs start d wa H' kvs' ks' vs2 ws2 ∧ σ' = [some (.ref ba), some v, some (.ref d), some (.ref wa), v4, v5, v6, v7],
        fun σ' H' ⟨m', kvs', ks', vs2, ws2, v4, v5, v6, v7, hlt, hm', L', e⟩ => ⟨m', hlt, kvs', ks', vs2, ws2, v4, v5, v6, v7, hm', L', e⟩, ?_⟩
      refine ⟨_, rfl, .inl ⟨rfl, _, SqL.of L.atw⟩, wa, _, x, rfl, rfl, L.atw, at_last_snoc _ _, ?_⟩
      rw [List.dropLast_concat]
      have b1 : But [d, wa] H1 (upd H1 wa (.lst vs')) := But.upd_lst L.atw (fun b hb => by
        rcases List.mem_cons.mp hb with rfl | hb
        · exact .inr (.inr (.inl ⟨_, L.atd⟩))
        · exact .inl (List.mem_singleton.mp hb)) (List.mem_cons_of_mem _ List.mem_cons_self)
      have tab2 := b1.tab L.tab
      have sm2 : Same H (upd H1 wa (.lst vs')) := same_mut L.same hwa0
      have hx2 := b1.pl hx
      have hd2 : upd H1 wa (.lst vs') d = some (DnO w d kvs) := (upd_ne ndw).trans L.atd
      have hw2 : upd H1 wa (.lst vs') wa = some (.lst vs') := upd_same
      have hp2 : Paired (PlV K (upd H1 wa (.lst vs'))) vs' ws' := L2.Paired.mapP hp' fun _ _ => b1.pl
      generalize upd H1 wa (.lst vs') = H2 at tab2 sm2 hx2 hd2 hw2 hp2 ⊢
      have hpo : okPl bs p := L.oks p (List.mem_append_right _ List.mem_cons_self)
      have hpl := okPl_len hpo
      have n2 := hok.n2
      obtain ⟨xb, xxs, rfl, hxx⟩ := id hx2
      have lap : (ws' ++ [p]).length = ws'.length + 1 := by rw [List.length_append]; rfl
      refine ⟨_, rfl, _, rfl, d, xb, kvs, pk p, rfl, rfl, .inl hd2, tab2.kok, plV_key hx2, pk_depth p, ?_⟩
      by_cases hk : p ∈ ks
      · obtain ⟨rv, e, _⟩ := tab2.has hk
        rw [e]
        refine ⟨false, rfl, ?_⟩
        refine iteF ?_
        obtain ⟨m', hlt, hm'⟩ := hm.pop
        refine ⟨m', kvs, ks, vs', ws', _, _, _, _, hlt, hm', ⟨sm2, tab2, hd2, hw2, hp2, fun q hq => L.oks q (List.mem_append_left _ hq), ?_, fun k hk' r hr q hq => ?_, by omega⟩, rfl⟩
        · rcases L.first with h | h
          · exact .inl h
          · rcases List.mem_append.mp h with h | h
            · exact .inr h
            · rw [List.mem_singleton] at h
              exact .inl (h ▸ hk)
        · rcases L.half k hk' r hr q hq with h | h
          · exact .inl h
          · rcases List.mem_append.mp h with h | h
            · exact .inr h
            · rw [List.mem_singleton] at h
              exact .inl (h ▸ hk)
      · rw [tab2.hasnt hk]
        refine ⟨true, rfl, ?_⟩
        refine iteT ?_
        refine ⟨_, rfl, .ref xb, p, rfl, hx2, by omega, fun c1 H3 sm3 hc1 hcl => ?_⟩
        refine ⟨c1, rfl, ⟨_, SqL.of hcl⟩, fun D hD => lc_it (walk_list (xs := (ableI p).map V.int)) (fun j H' => CR K [d, wa, D] H3 D H' ((rowF bs p).take j)) ⟨same_new (Same.refl _) hD, [], upd_same, .nil⟩ (fun j H' _ h => h.same.seq (SqL.of hcl)) ?_ ?_⟩
        · rintro j xc H4 H4' hj C4 ⟨rfl, hxc⟩
          obtain ⟨ci, hci, rfl⟩ := at_map hxc
          have s24 := sm3.trans C4.same
          refine ⟨rfl, yes_go ?_⟩
          refine ⟨_, rfl, _, rfl, _, rfl, ba, .ref xb, bs, p, ci, rfl, hB.mono (sm2.trans s24), hx2.mono s24, hok, hpo, by rw [← hpl]; exact able_ok (List.mem_of_getElem? hci), fun pr l H5 sm5 hpr hrows hl => ?_⟩
          obtain ⟨acc, ha, hap⟩ := C4.at_
          have lacc := hap.length
          have lable := able_len p
          rw [List.length_map] at hj
          have htake := List.length_take_le j (rowF bs p)
          have hn : l ∉ [d, wa, D] := fun z => by
            rcases List.mem_cons.mp z with rfl | z
            · rw [s24 _ _ hd2] at hl; cases hl
            rcases List.mem_cons.mp z with rfl | z
            · rw [s24 _ _ hw2] at hl; cases hl
            rw [List.mem_singleton] at z
            subst z
            rw [ha] at hl; cases hl
          have b5 : But [d, wa, D] H5 (upd H5 D (.lst (acc ++ [.ref pr]))) := But.upd_lst (sm5 _ _ ha) (fun b hb => by
            rcases List.mem_cons.mp hb with rfl | hb
            · exact .inr (.inr (.inl ⟨_, sm5 _ _ (s24 _ _ hd2)⟩))
            rcases List.mem_cons.mp hb with rfl | hb
            · exact .inr (.inl ⟨_, sm5 _ _ (s24 _ _ hw2)⟩)
            · exact .inl (List.mem_singleton.mp hb)) (List.mem_cons_of_mem _ (List.mem_cons_of_mem _ List.mem_cons_self))
          have hat : (rowF bs p)[j]? = some (ledF bs p ci) := by
            unfold rowF
            rw [List.getElem?_map, hci]
            rfl
          refine ⟨acc, sm5 _ _ ha, size_lt (by omega), same_mut (C4.same.trans sm5) hD, _, upd_same, ?_⟩
          rw [take_snoc hat]
          exact Paired.snoc (L2.Paired.mapP hap fun _ _ h => b5.led (h.mono sm5)) (b5.led ⟨pr, l, rfl, hpr, hrows, hn⟩)
        · intro H4 C4
          have lrow : (rowF bs p).length = ((ableI p).map V.int).length := by unfold rowF; rw [List.length_map, List.length_map]
          rw [← lrow, List.take_length] at C4
          have s24 := sm3.trans C4.same
          have hd4 := s24 _ _ hd2
          have hw4 := s24 _ _ hw2
          have tab4 := tab2.mono s24
          have hx4 := hx2.mono s24
          have sm4 := sm2.trans s24
          have hp4 : Paired (PlV K H4) vs' ws' := L2.Paired.mapP hp2 fun _ _ => PlV.mono s24
          have lkv : kvs.length = ks.length := by
            have := congrArg List.length tab4.keys
            rw [List.length_map, List.length_map] at this
            exact this
          refine ⟨_, rfl, _, rfl, d, xb, kvs, pk p, rfl, rfl, hd4, tab4.kok, plV_key hx4, pk_depth p, size_lt (by omega), ?_⟩
          obtain ⟨acc, ha, hap⟩ := C4.at_
          have hd0 : H d = none := hd
          have ndD : D ∉ [d, wa] := fun z => by
            rcases List.mem_cons.mp z with rfl | z
            · rw [sm3 _ _ hd2] at hD; cases hD
            rw [List.mem_singleton] at z
            subst z
            rw [sm3 _ _ hw2] at hD; cases hD
          have k4 : ∀ b ∈ [d, wa], (∃ xs, H4 b = some (.lst xs)) ∨ (∃ q, H4 b = some (.ext q)) ∨ H4 b = none := fun b hb => by
            rcases List.mem_cons.mp hb with rfl | hb
            · exact .inr (.inl ⟨_, hd4⟩)
            · rw [List.mem_singleton] at hb
              subst hb
              exact .inl ⟨_, hw4⟩
          have b5 : But [d, wa] H4 (upd H4 d (DnO w d (putN kvs (pk p) xb (.ref D)))) := But.upd k4 List.mem_cons_self
          have row4 : RowV K H4 [d, wa] (.ref D) (rowF bs p) := ⟨D, acc, rfl, ha, L2.Paired.mapP hap fun _ _ h => h.sub fun a ha => by
            rcases List.mem_cons.mp ha with rfl | ha
            · exact List.mem_cons_self
            · rw [List.mem_singleton] at ha
              subst ha
              exact List.mem_cons_of_mem _ List.mem_cons_self, ndD⟩
          have tab5 := (b5.tab tab4).put hk (b5.pl hx4) (b5.row row4) hpo
          have sm5 : Same H (upd H4 d (DnO w d (putN kvs (pk p) xb (.ref D)))) := same_mut sm4 hd0
          have hd5 : upd H4 d (DnO w d (putN kvs (pk p) xb (.ref D))) d = some (DnO w d (putN kvs (pk p) xb (.ref D))) := upd_same
          have hw5 : upd H4 d (DnO w d (putN kvs (pk p) xb (.ref D))) wa = some (.lst vs') := (upd_ne (Ne.symm ndw)).trans hw4
          have hp5 := L2.Paired.mapP hp4 fun _ _ h => b5.pl h
          have hx5 := b5.pl hx4
          clear b5 row4
          generalize upd H4 d (DnO w d (putN kvs (pk p) xb (.ref D))) = H5 at tab5 sm5 hd5 hw5 hp5 hx5 ⊢
          generalize putN kvs (pk p) xb (.ref D) = kvs5 at tab5 hd5 ⊢
          obtain ⟨rv, erv, ra, rvs, rfl, hra, hrvp, hran⟩ := tab5.has (k := p) (List.mem_append_right _ List.mem_cons_self)
          have lr5 := hrvp.length
          have hsl := succs_len hok hpl
          refine ⟨_, rfl, _, rfl, d, xb, kvs5, pk p, .ref ra, rfl, rfl, .inl hd5, tab5.kok, plV_key hx5, pk_depth p, erv, ra, rfl, ⟨_, SqL.of hra⟩, for_it (walk_list (xs := rvs)) (fun j σ H' => But [d, wa] H5 H' ∧ Same H H' ∧ H' d = some (DnO w d kvs5) ∧ (∃ vs2, H' wa = some (.lst vs2) ∧ Paired (PlV K H') vs2 (ws' ++ ((rowF bs p).take j).flatMap succs)) ∧ ∃ v5 v6, σ = [some (.ref ba), some v, some (.ref d), some (.ref wa), some (.ref xb), v5, v6, v7])
            ⟨But.refl fun b hb => by
              rcases List.mem_cons.mp hb with rfl | hb
              · exact .inr (.inl ⟨_, hd5⟩)
              · rw [List.mem_singleton] at hb
                subst hb
                exact .inl ⟨_, hw5⟩, sm5, hd5, ⟨vs', hw5, by rw [List.take_zero, List.flatMap_nil, List.append_nil]; exact hp5⟩, _, _, rfl⟩ (fun j σ H' _ h => SqL.of (h.1.same _ _ hran hra)) ?_ ?_⟩
          · rintro j y σ6 H6 H6' hj ⟨b6, sm6, hd6, ⟨vs2, hw6, hp6⟩, v5', v6', rfl⟩ ⟨rfl, hy⟩
            obtain ⟨r, hr6, hrv⟩ := paired_at hrvp hy
            obtain ⟨a6, l6, rfl, hq6, hl6, hn6⟩ := b6.led hrv
            refine ⟨a6, _, rfl, hq6, rfl, _, _, rfl, _, _, rfl, rfl, ?_⟩
            have lp6 := hp6.length
            have ef : (((rowF bs p).take (j + 1)).flatMap succs) = ((rowF bs p).take j).flatMap succs ++ succs r := by
              rw [take_snoc hr6, List.flatMap_append, List.flatMap_cons, List.flatMap_nil, List.append_nil]
            have hpart : (((rowF bs p).take (j + 1)).flatMap succs).length ≤ 147 := by
              have e2 := congrArg List.length (congrArg (List.flatMap succs) (List.take_append_drop (j + 1) (rowF bs p)))
              rw [List.flatMap_append, List.length_append] at e2
              omega
            obtain ⟨rk, rps⟩ := r
            refine ⟨_, rfl, rk, rfl, ?_⟩
            cases rk with
            | true =>
              refine iteF ?_
              refine ⟨b6, sm6, hd6, ⟨vs2, hw6, ?_⟩, _, _, rfl⟩
              rw [ef]
              show Paired _ _ (_ ++ (_ ++ []))
              rw [List.append_nil]
              exact hp6
            | false =>
              refine iteT ?_
              obtain ⟨zs, hzs, hzp⟩ := hl6
              have lz : zs.length = rps.length := hzp.length
              rw [ef, List.length_append] at hpart
              have hsr : (succs (false, rps)).length = rps.length := rfl
              have b7 : But [d, wa] H6' (upd H6' wa (.lst (vs2 ++ zs))) := But.upd (fun b hb => by
                rcases List.mem_cons.mp hb with rfl | hb
                · exact .inr (.inl ⟨_, hd6⟩)
                · rw [List.mem_singleton] at hb
                  subst hb
                  exact .inl ⟨_, hw6⟩) (List.mem_cons_of_mem _ List.mem_cons_self)
              rw [List.length_append] at lp6
              have hfk := few hok L.tab.nd L.tab.ok
              refine ⟨_, rfl, .inl ⟨rfl, _, SqL.of hw6⟩, _, rfl, wa, l6, vs2, zs, rfl, rfl, hw6, hzs, size_le (by omega), ?_⟩
              refine ⟨b6.trans b7, same_mut sm6 hwa0, (upd_ne ndw).trans hd6, ⟨_, upd_same, ?_⟩, _, _, rfl⟩
              rw [ef, ← List.append_assoc]
              exact paired_app (L2.Paired.mapP hp6 fun _ _ h => b7.pl h) (L2.Paired.mapP hzp fun _ _ h => b7.pl h)
          · rintro σ6 H6 ⟨b6, sm6, hd6, ⟨vs2, hw6, hp6⟩, v5', v6', rfl⟩
            rw [lr5, List.take_length] at hp6
            obtain ⟨m', hlt, hm'⟩ := hm.grow (k := p) (ws2 := ws' ++ (rowF bs p).flatMap succs) (by have := few hok tab5.nd tab5.ok; rw [List.length_append] at this; exact this) (by rw [List.length_append]; omega)
            refine ⟨m', kvs5, ks ++ [p], vs2, _, _, _, _, _, hlt, hm', ⟨sm6, b6.tab tab5, hd6, hw6, hp6, fun q hq => ?_, ?_, fun k hk' r hr q hq => ?_, ?_⟩, rfl⟩
            · rcases List.mem_append.mp hq with hq | hq
              · exact L.oks q (List.mem_append_left _ hq)
              · obtain ⟨r, hr, hq⟩ := List.mem_flatMap.mp hq
                obtain ⟨c, _, rfl⟩ := List.mem_map.mp hr
                unfold succs at hq
                split at hq
                · cases hq
                · exact led_ok hok hpl hq
            · rcases L.first with h | h
              · exact .inl (List.mem_append_left _ h)
              · rcases List.mem_append.mp h with h | h
                · exact .inr (List.mem_append_left _ h)
                · exact .inl (List.mem_append_right _ h)
            · rcases List.mem_append.mp hk' with hk' | hk'
              · rcases L.half k hk' r hr q hq with h | h
                · exact .inl (List.mem_append_left _ h)
                · rcases List.mem_append.mp h with h | h
                  · exact .inr (List.mem_append_left _ h)
                  · exact .inl (List.mem_append_right _ h)
              · rw [List.mem_singleton] at hk'
                subst hk'
                exact .inr (List.mem_append_right _ (List.mem_flatMap.mpr ⟨r, hr, hq⟩))
            · rw [List.length_append, List.length_append, List.length_singleton]
              omega
end
end My
namespace My
open PySem L2
/-! ### tuples stand -/
def Tup (K : PySem.W.Frag) (H H' : Hp) : Prop := ∀ a xs, SqT K H a xs → SqT K H' a xs
theorem Tup.refl (K : PySem.W.Frag) (H : Hp) : Tup K H H := fun _ _ h => h
theorem Tup.trans {K : PySem.W.Frag} {H H' H'' : Hp} (s : Tup K H H') (t : Tup K H' H'') : Tup K H H'' := fun a xs h => t a xs (s a xs h)
theorem Same.tups {K : PySem.W.Frag} {H H' : Hp} (s : Same H H') : Tup K H H' := fun _ _ h => s.tup h
theorem But.tups {K : PySem.W.Frag} {X : List Addr} {H H' : Hp} (s : But X H H') : Tup K H H' := fun _ _ h => s.tup h
theorem tup_lst {K : PySem.W.Frag} {H : Hp} {d : Addr} {xs : List V} {o : HO} (h : H d = some (.lst xs)) : Tup K H (upd H d o) :=
  (But.upd (X := [d]) (fun b hb => by rw [List.mem_singleton] at hb; subst hb; exact .inl ⟨_, h⟩) List.mem_cons_self).tups
theorem tup_ext {K : PySem.W.Frag} {H : Hp} {d : Addr} {w : World} {kvs : NKs} {o : HO} (h : H d = some (DnO w d kvs)) : Tup K H (upd H d o) :=
  (But.upd (X := [d]) (fun b hb => by rw [List.mem_singleton] at hb; subst hb; exact .inr (.inl ⟨_, h⟩)) List.mem_cons_self).tups
theorem tup_new {K : PySem.W.Frag} {H : Hp} {d : Addr} {o : HO} (h : H d = none) : Tup K H (upd H d o) :=
  (But.upd (X := [d]) (fun b hb => by rw [List.mem_singleton] at hb; subst hb; exact .inr (.inr h)) List.mem_cons_self).tups
theorem KeyV.tups {K : PySem.W.Frag} {H H' : Hp} (t : Tup K H H') {k : NK} {v : V} (h : KeyV K H k v) : KeyV K H' k v := h.up t
theorem PlV.tups {K : PySem.W.Frag} {H H' : Hp} (t : Tup K H H') {v : V} {p : Pl} (h : PlV K H v p) : PlV K H' v p := key_plV ((plV_key h).up t)
theorem PairV.tups {K : PySem.W.Frag} {H H' : Hp} (t : Tup K H H') {v : V} {p : Nat × Nat} (h : PairV K H v p) : PairV K H' v p := key_pairV ((pairV_key h).up t)
theorem KeysOk.tups {K : PySem.W.Frag} {H H' : Hp} (t : Tup K H H') {kvs : NKs} (h : KeysOk K H kvs) : KeysOk K H' kvs := fun x hx => (h x hx).up t
theorem RowsPl.keep {K : PySem.W.Frag} {H H' : Hp} {a : Addr} {rows : List Pl} (t : Tup K H H') (e : H' a = H a) (h : RowsPl K H a rows) : RowsPl K H' a rows := let ⟨vs, q, r⟩ := h; ⟨vs, e.trans q, L2.Paired.mapP r fun _ _ => PlV.tups t⟩
/-! ### values by keys -/
theorem valN_put {kvs : NKs} {k : NK} {a : Addr} {v : V} (k' : NK) : valN (putN kvs k a v) k' = if k' = k then some v else valN kvs k' := by
  have e0 : ∀ (l : NKs), ((l.map fun x => if x.1 = k then (x.1, x.2.1, v) else x).find? fun x => decide (x.1 = k')) = (l.find? fun x => decide (x.1 = k')).map fun x => if x.1 = k then (x.1, x.2.1, v) else x := by
    intro l
    rw [List.find?_map]
    congr 1
    congr 1
    funext x
    show decide ((if x.1 = k then (x.1, x.2.1, v) else x).1 = k') = decide (x.1 = k')
    split <;> rfl
  unfold putN
  split
  · rename_i hs
    unfold valN
    rw [e0]
    by_cases e : k' = k
    · rw [if_pos e]
      subst e
      unfold valN at hs
      cases f : kvs.find? fun x => decide (x.1 = k') with
      | none => rw [f] at hs; cases hs
      | some y =>
        have ey : y.1 = k' := by simpa using List.find?_some f
        simp [ey]
    · rw [if_neg e]
      cases f : kvs.find? fun x => decide (x.1 = k') with
      | none => rfl
      | some y =>
        have ey : y.1 = k' := by simpa using List.find?_some f
        have : ¬ y.1 = k := by rw [ey]; exact e
        simp [this]
  · rename_i hs
    unfold valN
    rw [List.find?_append]
    by_cases e : k' = k
    · rw [if_pos e]
      subst e
      unfold valN at hs
      cases f : kvs.find? fun x => decide (x.1 = k') with
      | none => simp
      | some y => rw [f] at hs; exact absurd rfl hs
    · rw [if_neg e]
      cases f : kvs.find? fun x => decide (x.1 = k') with
      | none =>
        have : ¬ k = k' := fun z => e z.symm
        simp [this]
      | some y => rfl
theorem valN_none {kvs : NKs} {k : NK} (h : k ∉ kvs.map (·.1)) : valN kvs k = none := by
  unfold valN
  cases f : kvs.find? fun x => decide (x.1 = k) with
  | none => rfl
  | some y =>
    have ey : y.1 = k := by simpa using List.find?_some f
    exact absurd (List.mem_map.mpr ⟨y, List.mem_of_find?_eq_some f, ey⟩) h
theorem valN_some {kvs : NKs} {k : NK} (h : k ∈ kvs.map (·.1)) : ∃ v, valN kvs k = some v := by
  obtain ⟨x, hx, e⟩ := List.mem_map.mp h
  unfold valN
  cases f : kvs.find? fun x => decide (x.1 = k) with
  | none => exact absurd (decide_eq_true e) (List.find?_eq_none.mp f x hx)
  | some y => exact ⟨_, rfl⟩
theorem putN_keys (kvs : NKs) (k : NK) (a : Addr) (v : V) : (putN kvs k a v).map (·.1) = if (valN kvs k).isSome then kvs.map (·.1) else kvs.map (·.1) ++ [k] := by
  unfold putN
  split
  · rw [List.map_map]
    refine List.map_congr_left fun x _ => ?_
    show (if x.1 = k then (x.1, x.2.1, v) else x).1 = x.1
    split <;> rfl
  · rw [List.map_append]; rfl
/-! ### a dict whose keys are key k for k in ks, the value at k being f k -/
def DF {α : Type} (K : PySem.W.Frag) (w : World) (key : α → NK) (H : Hp) (d : Addr) (ks : List α) (f : α → V) : Prop :=
  ∃ kvs, H d = some (DnO w d kvs) ∧ KeysOk K H kvs ∧ kvs.map (·.1) = ks.map key ∧ ∀ k ∈ ks, valN kvs (key k) = some (f k)
def addK {α : Type} [DecidableEq α] (ks : List α) (k : α) : List α := if k ∈ ks then ks else ks ++ [k]
def setF {α : Type} [DecidableEq α] (f : α → V) (k : α) (v : V) : α → V := fun x => if x = k then v else f x
theorem addK_in {α : Type} [DecidableEq α] {ks : List α} {k : α} (h : k ∈ ks) : addK ks k = ks := if_pos h
theorem addK_new {α : Type} [DecidableEq α] {ks : List α} {k : α} (h : k ∉ ks) : addK ks k = ks ++ [k] := if_neg h
section
variable {α : Type} {K : PySem.W.Frag} {w : World} {key : α → NK} {H : Hp} {d : Addr} {ks : List α} {f : α → V}
theorem DF.keep {H' : Hp} (t : Tup K H H') (e : H' d = H d) (h : DF K w key H d ks f) : DF K w key H' d ks f := let ⟨kvs, h1, h2, h3, h4⟩ := h; ⟨kvs, e.trans h1, h2.tups t, h3, h4⟩
theorem DF.same {H' : Hp} (s : Same H H') (h : DF K w key H d ks f) : DF K w key H' d ks f := let ⟨kvs, h1, h2, h3, h4⟩ := h; ⟨kvs, s _ _ h1, h2.tups s.tups, h3, h4⟩
theorem DF.ext {g : α → V} (h : DF K w key H d ks f) (e : ∀ k ∈ ks, f k = g k) : DF K w key H d ks g := let ⟨kvs, h1, h2, h3, h4⟩ := h; ⟨kvs, h1, h2, h3, fun k hk => (h4 k hk).trans (by rw [e k hk])⟩
theorem DF.nil (f : α → V) : DF K w key (upd H d (DnO w d [])) d [] f := ⟨[], upd_same, fun x hx => (nomatch hx), rfl, fun k hk => (nomatch hk)⟩
theorem DF.obj (h : DF K w key H d ks f) : ∃ q, H d = some (.ext q) := let ⟨kvs, h1, _⟩ := h; ⟨_, h1⟩
theorem DF.get {b : Addr} {k : α} {Q : VK} (h : DF K w key H d ks f) (hk : k ∈ ks) (hb : KeyV K H (key k) (.ref b)) (hd : (key k).depth ≤ 8) (q : Q (f k) H) : rIxN K w (.ref d) (.ref b) H Q :=
  let ⟨kvs, h1, h2, h3, h4⟩ := h; ⟨d, b, kvs, key k, f k, rfl, rfl, .inl h1, h2, hb, hd, h4 k hk, q⟩
variable [DecidableEq α]
theorem DF.isSome (ki : ∀ a b, key a = key b → a = b) {kvs : NKs} (h3 : kvs.map (·.1) = ks.map key) (k : α) : (valN kvs (key k)).isSome = decide (k ∈ ks) := by
  by_cases hk : k ∈ ks
  · obtain ⟨v, e⟩ := valN_some (kvs := kvs) (k := key k) (by rw [h3]; exact List.mem_map_of_mem hk)
    rw [e, decide_eq_true hk]; rfl
  · rw [valN_none (kvs := kvs) (k := key k) (fun z => by rw [h3] at z; obtain ⟨k', hk', e⟩ := List.mem_map.mp z; rw [ki _ _ e] at hk'; exact hk hk'), decide_eq_false hk]; rfl
theorem DF.inT (ki : ∀ a b, key a = key b → a = b) {b : Addr} {k : α} {Q : VK} (h : DF K w key H d ks f) (hb : KeyV K H (key k) (.ref b)) (hd : (key k).depth ≤ 8) (hk : k ∈ ks) (q : Q (.bl true) H) : rInN K w false (.ref b) (.ref d) H Q := by
  obtain ⟨kvs, h1, h2, h3, h4⟩ := h
  refine ⟨d, b, kvs, key k, rfl, rfl, .inl h1, h2, hb, hd, ?_⟩
  rw [DF.isSome ki h3, decide_eq_true hk]
  exact q
theorem DF.inF (ki : ∀ a b, key a = key b → a = b) {b : Addr} {k : α} {Q : VK} (h : DF K w key H d ks f) (hb : KeyV K H (key k) (.ref b)) (hd : (key k).depth ≤ 8) (hk : k ∉ ks) (q : Q (.bl false) H) : rInN K w false (.ref b) (.ref d) H Q := by
  obtain ⟨kvs, h1, h2, h3, h4⟩ := h
  refine ⟨d, b, kvs, key k, rfl, rfl, .inl h1, h2, hb, hd, ?_⟩
  rw [DF.isSome ki h3, decide_eq_false hk]
  exact q
theorem DF.notT (ki : ∀ a b, key a = key b → a = b) {b : Addr} {k : α} {Q : VK} (h : DF K w key H d ks f) (hb : KeyV K H (key k) (.ref b)) (hd : (key k).depth ≤ 8) (hk : k ∉ ks) (q : Q (.bl true) H) : rInN K w true (.ref b) (.ref d) H Q := by
  obtain ⟨kvs, h1, h2, h3, h4⟩ := h
  refine ⟨d, b, kvs, key k, rfl, rfl, .inl h1, h2, hb, hd, ?_⟩
  rw [DF.isSome ki h3, decide_eq_false hk]
  exact q
theorem DF.notF (ki : ∀ a b, key a = key b → a = b) {b : Addr} {k : α} {Q : VK} (h : DF K w key H d ks f) (hb : KeyV K H (key k) (.ref b)) (hd : (key k).depth ≤ 8) (hk : k ∈ ks) (q : Q (.bl false) H) : rInN K w true (.ref b) (.ref d) H Q := by
  obtain ⟨kvs, h1, h2, h3, h4⟩ := h
  refine ⟨d, b, kvs, key k, rfl, rfl, .inl h1, h2, hb, hd, ?_⟩
  rw [DF.isSome ki h3, decide_eq_true hk]
  exact q
theorem DF.step (ki : ∀ a b, key a = key b → a = b) (h : DF K w key H d ks f) : ∃ kvs, H d = some (DnO w d kvs) ∧ KeysOk K H kvs ∧ kvs.length = ks.length ∧ (∀ k ∈ ks, valN kvs (key k) = some (f k)) ∧
    ∀ k b v, KeyV K H (key k) (.ref b) → DF K w key (upd H d (DnO w d (putN kvs (key k) b v))) d (addK ks k) (setF f k v) := by
  obtain ⟨kvs, h1, h2, h3, h4⟩ := h
  refine ⟨kvs, h1, h2, by have := congrArg List.length h3; rw [List.length_map, List.length_map] at this; exact this, h4, fun k b v hb => ⟨_, upd_same, fun x hx => ?_, ?_, fun k' hk' => ?_⟩⟩
  · rcases putN_mem hx with ⟨y, hy, e1, e2⟩ | ⟨e1, e2⟩
    · rw [← e1, ← e2]; exact (h2 y hy).up (tup_ext h1)
    · rw [e1, e2]; exact hb.up (tup_ext h1)
  · rw [putN_keys, DF.isSome ki h3]
    unfold addK
    by_cases hk : k ∈ ks
    · rw [decide_eq_true hk, if_pos hk]; exact h3
    · rw [decide_eq_false hk, if_neg hk, List.map_append, ← h3]; rfl
  · rw [valN_put]
    unfold setF
    by_cases e : k' = k
    · rw [if_pos e, e, if_pos rfl]
    · rw [if_neg e, if_neg (fun z => e (ki _ _ z))]
      unfold addK at hk'
      split at hk'
      · exact h4 k' hk'
      · rcases List.mem_append.mp hk' with h | h
        · exact h4 k' h
        · rw [List.mem_singleton] at h; exact absurd h e
theorem DF.put (ki : ∀ a b, key a = key b → a = b) {b : Addr} {k : α} {v : V} {Q : Hp → Prop} (h : DF K w key H d ks f) (hb : KeyV K H (key k) (.ref b)) (hd : (key k).depth ≤ 8) (hl : ks.length < 100000)
    (q : ∀ o, DF K w key (upd H d o) d (addK ks k) (setF f k v) → Tup K H (upd H d o) → Q (upd H d o)) : tSetN K w (.ref d) (.ref b) v H Q := by
  obtain ⟨kvs, h1, h2, h3, h4, h5⟩ := h.step ki
  exact ⟨d, b, kvs, key k, rfl, rfl, h1, h2, hb, hd, size_lt (by omega), q _ (h5 k b v hb) (tup_ext h1)⟩
end
/-! ### spots -/
abbrev Spot := Pl × Nat
def spk (s : Spot) : NK := .tup [pk s.1, .num (s.2 : Int)]
theorem spk_inj (a b : Spot) (h : spk a = spk b) : a = b := by
  unfold spk at h
  injection h with h
  injection h with h1 h
  injection h with h2 _
  injection h2 with h2
  exact Prod.ext (pk_inj h1) (Int.ofNat.inj h2)
theorem pk_inj' (a b : Pl) (h : pk a = pk b) : a = b := pk_inj h
theorem spk_depth (s : Spot) : (spk s).depth ≤ 8 := by
  have h : ∀ l : Pl, NestedKey.depthAll (l.map pairK) ≤ 1 := by
    intro l
    induction l with
    | nil => exact Nat.zero_le _
    | cons p l ih =>
      show max (pairK p).depth (NestedKey.depthAll (l.map pairK)) ≤ 1
      have : (pairK p).depth = 1 := rfl
      omega
  have h1 := h s.1
  show NestedKey.depthAll [pk s.1, .num (s.2 : Int)] + 1 ≤ 8
  show max (NestedKey.depthAll (s.1.map pairK) + 1) (max 0 0) + 1 ≤ 8
  omega
def SpotV (K : PySem.W.Frag) (H : Hp) (v : V) (s : Spot) : Prop := ∃ a xv, v = .ref a ∧ SqT K H a [xv, nV s.2] ∧ PlV K H xv s.1
theorem SpotV.key {K : PySem.W.Frag} {H : Hp} {v : V} {s : Spot} (h : SpotV K H v s) : KeyV K H (spk s) v := by
  obtain ⟨a, xv, rfl, h1, h2⟩ := h
  exact .tup h1 (.cons (plV_key h2) (.cons (.num _) .nil))
theorem SpotV.tups {K : PySem.W.Frag} {H H' : Hp} (t : Tup K H H') {v : V} {s : Spot} (h : SpotV K H v s) : SpotV K H' v s := let ⟨a, xv, e, h1, h2⟩ := h; ⟨a, xv, e, t _ _ h1, h2.tups t⟩
def SpotsAt (K : PySem.W.Frag) (H : Hp) (a : Addr) (ss : List Spot) : Prop := ∃ vs, H a = some (.lst vs) ∧ Paired (SpotV K H) vs ss
theorem SpotsAt.keep {K : PySem.W.Frag} {H H' : Hp} {a : Addr} {ss : List Spot} (t : Tup K H H') (e : H' a = H a) (h : SpotsAt K H a ss) : SpotsAt K H' a ss := let ⟨vs, q, r⟩ := h; ⟨vs, e.trans q, L2.Paired.mapP r fun _ _ => SpotV.tups t⟩
theorem SpotsAt.same {K : PySem.W.Frag} {H H' : Hp} {a : Addr} {ss : List Spot} (s : Same H H') (h : SpotsAt K H a ss) : SpotsAt K H' a ss := let ⟨vs, q, r⟩ := h; ⟨vs, s _ _ q, L2.Paired.mapP r fun _ _ => SpotV.tups s.tups⟩
end My
namespace My
open PySem L2
/-! ### the spots, and what lost_next does, in plain Lean -/
abbrev Ev := Pl × Spot
def evRow (p : Pl) (rows : List (Bool × List Pl)) : List Ev := rows.zipIdx.flatMap fun rn => (succs rn.1).map fun q => (q, p, rn.2)
def evs (bs : List Bd) (ks : List Pl) : List Ev := ks.flatMap fun p => evRow p (rowF bs p)
def evAt (ev : List Ev) (k : Pl) : List Spot := (ev.filter fun e => decide (e.1 = k)).map (·.2)
theorem evAt_snoc (ev : List Ev) (q : Pl) (s : Spot) (k : Pl) : evAt (ev ++ [(q, s)]) k = if q = k then evAt ev k ++ [s] else evAt ev k := by
  unfold evAt
  rw [List.filter_append, List.map_append]
  by_cases e : q = k
  · rw [if_pos e]
    have : decide (((q, s) : Ev).1 = k) = true := decide_eq_true e
    simp [this]
  · rw [if_neg e]
    have : decide (((q, s) : Ev).1 = k) = false := decide_eq_false e
    simp [this]
theorem mem_evAt {ev : List Ev} {k : Pl} {s : Spot} : s ∈ evAt ev k ↔ (k, s) ∈ ev := by
  unfold evAt
  constructor
  · intro h
    obtain ⟨e, he, rfl⟩ := List.mem_map.mp h
    obtain ⟨h1, h2⟩ := List.mem_filter.mp he
    have h2 := of_decide_eq_true h2
    obtain ⟨a, b⟩ := e
    cases h2
    exact h1
  · intro h
    exact List.mem_map.mpr ⟨(k, s), List.mem_filter.mpr ⟨h, decide_eq_true rfl⟩, rfl⟩
theorem evAt_len (ev : List Ev) (k : Pl) : (evAt ev k).length ≤ ev.length := by
  unfold evAt
  rw [List.length_map]
  exact List.length_filter_le _ _
/-- n is a choice of p without a risk, and its successors are rs -/
def Free (bs : List Bd) (s : Spot) (rs : List Pl) : Prop := (rowF bs s.1)[s.2]? = some (false, rs)
theorem mem_evRow {p : Pl} {rows : List (Bool × List Pl)} {q : Pl} {s : Spot} : (q, s) ∈ evRow p rows ↔ s.1 = p ∧ ∃ rs, rows[s.2]? = some (false, rs) ∧ q ∈ rs := by
  unfold evRow
  constructor
  · intro h
    obtain ⟨⟨⟨rk, rs⟩, n⟩, h1, h2⟩ := List.mem_flatMap.mp h
    obtain ⟨q', h3, h4⟩ := List.mem_map.mp h2
    cases h4
    have h1 := List.mem_zipIdx_iff_getElem?.mp h1
    refine ⟨rfl, ?_⟩
    unfold succs at h3
    cases rk with
    | true => cases h3
    | false => exact ⟨rs, h1, h3⟩
  · rintro ⟨rfl, rs, h1, h2⟩
    obtain ⟨p, n⟩ := s
    exact List.mem_flatMap.mpr ⟨((false, rs), n), List.mem_zipIdx_iff_getElem?.mpr h1, List.mem_map.mpr ⟨q, h2, rfl⟩⟩
theorem mem_evs {bs : List Bd} {ks : List Pl} {q : Pl} {s : Spot} : (q, s) ∈ evs bs ks ↔ s.1 ∈ ks ∧ ∃ rs, Free bs s rs ∧ q ∈ rs := by
  unfold evs
  constructor
  · intro h
    obtain ⟨p, hp, h⟩ := List.mem_flatMap.mp h
    obtain ⟨e, h⟩ := mem_evRow.mp h
    refine ⟨e ▸ hp, ?_⟩
    rw [← e] at h
    exact h
  · rintro ⟨hp, h⟩
    exact List.mem_flatMap.mpr ⟨s.1, hp, mem_evRow.mpr ⟨rfl, h⟩⟩
theorem evRow_len (p : Pl) (rows : List (Bool × List Pl)) : (evRow p rows).length = (rows.flatMap succs).length := by
  unfold evRow
  have : ∀ (l : List (Bool × List Pl)) (n : Nat), ((l.zipIdx n).flatMap fun rn => (succs rn.1).map fun q => (q, p, rn.2)).length = (l.flatMap succs).length := by
    intro l
    induction l with
    | nil => intro n; rfl
    | cons r l ih =>
      intro n
      rw [List.zipIdx_cons, List.flatMap_cons, List.flatMap_cons, List.length_append, List.length_append, ih, List.length_map]
  exact this rows 0
theorem evs_len {bs : List Bd} (hok : BdsOk bs) {ks : List Pl} (hk : ∀ k ∈ ks, okPl bs k) : (evs bs ks).length ≤ ks.length * 147 := by
  unfold evs
  refine flat_len fun p hp => ?_
  rw [evRow_len]
  exact succs_len hok (okPl_len (hk p hp))
/-! ### lost_next -/
structure LS where
  hop : Pl → Int
  spo : List Spot
  lost : List Pl
def setI (f : Pl → Int) (k : Pl) (i : Int) : Pl → Int := fun x => if x = k then i else f x
def lostS (st : LS) (s : Spot) : LS := if s ∈ st.spo then st else ⟨setI st.hop s.1 (st.hop s.1 - 1), st.spo ++ [s], if st.hop s.1 - 1 = 0 then st.lost ++ [s.1] else st.lost⟩
def lostF (st : LS) (ss : List Spot) : LS := ss.foldl lostS st
theorem lostF_snoc (st : LS) (ss : List Spot) (s : Spot) : lostF st (ss ++ [s]) = lostS (lostF st ss) s := by unfold lostF; rw [List.foldl_append]; rfl
theorem lostF_app (st : LS) (a b : List Spot) : lostF st (a ++ b) = lostF (lostF st a) b := by unfold lostF; rw [List.foldl_append]
theorem lostS_spo (st : LS) (s x : Spot) : x ∈ (lostS st s).spo ↔ x ∈ st.spo ∨ x = s := by
  unfold lostS
  split
  · rename_i h
    exact ⟨.inl, fun z => z.elim id fun e => e ▸ h⟩
  · show x ∈ st.spo ++ [s] ↔ _
    rw [List.mem_append, List.mem_singleton]
theorem lostF_spo : ∀ (ss : List Spot) (st : LS) (x : Spot), x ∈ (lostF st ss).spo ↔ x ∈ st.spo ∨ x ∈ ss
  | [], st, x => ⟨.inl, fun z => z.elim id fun e => nomatch e⟩
  | s :: ss, st, x => by
    show x ∈ (lostF (lostS st s) ss).spo ↔ _
    rw [lostF_spo ss, lostS_spo, List.mem_cons]
    exact ⟨fun z => z.elim (fun z => z.elim .inl fun e => .inr (.inl e)) fun e => .inr (.inr e), fun z => z.elim (fun e => .inl (.inl e)) fun z => z.elim (fun e => .inl (.inr e)) .inr⟩
theorem lostS_nd {st : LS} {s : Spot} (h : st.spo.Nodup) : (lostS st s).spo.Nodup := by
  unfold lostS
  split
  · exact h
  · rename_i hn
    show (st.spo ++ [s]).Nodup
    rw [List.nodup_append]
    exact ⟨h, List.nodup_cons.mpr ⟨fun z => (nomatch z), List.nodup_nil⟩, fun a ha c hc e => hn (by rw [List.mem_singleton] at hc; rw [← hc, ← e]; exact ha)⟩
theorem lostF_nd : ∀ (ss : List Spot) {st : LS}, st.spo.Nodup → (lostF st ss).spo.Nodup
  | [], _, h => h
  | _ :: ss, _, h => lostF_nd ss (lostS_nd h)
theorem lostS_len (st : LS) (s : Spot) : (lostS st s).lost.length + st.spo.length ≤ (lostS st s).spo.length + st.lost.length := by
  unfold lostS
  split
  · omega
  · show (if _ then _ else _ : List Pl).length + _ ≤ (st.spo ++ [s]).length + _
    rw [List.length_append, List.length_singleton]
    split
    · rw [List.length_append, List.length_singleton]; omega
    · omega
theorem lostF_len : ∀ (ss : List Spot) (st : LS), (lostF st ss).lost.length + st.spo.length ≤ (lostF st ss).spo.length + st.lost.length
  | [], st => by show st.lost.length + st.spo.length ≤ st.spo.length + st.lost.length; omega
  | s :: ss, st => by
    have h1 := lostF_len ss (lostS st s)
    have h2 := lostS_len st s
    show (lostF (lostS st s) ss).lost.length + _ ≤ (lostF (lostS st s) ss).spo.length + _
    omega
def allSpots (ks : List Pl) : List Spot := ks.flatMap fun p => (List.range 3).map fun n => (p, n)
theorem mem_allSpots {ks : List Pl} {s : Spot} (h : s.1 ∈ ks) (hn : s.2 < 3) : s ∈ allSpots ks := List.mem_flatMap.mpr ⟨s.1, h, List.mem_map.mpr ⟨s.2, List.mem_range.mpr hn, rfl⟩⟩
theorem allSpots_len (ks : List Pl) : (allSpots ks).length ≤ ks.length * 3 := flat_len fun p _ => by rw [List.length_map, List.length_range]; exact Nat.le_refl _
theorem free_lt {bs : List Bd} (hok : BdsOk bs) {s : Spot} {rs : List Pl} (hp : okPl bs s.1) (h : Free bs s rs) : s.2 < 3 := by
  have h1 := (List.getElem?_eq_some_iff.mp h).1
  have h2 : (rowF bs s.1).length = (ableI s.1).length := List.length_map _
  have h3 := able_len s.1
  have h4 := okPl_len hp
  have h5 := hok.n2
  omega
/-! ### the ranks -/
def isFree (bs : List Bd) (p : Pl) (n : Nat) : Bool := match (rowF bs p)[n]? with
  | some r => !r.1
  | none => false
theorem isFree_iff {bs : List Bd} {p : Pl} {n : Nat} : isFree bs p n = true ↔ ∃ rs, Free bs (p, n) rs := by
  unfold isFree Free
  show (match (rowF bs p)[n]? with | some r => !r.1 | none => false) = true ↔ ∃ rs, (rowF bs p)[n]? = some (false, rs)
  cases e : (rowF bs p)[n]? with
  | none => exact ⟨fun h => (nomatch h), fun ⟨_, h⟩ => (nomatch h)⟩
  | some r =>
    obtain ⟨a, b⟩ := r
    cases a with
    | true => exact ⟨fun h => (nomatch h), fun ⟨_, h⟩ => by cases h⟩
    | false => exact ⟨fun _ => ⟨b, rfl⟩, fun _ => rfl⟩
/-- the free choices of p that are not among the spots -/
def cntL (bs : List Bd) (p : Pl) (spo : List Spot) : List Nat := (List.range (rowF bs p).length).filter fun n => isFree bs p n && !decide ((p, n) ∈ spo)
theorem mem_cntL {bs : List Bd} {p : Pl} {spo : List Spot} {n : Nat} : n ∈ cntL bs p spo ↔ (∃ rs, Free bs (p, n) rs) ∧ (p, n) ∉ spo := by
  unfold cntL
  rw [List.mem_filter, Bool.and_eq_true, isFree_iff, List.mem_range]
  constructor
  · rintro ⟨_, h, h2⟩
    exact ⟨h, by simpa using h2⟩
  · rintro ⟨⟨rs, h⟩, h2⟩
    exact ⟨(List.getElem?_eq_some_iff.mp h).1, ⟨rs, h⟩, by simpa using h2⟩
theorem cntL_nd (bs : List Bd) (p : Pl) (spo : List Spot) : (cntL bs p spo).Nodup := List.nodup_range.filter _
theorem cntL_zero {bs : List Bd} {p : Pl} {spo : List Spot} : (cntL bs p spo).length = 0 ↔ ∀ n rs, Free bs (p, n) rs → (p, n) ∈ spo := by
  rw [List.length_eq_zero_iff]
  constructor
  · intro h n rs hf
    by_cases z : (p, n) ∈ spo
    · exact z
    · have : n ∈ cntL bs p spo := mem_cntL.mpr ⟨⟨rs, hf⟩, z⟩
      rw [h] at this
      cases this
  · intro h
    refine List.eq_nil_iff_forall_not_mem.mpr fun n hn => ?_
    obtain ⟨⟨rs, hf⟩, h2⟩ := mem_cntL.mp hn
    exact h2 (h n rs hf)
theorem cntL_other {bs : List Bd} {p : Pl} {spo : List Spot} {s : Spot} (h : s.1 ≠ p) : cntL bs p (spo ++ [s]) = cntL bs p spo := by
  unfold cntL
  refine List.filter_congr fun n _ => ?_
  congr 2
  refine decide_eq_decide.mpr ?_
  rw [List.mem_append, List.mem_singleton]
  exact ⟨fun z => z.elim id fun e => absurd (congrArg Prod.fst e).symm h, .inl⟩
theorem cntL_own {bs : List Bd} {spo : List Spot} {s : Spot} {rs : List Pl} (hf : Free bs s rs) (hn : s ∉ spo) : (cntL bs s.1 spo).length = (cntL bs s.1 (spo ++ [s])).length + 1 := by
  have hm : s.2 ∈ cntL bs s.1 spo := mem_cntL.mpr ⟨⟨rs, hf⟩, hn⟩
  have h1 := nodup_len (l := cntL bs s.1 spo) (m := s.2 :: cntL bs s.1 (spo ++ [s])) (cntL_nd _ _ _) fun n hn' => by
    obtain ⟨h1, h2⟩ := mem_cntL.mp hn'
    by_cases e : n = s.2
    · exact e ▸ List.mem_cons_self
    · refine List.mem_cons_of_mem _ (mem_cntL.mpr ⟨h1, fun z => ?_⟩)
      rcases List.mem_append.mp z with z | z
      · exact h2 z
      · rw [List.mem_singleton] at z
        exact e (congrArg Prod.snd z)
  have h2 := nodup_len (l := s.2 :: cntL bs s.1 (spo ++ [s])) (m := cntL bs s.1 spo) (List.nodup_cons.mpr ⟨fun z => (mem_cntL.mp z).2 (List.mem_append_right _ (List.mem_singleton.mpr rfl)), cntL_nd _ _ _⟩) fun n hn' => by
    rcases List.mem_cons.mp hn' with e | hn'
    · exact e ▸ hm
    · obtain ⟨h1, h2⟩ := mem_cntL.mp hn'
      exact mem_cntL.mpr ⟨h1, fun z => h2 (List.mem_append_left _ z)⟩
  rw [List.length_cons] at h1 h2
  omega
/-- within a round: D the standings that are out -/
structure LI (bs : List Bd) (ks D : List Pl) (st : LS) : Prop where
  hop : ∀ p ∈ ks, st.hop p = ((cntL bs p st.spo).length : Nat)
  out : ∀ p ∈ ks, st.hop p = 0 ↔ p ∈ D ++ st.lost
  nd : (D ++ st.lost).Nodup
  sub : ∀ p ∈ st.lost, p ∈ ks
theorem LI.step {bs : List Bd} {ks D : List Pl} {st : LS} (h : LI bs ks D st) {s : Spot} {rs : List Pl} (hs : s.1 ∈ ks) (hf : Free bs s rs) : LI bs ks D (lostS st s) := by
  unfold lostS
  split
  · exact h
  · rename_i hn
    have h1 := h.hop s.1 hs
    have h2 := cntL_own hf hn
    have h0 : s.1 ∉ D ++ st.lost := fun z => by
      have := (h.out s.1 hs).mpr z
      omega
    have nh : st.hop s.1 - 1 = ((cntL bs s.1 (st.spo ++ [s])).length : Nat) := by omega
    refine ⟨fun p hp => ?_, fun p hp => ?_, ?_, fun p hp => ?_⟩
    · show setI st.hop s.1 (st.hop s.1 - 1) p = _
      unfold setI
      by_cases e : p = s.1
      · rw [if_pos e, e]; exact nh
      · rw [if_neg e, cntL_other (fun z => e z.symm)]; exact h.hop p hp
    · show setI st.hop s.1 (st.hop s.1 - 1) p = 0 ↔ p ∈ D ++ (if st.hop s.1 - 1 = 0 then st.lost ++ [s.1] else st.lost)
      unfold setI
      by_cases e : p = s.1
      · rw [if_pos e, e]
        by_cases z : st.hop s.1 - 1 = 0
        · rw [if_pos z]
          exact ⟨fun _ => List.mem_append_right _ (List.mem_append_right _ (List.mem_singleton.mpr rfl)), fun _ => z⟩
        · rw [if_neg z]
          exact ⟨fun q => absurd q z, fun q => absurd q h0⟩
      · rw [if_neg e]
        refine (h.out p hp).trans ?_
        split
        · rw [← List.append_assoc]
          exact ⟨fun q => List.mem_append_left _ q, fun q => (List.mem_append.mp q).elim id fun q => absurd (List.mem_singleton.mp q) e⟩
        · exact Iff.rfl
    · show (D ++ (if st.hop s.1 - 1 = 0 then st.lost ++ [s.1] else st.lost)).Nodup
      split
      · rw [← List.append_assoc, List.nodup_append]
        exact ⟨h.nd, List.nodup_cons.mpr ⟨fun z => (nomatch z), List.nodup_nil⟩, fun a ha c hc e => h0 (by rw [List.mem_singleton] at hc; rw [← hc, ← e]; exact ha)⟩
      · exact h.nd
    · have hp : p ∈ (if st.hop s.1 - 1 = 0 then st.lost ++ [s.1] else st.lost) := hp
      split at hp
      · rcases List.mem_append.mp hp with hp | hp
        · exact h.sub p hp
        · rw [List.mem_singleton] at hp; rw [hp]; exact hs
      · exact h.sub p hp
theorem LI.all {bs : List Bd} {ks D : List Pl} : ∀ (ss : List Spot) {st : LS}, LI bs ks D st → (∀ s ∈ ss, s.1 ∈ ks ∧ ∃ rs, Free bs s rs) → LI bs ks D (lostF st ss)
  | [], _, h, _ => h
  | s :: ss, _, h, hs => LI.all ss (h.step (hs s List.mem_cons_self).1 (hs s List.mem_cons_self).2.choose_spec) fun x hx => hs x (List.mem_cons_of_mem _ hx)
/-- between the rounds: S the standings with ranks rk up to r, N the newest ones -/
structure RI (bs : List Bd) (ks S N : List Pl) (rk : Pl → Nat) (r : Nat) (hop : Pl → Int) (spo : List Spot) : Prop where
  hp : ∀ p ∈ ks, hop p = ((cntL bs p spo).length : Nat)
  out : ∀ p ∈ ks, hop p = 0 ↔ p ∈ S ++ N
  nd : (S ++ N).Nodup
  sub : ∀ p ∈ S ++ N, p ∈ ks
  sp : ∀ s : Spot, s ∈ spo ↔ s.1 ∈ ks ∧ ∃ rs, Free bs s rs ∧ ∃ q ∈ rs, q ∈ S
  spnd : spo.Nodup
  low : ∀ p ∈ S, 1 ≤ rk p ∧ rk p ≤ r ∧ ∀ n rs, Free bs (p, n) rs → ∃ q ∈ rs, q ∈ S ∧ rk q < rk p
  len : r ≤ S.length
  up : ∀ p ∈ S, rk p = 1 ∨ ∃ n rs, Free bs (p, n) rs ∧ ∀ q ∈ rs, q ∈ S → rk p ≤ rk q + 1
  upN : ∀ p ∈ N, r = 0 ∨ ∃ n rs, Free bs (p, n) rs ∧ ∀ q ∈ rs, q ∈ S → r ≤ rk q
theorem RI.start {bs : List Bd} {ks : List Pl} {hop : Pl → Int} (hn : ks.Nodup) (h : ∀ p ∈ ks, hop p = ((cntL bs p []).length : Nat)) : RI bs ks [] (ks.filter fun p => decide (hop p = 0)) (fun _ => 0) 0 hop [] where
  hp := h
  out := fun p hp => by rw [List.nil_append, List.mem_filter]; exact ⟨fun z => ⟨hp, decide_eq_true z⟩, fun z => of_decide_eq_true z.2⟩
  nd := hn.filter _
  sub := fun p hp => by rw [List.nil_append] at hp; exact (List.mem_filter.mp hp).1
  sp := fun s => ⟨fun z => (nomatch z), fun ⟨_, _, _, _, _, z⟩ => (nomatch z)⟩
  spnd := List.nodup_nil
  low := fun p hp => (nomatch hp)
  len := Nat.le_refl _
  up := fun p hp => (nomatch hp)
  upN := fun p hp => .inl rfl
def setR (rk : Pl → Nat) (N : List Pl) (r : Nat) : Pl → Nat := fun x => if x ∈ N then r else rk x
theorem RI.round {bs : List Bd} {ks S N : List Pl} {rk : Pl → Nat} {r : Nat} {hop : Pl → Int} {spo : List Spot} (h : RI bs ks S N rk r hop spo) (hN : N ≠ []) :
    RI bs ks (S ++ N) (lostF ⟨hop, spo, []⟩ (N.flatMap (evAt (evs bs ks)))).lost (setR rk N (r + 1)) (r + 1) (lostF ⟨hop, spo, []⟩ (N.flatMap (evAt (evs bs ks)))).hop (lostF ⟨hop, spo, []⟩ (N.flatMap (evAt (evs bs ks)))).spo := by
  have hm : ∀ s, s ∈ N.flatMap (evAt (evs bs ks)) ↔ s.1 ∈ ks ∧ ∃ rs, Free bs s rs ∧ ∃ q ∈ rs, q ∈ N := fun s => by
    rw [List.mem_flatMap]
    constructor
    · rintro ⟨q, hq, h⟩
      obtain ⟨h1, rs, h2, h3⟩ := mem_evs.mp (mem_evAt.mp h)
      exact ⟨h1, rs, h2, q, h3, hq⟩
    · rintro ⟨h1, rs, h2, q, h3, hq⟩
      exact ⟨q, hq, mem_evAt.mpr (mem_evs.mpr ⟨h1, rs, h2, h3⟩)⟩
  have L0 : LI bs ks (S ++ N) ⟨hop, spo, []⟩ := ⟨h.hp, fun p hp => by rw [List.append_nil]; exact h.out p hp, by rw [List.append_nil]; exact h.nd, fun p hp => (nomatch hp)⟩
  have L := LI.all (N.flatMap (evAt (evs bs ks))) L0 fun s hs => let ⟨h1, rs, h2, _⟩ := (hm s).mp hs; ⟨h1, rs, h2⟩
  have hsp := lostF_spo (N.flatMap (evAt (evs bs ks))) ⟨hop, spo, []⟩
  have hnd := lostF_nd (N.flatMap (evAt (evs bs ks))) (st := ⟨hop, spo, []⟩) h.spnd
  generalize lostF ⟨hop, spo, []⟩ (N.flatMap (evAt (evs bs ks))) = st at L hsp hnd ⊢
  have hdis : ∀ p ∈ S, p ∉ N := fun p hp hq => (List.nodup_append.mp h.nd).2.2 p hp p hq rfl
  have rkS : ∀ q ∈ S, setR rk N (r + 1) q = rk q := fun q hq => if_neg (hdis q hq)
  have rkN : ∀ q ∈ N, setR rk N (r + 1) q = r + 1 := fun q hq => if_pos hq
  refine ⟨L.hop, L.out, L.nd, fun p hp => ?_, fun s => ?_, hnd, fun p hp => ?_, ?_, fun p hp => ?_, fun p hp => .inr ?_⟩
  · rcases List.mem_append.mp hp with hp | hp
    · exact h.sub p hp
    · exact L.sub p hp
  · rw [hsp, hm]
    show s ∈ spo ∨ _ ↔ _
    rw [h.sp]
    constructor
    · rintro (⟨h1, rs, h2, q, h3, h4⟩ | ⟨h1, rs, h2, q, h3, h4⟩)
      · exact ⟨h1, rs, h2, q, h3, List.mem_append_left _ h4⟩
      · exact ⟨h1, rs, h2, q, h3, List.mem_append_right _ h4⟩
    · rintro ⟨h1, rs, h2, q, h3, h4⟩
      rcases List.mem_append.mp h4 with h4 | h4
      · exact .inl ⟨h1, rs, h2, q, h3, h4⟩
      · exact .inr ⟨h1, rs, h2, q, h3, h4⟩
  · rcases List.mem_append.mp hp with hp | hp
    · obtain ⟨h1, h2, h3⟩ := h.low p hp
      have e : setR rk N (r + 1) p = rk p := if_neg (hdis p hp)
      rw [e]
      refine ⟨h1, by omega, fun n rs hf => ?_⟩
      obtain ⟨q, hq, hqs, hlt⟩ := h3 n rs hf
      refine ⟨q, hq, List.mem_append_left _ hqs, ?_⟩
      have e : setR rk N (r + 1) q = rk q := if_neg (hdis q hqs)
      rw [e]
      exact hlt
    · have e : setR rk N (r + 1) p = r + 1 := if_pos hp
      rw [e]
      refine ⟨by omega, Nat.le_refl _, fun n rs hf => ?_⟩
      have hpk := h.sub p (List.mem_append_right _ hp)
      have h0 := (h.out p hpk).mpr (List.mem_append_right _ hp)
      have hz : (cntL bs p spo).length = 0 := by have := h.hp p hpk; omega
      obtain ⟨_, rs', hf', q, hq, hqs⟩ := (h.sp (p, n)).mp (cntL_zero.mp hz n rs hf)
      have er : rs' = rs := by
        have := hf'.symm.trans hf
        injection this with this
        exact congrArg Prod.snd this
      rw [er] at hq
      refine ⟨q, hq, List.mem_append_left _ hqs, ?_⟩
      have e : setR rk N (r + 1) q = rk q := if_neg (hdis q hqs)
      rw [e]
      have := (h.low q hqs).2.1
      omega
  · rw [List.length_append]
    have := h.len
    have := List.length_pos_iff.mpr hN
    omega
  · rcases List.mem_append.mp hp with hp | hp
    · rw [rkS p hp]
      rcases h.up p hp with e | ⟨n, rs, hf, hq⟩
      · exact .inl e
      · refine .inr ⟨n, rs, hf, fun q hqr hqs => ?_⟩
        rcases List.mem_append.mp hqs with hqs | hqs
        · rw [rkS q hqs]; exact hq q hqr hqs
        · rw [rkN q hqs]; have := (h.low p hp).2.1; omega
    · rw [rkN p hp]
      rcases h.upN p hp with e | ⟨n, rs, hf, hq⟩
      · exact .inl (by omega)
      · refine .inr ⟨n, rs, hf, fun q hqr hqs => ?_⟩
        rcases List.mem_append.mp hqs with hqs | hqs
        · rw [rkS q hqs]; have := hq q hqr hqs; omega
        · rw [rkN q hqs]; omega
  · have hpk := L.sub p hp
    have hpn : p ∉ S ++ N := fun z => (List.nodup_append.mp L.nd).2.2 p z p hp rfl
    have h0 : ¬ hop p = 0 := fun z => hpn ((h.out p hpk).mp z)
    have hc : (cntL bs p spo).length ≠ 0 := fun z => h0 (by rw [h.hp p hpk, z]; rfl)
    obtain ⟨n, hn⟩ := List.exists_mem_of_length_pos (Nat.pos_of_ne_zero hc)
    obtain ⟨⟨rs, hf⟩, h2⟩ := mem_cntL.mp hn
    refine ⟨n, rs, hf, fun q hqr hqs => ?_⟩
    rcases List.mem_append.mp hqs with hqs | hqs
    · exact absurd ((h.sp (p, n)).mpr ⟨hpk, rs, hf, q, hqr, hqs⟩) h2
    · rw [rkN q hqs]; exact Nat.le_refl _
/-- what the ranks say: R those with a rank -/
structure RankOk (bs : List Bd) (ks R : List Pl) (rk : Pl → Nat) : Prop where
  nd : R.Nodup
  sub : ∀ p ∈ R, p ∈ ks
  low : ∀ p ∈ R, 1 ≤ rk p ∧ rk p ≤ ks.length ∧ ∀ n rs, Free bs (p, n) rs → ∃ q ∈ rs, q ∈ R ∧ rk q < rk p
  kept : ∀ p ∈ ks, p ∉ R → ∃ n rs, Free bs (p, n) rs ∧ ∀ q ∈ rs, q ∉ R
  up : ∀ p ∈ R, rk p = 1 ∨ ∃ n rs, Free bs (p, n) rs ∧ ∀ q ∈ rs, q ∈ R → rk p ≤ rk q + 1
theorem RI.done {bs : List Bd} {ks S : List Pl} {rk : Pl → Nat} {r : Nat} {hop : Pl → Int} {spo : List Spot} (h : RI bs ks S [] rk r hop spo) : RankOk bs ks S rk where
  nd := by have := h.nd; rw [List.append_nil] at this; exact this
  sub := fun p hp => h.sub p (List.mem_append_left _ hp)
  low := fun p hp => by
    obtain ⟨h1, h2, h3⟩ := h.low p hp
    have h4 := h.len
    have h5 := nodup_len (l := S) (m := ks) (by have := h.nd; rw [List.append_nil] at this; exact this) fun p hp => h.sub p (List.mem_append_left _ hp)
    exact ⟨h1, by omega, h3⟩
  kept := fun p hp hn => by
    have h0 : ¬ hop p = 0 := fun z => hn (by have := (h.out p hp).mp z; rw [List.append_nil] at this; exact this)
    have hc : (cntL bs p spo).length ≠ 0 := fun z => h0 (by rw [h.hp p hp, z]; rfl)
    obtain ⟨n, hn⟩ := List.exists_mem_of_length_pos (Nat.pos_of_ne_zero hc)
    obtain ⟨⟨rs, hf⟩, h2⟩ := mem_cntL.mp hn
    exact ⟨n, rs, hf, fun q hq z => h2 ((h.sp (p, n)).mpr ⟨hp, rs, hf, q, hq, z⟩)⟩
  up := h.up
/-- two tables' ranks agree -/
theorem RankOk.le {bs : List Bd} {ks ks' R R' : List Pl} {rk rk' : Pl → Nat} (h : RankOk bs ks R rk) (h' : RankOk bs ks' R' rk') (hc : Closed bs ks') : ∀ (m : Nat) (p : Pl), rk p ≤ m → p ∈ R → p ∈ ks' → p ∈ R' ∧ rk' p ≤ rk p
  | 0, p, hm, hp, _ => by have := (h.low p hp).1; omega
  | m + 1, p, hm, hp, hk => by
    have ih := RankOk.le h h' hc m
    have step : ∀ n rs, Free bs (p, n) rs → ∃ q ∈ rs, q ∈ R' ∧ rk' q < rk p := fun n rs hf => by
      obtain ⟨q, hq, hqR, hlt⟩ := (h.low p hp).2.2 n rs hf
      have hqk : q ∈ ks' := hc p hk (false, rs) (List.mem_of_getElem? hf) q hq
      obtain ⟨h1, h2⟩ := ih q (by omega) hqR hqk
      exact ⟨q, hq, h1, by omega⟩
    have hpR : p ∈ R' := by
      by_cases z : p ∈ R'
      · exact z
      · obtain ⟨n, rs, hf, hq⟩ := h'.kept p hk z
        obtain ⟨q, hq1, hq2, _⟩ := step n rs hf
        exact absurd hq2 (hq q hq1)
    refine ⟨hpR, ?_⟩
    rcases h'.up p hpR with e | ⟨n, rs, hf, hq⟩
    · have := (h.low p hp).1; omega
    · obtain ⟨q, hq1, hq2, hlt⟩ := step n rs hf
      have := hq q hq1 hq2
      omega
/-- a table from start with its ranks -/
structure Ranks (bs : List Bd) (start : Pl) (ks R : List Pl) (rk : Pl → Nat) : Prop where
  ok : RankOk bs ks R rk
  closed : Closed bs ks
  start : start ∈ ks
  pls : ∀ k ∈ ks, okPl bs k
  nd : ks.Nodup
theorem Ranks.mem {bs : List Bd} {s : Pl} {ks ks' R R' : List Pl} {rk rk' : Pl → Nat} (h : Ranks bs s ks R rk) (h' : Ranks bs s ks' R' rk') (hs : s ∈ R) : s ∈ R' ∧ rk' s = rk s := by
  obtain ⟨h1, h2⟩ := h.ok.le h'.ok h'.closed _ s (Nat.le_refl _) hs h'.start
  obtain ⟨_, h3⟩ := h'.ok.le h.ok h.closed _ s (Nat.le_refl _) h1 h.start
  exact ⟨h1, Nat.le_antisymm h2 h3⟩
end My
/-! {k: v for .. in ..} as a value, the keys tuples of tuples -/
namespace My
open PySem PySem.Spec PyProof.Rows L2
section
variable {X : Cx}
theorem pe_dcN {kx vx tg iter : Expr} {ifs : List Expr} {scope : Scope} {own : List (Str × Nat)} {pos : Pos} {wi : TI} {g : TG} {tt : TT} {tk tv : TE} {K : PySem.W.Frag} {w : World} (hK : X.K = K) (hw : X.w = w) (hu : X.A.units + 32 < cLine) (hc : X.calm = true) (hN : X.N.Nodup) (hi : PI X tg iter wi) (ok : BlkOk X.N X.env.scope scope own)
    (hg : ∀ (s : Shared) (H : Hp) (C : Addr) (cl : List (Str × Addr)) (fp : List Addr), PG (X.blk s H scope (compEnvC scope cl C X.env) fp) tg g) (ht : ∀ (s : Shared) (H : Hp) (C : Addr) (cl : List (Str × Addr)) (fp : List Addr), PTs (X.blk s H scope (compEnvC scope cl C X.env) fp) ifs tt)
    (hk : ∀ (s : Shared) (H : Hp) (C : Addr) (cl : List (Str × Addr)) (fp : List Addr), PE (X.blk s H scope (compEnvC scope cl C X.env) fp) kx tk)
    (he : ∀ (s : Shared) (H : Hp) (C : Addr) (cl : List (Str × Addr)) (fp : List Addr), PE (X.blk s H scope (compEnvC scope cl C X.env) fp) vx tv) (hs : ∀ x, foldedSetIterable iter X.env x = pure x := by intro _; rfl) :
    PE X (.DictComp kx vx [⟨tg, iter, ifs, 0⟩] scope pos) (tDcN K w wi g tt tk tv (own.map (·.2))) := by
  subst hK hw
  refine ⟨fun pins s σ H Q I h => ?_⟩
  rw [arm_eval_DictComp]
  have hfree : ∀ z ∈ scope.names, z.2 = .free → ∃ c, X.env.cells.lookup z.1 = some c := fun z hz e => (ok.free z hz e).elim (fun k => I.ok.has _ (.inl k)) fun k => I.ok.has _ (.inr k)
  refine wpAny_comprehension_free rfl hs (closure_ok hfree) ok.kind (fun z hz e => by rw [ok.uniq z hz, e]) (thn (hi.run pins s σ H _ I h) fun xv s1 hx => thn hx fun itv s2 h2 => ?_)
  obtain ⟨it, fp, tn, J, H2, ei, I2, T, st2, f2, q⟩ := h2
  subst ei
  refine wpAny_newObj_type (newEnv_comp ?_)
  obtain ⟨W, ⟨m0, w0⟩, turn⟩ := q s2.heap.objs.size (I2.hok.fresh (Nat.le_refl _))
  -- the new dict
  obtain ⟨D0, hD0⟩ : ∃ D0, D0 = s2.heap.objs.size := ⟨_, rfl⟩
  obtain ⟨s3, hs3⟩ : ∃ s3 : Shared, s3 = { s2 with heap := s2.heap.push { cls := .type "dict", data := .dict #[] } } := ⟨_, rfl⟩
  obtain ⟨H3, hH3⟩ : ∃ H3, H3 = upd H2 D0 (DnO X.w D0 []) := ⟨_, rfl⟩
  have k3 : ∀ b o, s2.heap.get? b = some o → s3.heap.get? b = some o := fun b o e => by rw [hs3]; exact Heap.get?_push_of_some _ e
  have z3 : s3.heap.objs.size = D0 + 1 := by rw [hs3, hD0]; exact Heap.size_push _ _
  have I3 : Inv X pins σ H3 s3 := by
    rw [hs3, hH3]
    refine I2.laid (t' := s2.toks) (fun b o e => Heap.get?_push_of_some _ e) (Nat.le_of_eq hD0.symm) ?_
    rw [hD0]
    exact dnO_ok (Nat.zero_le _) (beq_eq_false_iff_ne.mpr (Ne.symm (Nat.ne_of_lt I2.big))) (fun x hx => nomatch hx) .nil (Heap.get?_push_size _ rfl) ⟨rfl, rfl, rfl⟩ rfl rfl List.nodup_nil
  have lt2 : ∀ b ∈ fp, b < s2.heap.objs.size := fun b hb => let ⟨_, e, _⟩ := T.obj _ _ st2 b hb; Heap.lt_size e
  have f3 : ∀ b ∈ fp, FpOk X pins H3 b ∧ b < s3.heap.objs.size := fun b hb => by
    have hlt := lt2 b hb
    refine ⟨⟨?_, (f2 b hb).2⟩, by rw [z3, hD0]; exact Nat.lt_succ_of_lt hlt⟩
    rw [hH3, upd_ne (by rw [hD0]; exact Nat.ne_of_lt hlt)]
    exact (f2 b hb).1
  have st3 : tn 0 s3.heap := T.keep _ _ _ st2 fun b _ o e => k3 b o e
  rw [← hD0, ← hH3] at w0
  rw [← hD0] at turn
  have I4 := block_start (own := own) (fp := fp) I3 ok hN f3
  have pg := hg s3 H3 s3.heap.objs.size (cellsFrom (s3.heap.objs.size + 1) scope.names (cloFrom X.env.cells scope.names [])) fp
  have pt := ht s3 H3 s3.heap.objs.size (cellsFrom (s3.heap.objs.size + 1) scope.names (cloFrom X.env.cells scope.names [])) fp
  have pk := hk s3 H3 s3.heap.objs.size (cellsFrom (s3.heap.objs.size + 1) scope.names (cloFrom X.env.cells scope.names [])) fp
  have pe := he s3 H3 s3.heap.objs.size (cellsFrom (s3.heap.objs.size + 1) scope.names (cloFrom X.env.cells scope.names [])) fp
  show codeAny _ _ (.compStart (.DictComp kx vx [⟨tg, iter, ifs, 0⟩] scope pos) 0 (.ref it) (.ref s2.heap.objs.size) (compEnvC scope (cellsFrom ((s2.heap.push { cls := .type "dict", data := .dict #[] }).objs.size + 1) scope.names (cloFrom X.env.cells scope.names [])) (s2.heap.push { cls := .type "dict", data := .dict #[] }).objs.size X.env)) _ { s2 with heap := pushCells ((s2.heap.push { cls := .type "dict", data := .dict #[] }).push { cls := .type "dict", data := .dict #[] }) scope.names }
  have eh : s2.heap.push { cls := .type "dict", data := .dict #[] } = s3.heap := by rw [hs3]
  rw [eh, ← hD0]
  have e4 : ({ s2 with heap := pushCells (s3.heap.push { cls := .type "dict", data := .dict #[] }) scope.names } : Shared) = { s3 with heap := pushCells (s3.heap.push { cls := .type "dict", data := .dict #[] }) scope.names } := by rw [hs3]
  rw [e4]
  have kC : ∀ b o, s3.heap.get? b = some o → (pushCells (s3.heap.push { cls := .type "dict", data := .dict #[] }) scope.names).get? b = some o := fun b o e => pushCells_keeps _ _ _ _ (Heap.get?_push_of_some _ e)
  obtain ⟨ce, hce⟩ : ∃ ce, ce = compEnvC scope (cellsFrom (s3.heap.objs.size + 1) scope.names (cloFrom X.env.cells scope.names [])) s3.heap.objs.size X.env := ⟨_, rfl⟩
  obtain ⟨s4, hs4⟩ : ∃ s4 : Shared, s4 = { s3 with heap := pushCells (s3.heap.push { cls := .type "dict", data := .dict #[] }) scope.names } := ⟨_, rfl⟩
  rw [← hce, ← hs4] at I4
  rw [← hce] at pg pt pk pe
  rw [← hce, ← hs4]
  have cL : ce.locals = s3.heap.objs.size := by rw [hce]; rfl
  have st4 : tn 0 s4.heap := T.keep _ _ _ st3 fun b _ o e => by rw [hs4]; exact kC _ _ e
  have out : ∀ {σ' : L2.St} {H' : Hp} {s' : Shared}, Inv (X.blk s3 H3 scope ce fp) [] σ' H' s' → Inv X pins σ H' s' := fun {σ' H' s'} I' => I3.call' (ch := fp) I'.os I'.base I'.hok I'.bare fun b hb => ⟨(f3 b hb).1.2.2.2.1, (f3 b hb).1.2.1, (f3 b hb).1.2.2.2.2.1, (f3 b hb).1.2.2.2.2.2⟩
  have fpB : ∀ {σ' : L2.St} {H' : Hp} {s' : Shared}, Inv (X.blk s3 H3 scope ce fp) [] σ' H' s' → (∀ b ∈ fp, H' b = none) → ∀ b ∈ fp, FpOk (X.blk s3 H3 scope ce fp) [] H' b := fun {σ' H' s'} I' hn b hb =>
    ⟨hn b hb, (I'.ok.exf b hb).1, I'.ok.exfs b hb, .inl hb, fun x c e => (I'.ok.exf b hb).2 x c e, fun p hp => absurd (show p ∈ ([] : List (Addr × Obj)) ++ [] from hp) (by simp)⟩
  have loop : codeAny (model X.prog X.w) X.A (.compLoop (.DictComp kx vx [⟨tg, iter, ifs, 0⟩] scope pos) 0 (.ref it) (.ref D0) ce) (compPost (model X.prog X.w) X.A X.xe none (EP X pins σ Q) (.ref D0) s3.heap.objs.size) s4 := by
    refine compLoop_anyD (fun m s' => ∃ j H', Inv (X.blk s3 H3 scope ce fp) [] (wipe σ (own.map (·.2))) H' s' ∧ tn j s'.heap ∧ (∀ b ∈ fp, H' b = none) ∧ W j m H') ?_ m0 ⟨0, H3, I4, st4, fun b hb => (f3 b hb).1.1, w0⟩
    rintro m s5 ⟨j, H5, I5, st5, n5, w5⟩
    rcases turn j m H5 w5 with ⟨stop, qq⟩ | ⟨go, Nx, hNx, step⟩
    · refine thnF (T.done (X.blk s3 H3 scope ce fp) rfl rfl rfl hc j [] s5 _ H5 (fun _ _ => False) I5 (fpB I5 n5) st5 stop) fun r s6 ⟨hr, I6⟩ => ?_
      subst hr
      have I7 := out I6
      have nC : H5 s3.heap.objs.size = none := by
        have z : H5 ce.locals = none := I6.free
        rwa [cL] at z
      obtain ⟨mm, hn, _⟩ := I6.loc
      have hn : s6.heap.Ns ce.locals mm := hn
      rw [cL] at hn
      obtain ⟨g0, g1, g2, g3, g4, g5⟩ := I3.fpOk (Nat.le_refl _) nC
      refine ⟨mm, hn, fun h'' sb => ?_⟩
      exact ⟨.ref D0, H5, I7.turned (t' := s6.toks) (fun b o hb e => (sb.2 b hb).trans e) g0 g1 g3 g4 g5, rfl, qq⟩
    · refine thnF (T.item (X.blk s3 H3 scope ce fp) rfl rfl rfl hc j [] s5 _ H5 (fun _ _ => False) I5 (fpB I5 n5) st5 go) fun r s6 ⟨u, hr, h6⟩ => ?_
      subst hr
      refine thnF h6 fun _ s7 ⟨x, H7, I7, r7, y7, st7, n7⟩ => ?_
      have I7' := I7.pinned (fpB I7 n7) (T.obj _ _ st7)
      refine thnF (pg.run _ s7 _ H7 x u _ I7' r7 (step x H7 y7)) fun _ s8 ⟨σ8, H8, I8, hw8, q8⟩ => ?_
      refine thnF (pt.run _ s8 σ8 H8 _ I8 q8) fun bb s9 ⟨H9, I9, q9⟩ => ?_
      have fin : ∀ {s' : Shared} {H' : Hp}, Inv (X.blk s3 H3 scope ce fp) ([] ++ pinsAt fp s7.heap) σ8 H' s' → Nx H' → ∃ m', m' < m ∧ ∃ j H', Inv (X.blk s3 H3 scope ce fp) [] (wipe σ (own.map (·.2))) H' s' ∧ tn j s'.heap ∧ (∀ b ∈ fp, H' b = none) ∧ W j m' H' := fun {s' H'} I' nx => by
        obtain ⟨m', hm, w'⟩ := hNx H' nx
        have pz : ∀ b ∈ fp, ∀ o, s7.heap.get? b = some o → s'.heap.get? b = some o ∧ H' b = none := fun b hb o e =>
          let z := I'.pin (b, o) (List.mem_append_right _ (List.mem_append_right _ (mem_pinsAt hb e)))
          ⟨z.1, z.2.1⟩
        refine ⟨m', hm, j + 1, H', (I'.unpinned (pins := [])).weak (by rw [← hw8, wipe_length]) (fun k v e => ?_), T.keep _ _ _ st7 fun b hb o e => (pz b hb o e).1, fun b hb => ?_, w'⟩
        · rw [← hw8] at e
          exact (wipe_some e).1
        · obtain ⟨o, e, _⟩ := T.obj _ _ st7 b hb
          exact (pz b hb o e).2
      cases bb with
      | false =>
        simp only [Bool.false_eq_true, if_false] at q9 ⊢
        exact fin I9 q9
      | true =>
        simp only [if_true] at q9 ⊢
        refine thnF (pk.run _ s9 σ8 H9 _ I9 q9) fun z s10 ⟨yk, H10, I10, r10, q10⟩ => ?_
        refine thnF (pe.run _ s10 σ8 H10 _ I10 q10) fun z2 s11 ⟨yv, H11, I11, r11, kvs, k, a, ek, hD11, hk11, kb, kd, hz11, nx⟩ => ?_
        subst ek
        obtain rfl : z = Value.ref a := r10
        exact d_dictSetN (X := X.blk s3 H3 scope ce fp) (by show X.A.units + 16 < cLine; omega) I11 hD11 hk11 kb kd hz11 r11 fun s12 I12 => fin I12 nx
  exact codeAny_compStart_dict loop (T.self X.A 0 _ _ _ st4 loop)
end
end My
namespace My
open PySem L2
/-! ### sources_in -/
theorem lock_same {H H' : Hp} {d : Addr} {o : Obj} {u : HO} (hd : H d = some u) (s : Same (upd H d (.frz o u)) H') : Same H (upd H' d u) := fun b x e => by
  by_cases z : b = d
  · subst z
    rw [hd] at e
    cases e
    exact upd_same
  · rw [upd_ne z]
    exact s _ _ ((upd_ne z).trans e)
theorem tup_lock {K : PySem.W.Frag} {H : Hp} {d : Addr} {o : Obj} {w : World} {kvs : NKs} (hd : H d = some (DnO w d kvs)) : Tup K H (upd H d (.frz o (DnO w d kvs))) := tup_ext hd
theorem but_ext {H : Hp} {d : Addr} {w : World} {kvs : NKs} {o : HO} (hd : H d = some (DnO w d kvs)) : But [d] H (upd H d o) :=
  But.upd (fun b hb => by rw [List.mem_singleton] at hb; subst hb; exact .inr (.inl ⟨_, hd⟩)) List.mem_cons_self
theorem nodup_take {α : Type} {l : List α} {i : Nat} {p : α} (h : l.Nodup) (e : l[i]? = some p) : p ∉ l.take i := fun z => by
  rw [← List.take_append_drop i l, List.nodup_append] at h
  exact h.2.2 p z p (List.mem_of_getElem? (i := 0) (by rw [List.getElem?_drop, Nat.add_zero]; exact e)) rfl
theorem part_len (p : Pl) {rows : List (Bool × List Pl)} {j : Nat} {r : (Bool × List Pl) × Nat} (h : rows.zipIdx[j]? = some r) : ((rows.zipIdx.take j).flatMap fun rn => (succs rn.1).map fun q => ((q, p, rn.2) : Ev)).length + (succs r.1).length ≤ (evRow p rows).length := by
  have e : evRow p rows = ((rows.zipIdx.take (j + 1) ++ rows.zipIdx.drop (j + 1)).flatMap fun rn => (succs rn.1).map fun q => ((q, p, rn.2) : Ev)) := by rw [List.take_append_drop]; rfl
  rw [e, take_snoc h, List.flatMap_append, List.flatMap_append, List.flatMap_cons, List.flatMap_nil, List.append_nil, List.length_append, List.length_append, List.length_map]
  omega
/-- the sources so far: at ls k the list of the spots that lead to k -/
structure Src (K : PySem.W.Frag) (w : World) (H0 H : Hp) (s : Addr) (ks : List Pl) (ls : Pl → Addr) (ev : List Ev) : Prop where
  same : Same H0 H
  new : H0 s = none
  df : DF K w pk H s ks (fun k => .ref (ls k))
  at_ : ∀ k ∈ ks, SpotsAt K H (ls k) (evAt ev k)
  inj : ∀ k ∈ ks, ∀ k' ∈ ks, ls k = ls k' → k = k'
  off : ∀ k ∈ ks, H0 (ls k) = none
theorem Src.more {K : PySem.W.Frag} {w : World} {H0 H H' : Hp} {s : Addr} {ks : List Pl} {ls : Pl → Addr} {ev : List Ev} (h : Src K w H0 H s ks ls ev) (t : Same H H') : Src K w H0 H' s ks ls ev :=
  ⟨h.same.trans t, h.new, h.df.same t, fun k hk => (h.at_ k hk).same t, h.inj, h.off⟩
/-- a spot more, at the list of q -/
theorem Src.push {K : PySem.W.Frag} {w : World} {H0 H : Hp} {s : Addr} {ks : List Pl} {ls : Pl → Addr} {ev : List Ev} (h : Src K w H0 H s ks ls ev) {q : Pl} (hq : q ∈ ks) {p : Spot} {v : V} (hv : SpotV K H v p) {vs : List V} (hl : H (ls q) = some (.lst vs)) :
    Src K w H0 (upd H (ls q) (.lst (vs ++ [v]))) s ks ls (ev ++ [(q, p)]) := by
  have t : Tup K H (upd H (ls q) (.lst (vs ++ [v]))) := tup_lst hl
  have ns : s ≠ ls q := fun z => by
    obtain ⟨x, e⟩ := h.df.obj
    rw [z, hl] at e
    cases e
  refine ⟨same_mut h.same (h.off q hq), h.new, h.df.keep t (upd_ne ns), fun k hk => ?_, h.inj, h.off⟩
  rw [evAt_snoc]
  by_cases e : q = k
  · subst e
    rw [if_pos rfl]
    obtain ⟨vs', e1, e2⟩ := h.at_ q hk
    rw [hl] at e1
    cases e1
    exact ⟨_, upd_same, Paired.snoc (L2.Paired.mapP e2 fun _ _ => SpotV.tups t) (hv.tups t)⟩
  · rw [if_neg e]
    exact (h.at_ k hk).keep t (upd_ne fun z => e (h.inj q hq k hk z.symm))
section
variable {P : Program} {w : World} {K : PySem.W.Frag} {mg : Str → Option Value} {base : Heap}
abbrev s_sources_in : Stmt := top 33
abbrev N_sources_in : List Str := ["table", "place", "sources", "row", "number", "risky", "following", "after"]
theorem sc_sources_in : FnScope N_sources_in ["table"] (C8.fnScope s_sources_in) := C8.fnScope_by (by decide +kernel)
def sp_sources_in (K : PySem.W.Frag) (w : World) : Sp := fun vs H Q _ => ∃ (d : Addr) (bs : List Bd) (kvs : NKs) (ks : List Pl), vs = [.ref d] ∧ H d = some (DnO w d kvs) ∧ Tab K H [d] bs kvs ks ∧ BdsOk bs ∧ Closed bs ks ∧
  ∀ s ls H', Src K w H H' s ks ls (evs bs ks) → Q (.ref s) H'
theorem ok_sources_in {f : Addr} {fd : FuncData} (F : C8.Def K mg "sources_in" s_sources_in f fd) (b : Binds K fd ["table"] []) (T : Gb mg) : C8.Cal P w K mg base 1 "sources_in" (sp_sources_in K w) [] := by
  refine C8.cal0 F b .nil sc_sources_in (fun vs H Q E h => ?_) (fun cdv A outer s H vs Q E hr h => ?_)
  · obtain ⟨d, bs, kvs, ks, rfl, _⟩ := h
    rfl
  · obtain ⟨d, bs, kvs, ks, rfl, hd, tab, hok, hcl, q⟩ := h
    refine ⟨_, (pss_cons (ps_lock (ps_setDcN (i := 2) (own := [("place", 1)]) (K := K) (w := w) rfl rfl (Nat.lt_of_le_of_lt (Nat.add_le_add_left (by decide) _) hr.un) rfl sc_sources_in.nd rfl rfl (swd_true rfl rfl rfl (by decide +kernel)) (pi_keysN (w := w) rfl (pv 0)) (blkOk_by (N := N_sources_in) (sc := C8.fnScope s_sources_in) (by decide +kernel)) (fun _ _ _ _ _ => (pg_name (i := 1) sc_sources_in.nd rfl (Or.inl rfl))) (fun _ _ _ _ _ => pts_nil) (fun _ _ _ _ _ => (pv 1)) (fun _ _ _ _ _ => (pe_lst pa_nil))))
(pss_cons (ps_lock (ps_for PassesOwn.never rfl (pi_itemsN (w := w) rfl (pv 0)) (pg_tup (by rfl) (pgs_cons (pg_name (i := 1) sc_sources_in.nd rfl (Or.inl rfl)) (pgs_cons (pg_name (i := 3) sc_sources_in.nd rfl (Or.inl rfl)) pgs_nil)))
(pss_one (ps_for PassesOwn.never rfl (pi_enum (by rfl) T.enumerate (pa_cons (pv 3) pa_nil)) (pg_tup (by rfl) (pgs_cons (pg_name (i := 4) sc_sources_in.nd rfl (Or.inl rfl)) (pgs_cons (pg_tup (by rfl) (pgs_cons (pg_name (i := 5) sc_sources_in.nd rfl (Or.inl rfl)) (pgs_cons (pg_name (i := 6) sc_sources_in.nd rfl (Or.inl rfl)) pgs_nil))) pgs_nil)))
(pss_one (ps_if (pt_not (pt_val (pv 5)))
(pss_one (ps_for PassesOwn.never rfl (pi_listK K rfl (pv 6)) (pg_name (i := 7) sc_sources_in.nd rfl (Or.inl rfl))
(pss_one (ps_expr (pe_bm PySem.F.plainAttrs_list PySem.F.slot_list_append PySem.F.type_list_append mt_append (pe_ix (ix_dNK (K := K) (w := w) rfl rfl (Nat.lt_of_le_of_lt (Nat.add_le_add_left (by decide) _) hr.un)) (pv 2) (pv 7) (fun _ _ => rfl)) (pa_cons (pe_tup (pa_cons (pv 1) (pa_cons (pv 4) pa_nil))) pa_nil))))))
pss_nil))))))
(pss_one (ps_ret (pv 2))))), ?_⟩
    have hfew := few hok tab.nd tab.ok
    have lkv : kvs.length = ks.length := by
      have := congrArg List.length tab.keys
      rw [List.length_map, List.length_map] at this
      exact this
    refine ⟨d, _, hd, trivial, fun od => ?_⟩
    -- the lists
    obtain ⟨H1, e1⟩ : ∃ H1, H1 = upd H d (.frz od (DnO w d kvs)) := ⟨_, rfl⟩
    have hd1 : H1 d = some (.frz od (DnO w d kvs)) := by rw [e1]; exact upd_same
    have tab1 : Tab K H1 [d] bs kvs ks := by rw [e1]; exact (but_ext hd).tab tab
    rw [← e1]
    refine ⟨_, rfl, d, od, kvs, rfl, hd1, fun D hD => ?_⟩
    refine ⟨fun i m H' => m = kvs.length - i ∧ i ≤ kvs.length ∧ ∃ ls, Src K w H1 H' D (ks.take i) ls [],
      ⟨_, rfl, Nat.zero_le _, fun _ => 0, same_new (Same.refl _) hD, hD, DF.nil _, fun k hk => (nomatch hk), fun k hk => (nomatch hk), fun k hk => (nomatch hk)⟩, ?_⟩
    rintro i m H2 ⟨rfl, hi, ls, S⟩
    have hd2 := S.same _ _ hd1
    by_cases hlt : i < kvs.length
    rotate_left
    · have ei : i = kvs.length := by omega
      refine .inl ⟨⟨hd2, by omega⟩, hd2, ?_⟩
      rw [ei, lkv, List.take_length] at S
      clear hD tab1
      -- unlocked; the second lock
      have S2 : Src K w H (upd H2 d (DnO w d kvs)) D ks ls [] := by
        have nD : D ≠ d := fun z => by rw [← z] at hd1; have := S.new; rw [hd1] at this; cases this
        have tt : Tup K H2 (upd H2 d (DnO w d kvs)) := fun a xs h => by
          by_cases z : a = d
          · subst z
            rcases h with (h | ⟨o, h⟩) | h
            · rw [hd2] at h; cases h
            · rw [hd2] at h; cases h
            · exact .inr h
          · rcases h with (h | ⟨o, h⟩) | h
            · exact .inl (.inl ((upd_ne z).trans h))
            · exact .inl (.inr ⟨o, (upd_ne z).trans h⟩)
            · exact .inr h
        have nl : ∀ k ∈ ks, ls k ≠ d := fun k hk z => by have := S.off k hk; rw [z, hd1] at this; cases this
        refine ⟨lock_same hd (e1 ▸ S.same), ?_, S.df.keep tt (upd_ne nD), fun k hk => (S.at_ k hk).keep tt (upd_ne (nl k hk)), S.inj, fun k hk => ?_⟩
        · have := S.new; rw [e1, upd_ne nD] at this; exact this
        · have := S.off k hk; rw [e1, upd_ne (nl k hk)] at this; exact this
      clear S hd2 e1 hd1
      generalize upd H2 d (DnO w d kvs) = H3 at S2 ⊢
      have hd3 : H3 d = some (DnO w d kvs) := S2.same _ _ hd
      refine ⟨d, _, hd3, trivial, fun od2 => ?_⟩
      have nD : D ≠ d := fun z => by have := S2.new; rw [z, hd] at this; cases this
      have nl : ∀ k ∈ ks, ls k ≠ d := fun k hk z => by have := S2.off k hk; rw [z, hd] at this; cases this
      obtain ⟨H0, e0⟩ : ∃ H0, H0 = upd H d (.frz od2 (DnO w d kvs)) := ⟨_, rfl⟩
      have hd0 : H0 d = some (.frz od2 (DnO w d kvs)) := by rw [e0]; exact upd_same
      have tab0 : Tab K H0 [d] bs kvs ks := by rw [e0]; exact (but_ext hd).tab tab
      have S3 : Src K w H0 (upd H3 d (.frz od2 (DnO w d kvs))) D ks ls [] := by
        refine ⟨fun b o hb => ?_, ?_, S2.df.keep (tup_ext hd3) (upd_ne nD), fun k hk => (S2.at_ k hk).keep (tup_ext hd3) (upd_ne (nl k hk)), S2.inj, fun k hk => ?_⟩
        · rw [e0] at hb
          by_cases z : b = d
          · subst z
            rw [upd_same] at hb
            cases hb
            exact upd_same
          · rw [upd_ne z] at hb ⊢
            exact S2.same _ _ hb
        · rw [e0, upd_ne nD]; exact S2.new
        · rw [e0, upd_ne (nl k hk)]; exact S2.off k hk
      clear S2
      generalize upd H3 d (.frz od2 (DnO w d kvs)) = H4 at S3 ⊢
      have hevl := evs_len hok tab.ok
      refine ⟨_, rfl, d, od2, kvs, rfl, S3.same _ _ hd0, for_it walk_itemsN (fun i σ H' => Src K w H0 H' D ks ls (evs bs (ks.take i)) ∧ ∃ v1 v3 v4 v5 v6 v7, σ = [some (.ref d), v1, some (.ref D), v3, v4, v5, v6, v7])
        ⟨S3, _, _, _, _, _, _, rfl⟩ (fun i σ H' _ h => h.1.same _ _ hd0) ?_ ?_⟩
      · rintro i x σ H5 H5' hi5 ⟨S5, v1, v3, v4, v5, v6, v7, rfl⟩ ⟨T1, x1, x2, rfl, hT, rfl, g1, g2⟩
        obtain ⟨⟨nk, na, nv⟩, hkv, rfl⟩ := Option.map_eq_some_iff.mp g1
        have g2 : (kvs[i]?.map fun kv => kv.2.2) = some x2 := g2
        rw [hkv] at g2
        obtain rfl : nv = x2 := Option.some.inj g2
        have hk5 : (ks.map pk)[i]? = some nk := by rw [← tab.keys, List.getElem?_map, hkv]; rfl
        obtain ⟨p, hp, rfl⟩ := at_map hk5
        have hpm := List.mem_of_getElem? hp
        have hpo := tab.ok p hpm
        obtain ⟨ra, rvs, rfl, hra, hrp, hran⟩ := tab0.rows _ (List.mem_of_getElem? hkv) p rfl
        have hpv : PlV K H0 (.ref na) p := key_plV (tab0.kok _ (List.mem_of_getElem? hkv))
        have s5 := same_new (o := .tup [.ref na, .ref ra]) (Same.refl H5) hT
        have S6 := S5.more s5
        refine ⟨T1, _, rfl, .inl (.inl upd_same), rfl, ?_⟩
        generalize upd H5 T1 (.tup [.ref na, .ref ra]) = H6 at S6 ⊢
        have lr := hrp.length
        have eout : evs bs (ks.take (i + 1)) = evs bs (ks.take i) ++ evRow p (rowF bs p) := by
          unfold evs
          rw [take_snoc hp, List.flatMap_append, List.flatMap_cons, List.flatMap_nil, List.append_nil]
        have hpart : (evs bs (ks.take (i + 1))).length ≤ 64827 := by
          have e2 := evs_len hok (ks := ks.take (i + 1)) fun k hk => tab.ok k (List.mem_of_mem_take hk)
          have := List.length_take_le (i + 1) ks
          omega
        refine ⟨_, _, rfl, _, _, rfl, rfl, _, rfl, ra, rvs, rfl, SqL.of (S6.same _ _ hra), for_it walk_enum (fun j σ H' => Src K w H0 H' D ks ls (evs bs (ks.take i) ++ ((rowF bs p).zipIdx.take j).flatMap fun rn => (succs rn.1).map fun q => (q, p, rn.2)) ∧ ∃ v4 v5 v6 v7, σ = [some (.ref d), some (.ref na), some (.ref D), some (.ref ra), v4, v5, v6, v7])
          ⟨by rw [List.take_zero, List.flatMap_nil, List.append_nil]; exact S6, _, _, _, _, rfl⟩ (fun j σ H' _ h => SqL.of (h.1.same _ _ hra)) ?_ ?_⟩
        · rintro j x σ7 H7 H7' hj ⟨S7, v4', v5', v6', v7', rfl⟩ ⟨T2, y1, y2, rfl, hT2, rfl, g3, g4⟩
          obtain rfl := Option.some.inj g3
          obtain ⟨r, hr7, ⟨la, l, rfl, hla, hlp, hln⟩⟩ := paired_at hrp g4
          have s7 := same_new (o := .tup [.int (j : Nat), .ref la]) (Same.refl H7) hT2
          have S8 := S7.more s7
          refine ⟨T2, _, rfl, .inl (.inl upd_same), rfl, ?_⟩
          generalize upd H7 T2 (.tup [.int (j : Nat), .ref la]) = H8 at S8 ⊢
          have hz : (rowF bs p).zipIdx[j]? = some (r, j) := by rw [List.getElem?_zipIdx, hr7]; simp
          obtain ⟨rk, rps⟩ := r
          refine ⟨_, _, rfl, _, _, rfl, la, _, rfl, S8.same.tup hla, rfl, _, _, rfl, _, _, rfl, rfl, rfl, ?_⟩
          refine ⟨_, rfl, rk, rfl, ?_⟩
          rw [take_snoc hz, List.flatMap_append, List.flatMap_cons, List.flatMap_nil, List.append_nil, ← List.append_assoc]
          cases rk with
          | true =>
            refine iteF ?_
            refine ⟨?_, _, _, _, _, rfl⟩
            show Src K w H0 H8 D ks ls (_ ++ [])
            rw [List.append_nil]
            exact S8
          | false =>
            refine iteT ?_
            obtain ⟨zs, hzs, hzp⟩ := hlp
            have lz : zs.length = rps.length := hzp.length
            have hsub : ∀ q ∈ rps, q ∈ ks := fun q hq => hcl p hpm (false, rps) (List.mem_of_getElem? hr7) q hq
            refine ⟨_, rfl, l, rfl, ⟨_, SqL.of (S8.same _ _ hzs)⟩, for_it (walk_list (xs := zs)) (fun t σ H' => Src K w H0 H' D ks ls ((evs bs (ks.take i) ++ ((rowF bs p).zipIdx.take j).flatMap fun rn => (succs rn.1).map fun q => (q, p, rn.2)) ++ (rps.take t).map fun q => (q, p, j)) ∧ ∃ v7, σ = [some (.ref d), some (.ref na), some (.ref D), some (.ref ra), some (.int (j : Nat)), some (.bl false), some (.ref l), v7])
              ⟨by rw [List.take_zero, List.map_nil, List.append_nil]; exact S8, _, rfl⟩ (fun t σ H' _ h => SqL.of (h.1.same _ _ hzs)) ?_ ?_⟩
            · rintro t y σ9 H9 H9' ht ⟨S9, v7', rfl⟩ ⟨rfl, hy⟩
              obtain ⟨q', hq', hyv⟩ := paired_at hzp hy
              have hqk := hsub q' (List.mem_of_getElem? hq')
              obtain ⟨ya, yxs, rfl, hya, hyp⟩ := id (PlV.mono S9.same hyv)
              refine ⟨_, rfl, _, rfl, S9.df.get hqk (plV_key ⟨ya, yxs, rfl, hya, hyp⟩) (pk_depth _) ?_⟩
              obtain ⟨svs, hsvs, hsp⟩ := S9.at_ q' hqk
              refine ⟨.inl ⟨rfl, _, SqL.of hsvs⟩, ?_⟩
              refine ⟨_, rfl, _, rfl, by show 2 ≤ sizeLine; decide, fun T3 hT3 => ?_⟩
              have s9 := same_new (o := .tup [.ref na, .int (j : Nat)]) (Same.refl H9') hT3
              have S10 := S9.more s9
              have hT3' : upd H9' T3 (.tup [.ref na, .int (j : Nat)]) T3 = some (.tup [.ref na, .int (j : Nat)]) := upd_same
              have hsv10 := s9 _ _ hsvs
              generalize upd H9' T3 (.tup [.ref na, .int (j : Nat)]) = H10 at S10 hT3' hsv10 ⊢
              have hlen : svs.length < 100000 := by
                have l1 := hsp.length
                have l2 := evAt_len ((evs bs (ks.take i) ++ ((rowF bs p).zipIdx.take j).flatMap fun rn => (succs rn.1).map fun q => (q, p, rn.2)) ++ (rps.take t).map fun q => (q, p, j)) q'
                have l3 := congrArg List.length eout
                have l5 : (((rowF bs p).zipIdx.take j).flatMap fun rn => (succs rn.1).map fun q => ((q, p, rn.2) : Ev)).length + rps.length ≤ (evRow p (rowF bs p)).length := part_len p hz
                have l8 := List.length_take_le t rps
                have l9 : ((rps.take t).map fun q => ((q, p, j) : Ev)).length = (rps.take t).length := List.length_map _
                rw [List.length_append] at l2 l3
                rw [List.length_append] at l2
                omega
              refine ⟨_, svs, _, rfl, rfl, hsv10, size_lt hlen, ?_⟩
              have hpn : PlV K H10 (.ref na) p := hpv.mono S10.same
              refine ⟨?_, _, rfl⟩
              rw [take_snoc hq', List.map_append, ← List.append_assoc]
              exact S10.push hqk (p := (p, j)) ⟨T3, _, rfl, .inl (.inl hT3'), hpn⟩ hsv10
            · rintro σ9 H9 ⟨S9, v7', rfl⟩
              rw [lz, List.take_length] at S9
              exact ⟨S9, _, _, _, _, rfl⟩
        · rintro σ7 H7 ⟨S7, v4', v5', v6', v7', rfl⟩
          have lz : (rowF bs p).zipIdx.length = rvs.length := by rw [List.length_zipIdx]; exact lr.symm
          rw [← lz, List.take_length] at S7
          refine ⟨?_, _, _, _, _, _, _, rfl⟩
          rw [eout]
          exact S7
      · rintro σ5 H5 ⟨S5, v1, v3, v4, v5, v6, v7, rfl⟩
        rw [lkv, List.take_length] at S5
        have hd5 := S5.same _ _ hd0
        refine ⟨hd5, _, rfl, q D ls _ ?_⟩
        have tt : Tup K H5 (upd H5 d (DnO w d kvs)) := fun a xs h => by
          by_cases z : a = d
          · subst z
            rcases h with (h | ⟨o, h⟩) | h
            · rw [hd5] at h; cases h
            · rw [hd5] at h; cases h
            · exact .inr h
          · rcases h with (h | ⟨o, h⟩) | h
            · exact .inl (.inl ((upd_ne z).trans h))
            · exact .inl (.inr ⟨o, (upd_ne z).trans h⟩)
            · exact .inr h
        refine ⟨lock_same hd (e0 ▸ S5.same), ?_, S5.df.keep tt (upd_ne nD), fun k hk => (S5.at_ k hk).keep tt (upd_ne (nl k hk)), S5.inj, fun k hk => ?_⟩
        · have := S5.new; rw [e0, upd_ne nD] at this; exact this
        · have := S5.off k hk; rw [e0, upd_ne (nl k hk)] at this; exact this
    · obtain ⟨⟨nk, na, nv⟩, hkv⟩ := at_ex hlt
      have hk5 : (ks.map pk)[i]? = some nk := by rw [← tab.keys, List.getElem?_map, hkv]; rfl
      obtain ⟨p, hp, rfl⟩ := at_map hk5
      refine .inr ⟨⟨hd2, hlt⟩, fun H' => ∃ ls, Src K w H1 H' D (ks.take (i + 1)) ls [], fun H' h => ⟨_, (by omega), rfl, hlt, h⟩, ?_⟩
      rintro x H' ⟨rfl, k', a', v', e', rfl⟩
      rw [hkv] at e'
      cases e'
      refine ⟨rfl, yes_go ?_⟩
      refine ⟨_, rfl, by show 0 ≤ sizeLine; decide, fun l hl => ?_⟩
      have S6 := S.more (same_new (o := .lst []) (Same.refl H') hl)
      have hpv : KeyV K H1 (pk p) (.ref na) := tab1.kok _ (List.mem_of_getElem? hkv)
      have hpv6 := (S6.same).key hpv
      obtain ⟨kvs', k1, k2, k3, k4, k5⟩ := S6.df.step pk_inj'
      have hpn : p ∉ ks.take i := nodup_take tab.nd hp
      have lt6 := List.length_take_le i ks
      refine ⟨kvs', pk p, na, rfl, k1, k2, hpv6, pk_depth _, size_lt (by omega), fun x => if x = p then l else ls x, ?_⟩
      have hl1 : H1 l = none := S.same.free hl
      have hDn : D ≠ l := fun z => by
        obtain ⟨x, e⟩ := S.df.obj
        rw [z, hl] at e
        cases e
      have tt : Tup K (upd H' l (.lst [])) (upd (upd H' l (.lst [])) D (DnO w D (putN kvs' (pk p) na (.ref l)))) := tup_ext k1
      have hll : upd (upd H' l (.lst [])) D (DnO w D (putN kvs' (pk p) na (.ref l))) l = some (.lst []) := (upd_ne (Ne.symm hDn)).trans upd_same
      have k6 := k5 p na (.ref l) hpv6
      have tk : ks.take (i + 1) = ks.take i ++ [p] := take_snoc hp
      have nlk : ∀ k ∈ ks.take i, ls k ≠ l := fun k hk z => by
        obtain ⟨vs, e, _⟩ := S.at_ k hk
        rw [z, hl] at e
        cases e
      have nkp : ∀ k ∈ ks.take i, k ≠ p := fun k hk z => hpn (z ▸ hk)
      refine ⟨same_mut S6.same S6.new, S6.new, ?_, fun k hk => ?_, fun k hk k' hk' e => ?_, fun k hk => ?_⟩
      · rw [addK_new hpn] at k6
        rw [tk]
        refine k6.ext fun k hk => ?_
        unfold setF
        by_cases e : k = p
        · rw [if_pos e, if_pos e]
        · rw [if_neg e, if_neg e]
      · rw [tk] at hk
        show SpotsAt K _ (if k = p then l else ls k) []
        rcases List.mem_append.mp hk with hk | hk
        · rw [if_neg (nkp k hk)]
          have nd : ls k ≠ D := fun z => by
            obtain ⟨vs, e, _⟩ := S6.at_ k hk
            obtain ⟨x, e'⟩ := S6.df.obj
            rw [z, e'] at e
            cases e
          exact (S6.at_ k hk).keep tt (upd_ne nd)
        · rw [List.mem_singleton] at hk
          rw [if_pos hk]
          exact ⟨[], hll, .nil⟩
      · rw [tk] at hk hk'
        have e : (if k = p then l else ls k) = (if k' = p then l else ls k') := e
        rcases List.mem_append.mp hk with hk | hk
        · rw [if_neg (nkp k hk)] at e
          rcases List.mem_append.mp hk' with hk' | hk'
          · rw [if_neg (nkp k' hk')] at e
            exact S.inj k hk k' hk' e
          · rw [List.mem_singleton] at hk'
            rw [if_pos hk'] at e
            exact absurd e (nlk k hk)
        · rw [List.mem_singleton] at hk
          rw [if_pos hk] at e
          rcases List.mem_append.mp hk' with hk' | hk'
          · rw [if_neg (nkp k' hk')] at e
            exact absurd e.symm (nlk k' hk')
          · rw [List.mem_singleton] at hk'
            rw [hk, hk']
      · rw [tk] at hk
        show H1 (if k = p then l else ls k) = none
        rcases List.mem_append.mp hk with hk | hk
        · rw [if_neg (nkp k hk)]
          exact S.off k hk
        · rw [List.mem_singleton] at hk
          rw [if_pos hk]
          exact hl1
end
end My
namespace My
open PySem L2
/-! ### lost_next -/
structure LN (K : PySem.W.Frag) (w : World) (H : Hp) (h p l : Addr) (ks : List Pl) (H' : Hp) (st : LS) : Prop where
  but : But [h, p] H H'
  dh : DF K w pk H' h ks (fun k => .int (st.hop k))
  dp : DF K w spk H' p st.spo (fun _ => .bl true)
  lo : RowsPl K H' l st.lost
theorem but_two {H : Hp} {h p : Addr} (e1 : ∃ q, H h = some (.ext q)) (e2 : ∃ q, H p = some (.ext q)) : ∀ b ∈ [h, p], (∃ xs, H b = some (.lst xs)) ∨ (∃ q, H b = some (.ext q)) ∨ H b = none := fun b hb => by
  rcases List.mem_cons.mp hb with rfl | hb
  · exact .inr (.inl e1)
  · rw [List.mem_singleton] at hb
    subst hb
    exact .inr (.inl e2)
section
variable {P : Program} {w : World} {K : PySem.W.Frag} {mg : Str → Option Value} {base : Heap}
abbrev s_lost_next : Stmt := top 34
abbrev N_lost_next : List Str := ["newest", "sources", "hopes", "spoilt", "lost", "after", "spot"]
theorem sc_lost_next : FnScope N_lost_next ["newest", "sources", "hopes", "spoilt"] (C8.fnScope s_lost_next) := C8.fnScope_by (by decide +kernel)
def sp_lost_next (K : PySem.W.Frag) (w : World) : Sp := fun vs H Q _ => ∃ (n s h p : Addr) (ps ks : List Pl) (ls : Pl → Addr) (ev : List Ev) (hop : Pl → Int) (spo U : List Spot), vs = [.ref n, .ref s, .ref h, .ref p] ∧
  RowsPl K H n ps ∧ (∀ q ∈ ps, q ∈ ks) ∧ DF K w pk H s ks (fun k => .ref (ls k)) ∧ (∀ k ∈ ks, SpotsAt K H (ls k) (evAt ev k)) ∧ DF K w pk H h ks (fun k => .int (hop k)) ∧ DF K w spk H p spo (fun _ => .bl true) ∧ h ≠ p ∧ s ≠ h ∧ s ≠ p ∧
  (∀ e ∈ ev, e.2.1 ∈ ks ∧ e.2 ∈ U) ∧ spo.Nodup ∧ (∀ x ∈ spo, x ∈ U) ∧ U.length ≤ 5000 ∧ ks.length ≤ 5000 ∧
  ∀ (l : Addr) H', LN K w H h p l ks H' (lostF ⟨hop, spo, []⟩ (ps.flatMap (evAt ev))) → H l = none → Q (.ref l) H'
theorem ok_lost_next {f : Addr} {fd : FuncData} (F : C8.Def K mg "lost_next" s_lost_next f fd) (b : Binds K fd ["newest", "sources", "hopes", "spoilt"] []) (T : Gb mg) : C8.Cal P w K mg base 1 "lost_next" (sp_lost_next K w) [] := by
  refine C8.cal0 F b .nil sc_lost_next (fun vs H Q E h => ?_) (fun cdv A outer s H vs Q E hr h => ?_)
  · obtain ⟨n, s, h, p, _, _, _, _, _, _, _, rfl, _⟩ := h
    rfl
  · obtain ⟨n, s, h, p, ps, ks, ls, ev, hop, spo, U, rfl, hn, hps, ds, hls, dh, dp, nhp, nsh, nsp, hev, hnd, hU, hUl, hkl, q⟩ := h
    refine ⟨_, (pss_cons (ps_set (i := 4) sc_lost_next.nd rfl (Or.inl rfl) (pe_lst pa_nil))
(pss_cons (ps_for PassesOwn.never rfl (pi_listK K rfl (pv 0)) (pg_name (i := 5) sc_lost_next.nd rfl (Or.inl rfl))
(pss_one (ps_for PassesOwn.never rfl (pi_listK K rfl (pe_ix (ix_dNK (K := K) (w := w) rfl rfl (Nat.lt_of_le_of_lt (Nat.add_le_add_left (by decide) _) hr.un)) (pv 1) (pv 5) (fun _ _ => rfl))) (pg_name (i := 6) sc_lost_next.nd rfl (Or.inl rfl))
(pss_one (ps_if (pt_cmpR (op_notInNK (K := K) (w := w) rfl rfl (Nat.lt_of_le_of_lt (Nat.add_le_add_left (by decide) _) hr.un)) (pv 6) (pv 3) rfl)
(pss_cons (ps_asg pe_bl (pg_sub (pv 3) (pv 6) (set_NK (K := K) (w := w) rfl rfl (Nat.lt_of_le_of_lt (Nat.add_le_add_left (by decide) _) hr.un))))
(pss_cons (ps_augN (K := K) (w := w) rfl rfl (Nat.lt_of_le_of_lt (Nat.add_le_add_left (by decide) _) hr.un) (pv 2) (pe_ix (ix_tupK K rfl) (pv 6) pe_int (fun _ _ => rfl)) pe_int ip_sub)
(pss_one (ps_if (pt_cmpR op_eq (pe_ix (ix_dNK (K := K) (w := w) rfl rfl (Nat.lt_of_le_of_lt (Nat.add_le_add_left (by decide) _) hr.un)) (pv 2) (pe_ix (ix_tupK K rfl) (pv 6) pe_int (fun _ _ => rfl)) (fun _ _ => rfl)) pe_int (nomark _))
(pss_one (ps_expr (pe_bm PySem.F.plainAttrs_list PySem.F.slot_list_append PySem.F.type_list_append mt_append (pv 4) (pa_cons (pe_ix (ix_tupK K rfl) (pv 6) pe_int (fun _ _ => rfl)) pa_nil))))
pss_nil))))
pss_nil)))))
(pss_one (ps_ret (pv 4))))), ?_⟩
    refine ⟨by show 0 ≤ sizeLine; decide, fun l hl => ?_⟩
    obtain ⟨nvs, hnv, hnp⟩ := hn
    have ob1 := dh.obj
    have ob2 := dp.obj
    have nlh : l ≠ h := fun z => by obtain ⟨x, e⟩ := ob1; rw [← z, hl] at e; cases e
    have nlp : l ≠ p := fun z => by obtain ⟨x, e⟩ := ob2; rw [← z, hl] at e; cases e
    have L0 : LN K w H h p l ks (upd H l (.lst [])) ⟨hop, spo, []⟩ := ⟨⟨fun a o _ e => same_new (Same.refl H) hl a o e, but_two ob1 ob2⟩, dh.same (same_new (Same.refl H) hl), dp.same (same_new (Same.refl H) hl), ⟨[], upd_same, .nil⟩⟩
    have nn : n ∉ [h, p] := fun z => by
      rcases List.mem_cons.mp z with z | z
      · obtain ⟨x, e⟩ := ob1; rw [← z, hnv] at e; cases e
      · rw [List.mem_singleton] at z; obtain ⟨x, e⟩ := ob2; rw [← z, hnv] at e; cases e
    have ns : s ∉ [h, p] := fun z => by
      rcases List.mem_cons.mp z with z | z
      · exact nsh z
      · rw [List.mem_singleton] at z; exact nsp z
    have lnp := hnp.length
    -- bounds
    have small : ∀ ss, (∀ x ∈ ss, x ∈ U) → (lostF ⟨hop, spo, []⟩ ss).spo.length ≤ 5000 ∧ (lostF ⟨hop, spo, []⟩ ss).lost.length ≤ 5000 := fun ss hss => by
      have h1 := nodup_len (l := (lostF ⟨hop, spo, []⟩ ss).spo) (m := U) (lostF_nd ss hnd) fun x hx => ((lostF_spo ss _ x).mp hx).elim (hU x) (hss x)
      have h2 := lostF_len ss ⟨hop, spo, []⟩
      have h3 : (⟨hop, spo, []⟩ : LS).lost.length = 0 := rfl
      omega
    have inU : ∀ k, ∀ x ∈ evAt ev k, x ∈ U := fun k x hx => (hev _ (mem_evAt.mp hx)).2
    refine ⟨_, rfl, n, rfl, ⟨_, SqL.of (L0.but.same _ _ nn hnv)⟩, for_it (walk_list (xs := nvs)) (fun i σ H' => LN K w H h p l ks H' (lostF ⟨hop, spo, []⟩ ((ps.take i).flatMap (evAt ev))) ∧ ∃ v5 v6, σ = [some (.ref n), some (.ref s), some (.ref h), some (.ref p), some (.ref l), v5, v6])
      ⟨L0, _, _, rfl⟩ (fun i σ H' _ h => SqL.of (h.1.but.same _ _ nn hnv)) ?_ ?_⟩
    · rintro i x σ H1 H1' hi ⟨L1, v5, v6, rfl⟩ ⟨rfl, hx⟩
      obtain ⟨q', hq', hxv⟩ := paired_at hnp hx
      have hqk := hps q' (List.mem_of_getElem? hq')
      obtain ⟨xa, xxs, rfl, hxa, hxp⟩ := id (PlV.tups L1.but.tups hxv)
      have ds1 : DF K w pk H1' s ks (fun k => .ref (ls k)) := by
        obtain ⟨kvs, e1, e2, e3, e4⟩ := ds
        exact ⟨kvs, L1.but.same _ _ ns e1, e2.tups L1.but.tups, e3, e4⟩
      obtain ⟨svs, hsv, hsp⟩ := hls q' hqk
      have nls : ls q' ∉ [h, p] := fun z => by
        rcases List.mem_cons.mp z with z | z
        · obtain ⟨x, e⟩ := ob1; rw [← z, hsv] at e; cases e
        · rw [List.mem_singleton] at z; obtain ⟨x, e⟩ := ob2; rw [← z, hsv] at e; cases e
      have lsp := hsp.length
      refine ⟨_, rfl, _, rfl, ds1.get hqk (plV_key ⟨xa, xxs, rfl, hxa, hxp⟩) (pk_depth _) ⟨_, rfl, ⟨_, SqL.of (L1.but.same _ _ nls hsv)⟩, for_it (walk_list (xs := svs)) (fun j σ H' => LN K w H h p l ks H' (lostF ⟨hop, spo, []⟩ ((ps.take i).flatMap (evAt ev) ++ (evAt ev q').take j)) ∧ ∃ v6, σ = [some (.ref n), some (.ref s), some (.ref h), some (.ref p), some (.ref l), some (.ref xa), v6])
        ⟨by rw [List.take_zero, List.append_nil]; exact L1, _, rfl⟩ (fun j σ H' _ h => SqL.of (h.1.but.same _ _ nls hsv)) ?_ ?_⟩⟩
      · rintro j y σ H2 H2' hj ⟨M2, v6', rfl⟩ ⟨rfl, hy⟩
        obtain ⟨sp, hsp', hyv⟩ := paired_at hsp hy
        have hspU := inU q' sp (List.mem_of_getElem? hsp')
        have hspk := (hev _ (mem_evAt.mp (List.mem_of_getElem? hsp'))).1
        have hss : ∀ x ∈ (ps.take i).flatMap (evAt ev) ++ (evAt ev q').take j, x ∈ U := fun x hx => by
          rcases List.mem_append.mp hx with hx | hx
          · obtain ⟨k, _, hx⟩ := List.mem_flatMap.mp hx
            exact inU k x hx
          · exact inU q' x (List.mem_of_mem_take hx)
        have sm := small _ hss
        rw [take_snoc hsp', ← List.append_assoc, lostF_snoc]
        generalize lostF ⟨hop, spo, []⟩ ((ps.take i).flatMap (evAt ev) ++ (evAt ev q').take j) = st at M2 sm ⊢
        have hyv2 := hyv.tups M2.but.tups
        obtain ⟨ya, yv, rfl, hya, hyp⟩ := id hyv2
        by_cases hin : sp ∈ st.spo
        · refine ⟨_, rfl, _, rfl, M2.dp.notF spk_inj hyv2.key (spk_depth _) hin ⟨_, rfl, ?_⟩⟩
          refine iteF ?_
          have e : lostS st sp = st := if_pos hin
          rw [e]
          exact ⟨M2, _, rfl⟩
        · refine ⟨_, rfl, _, rfl, M2.dp.notT spk_inj hyv2.key (spk_depth _) hin ⟨_, rfl, ?_⟩⟩
          refine iteT ?_
          have e : lostS st sp = ⟨setI st.hop sp.1 (st.hop sp.1 - 1), st.spo ++ [sp], if st.hop sp.1 - 1 = 0 then st.lost ++ [sp.1] else st.lost⟩ := if_neg hin
          rw [e]
          refine ⟨_, rfl, _, rfl, M2.dp.put spk_inj hyv2.key (spk_depth _) (by omega) fun o dp3 t3 => ?_⟩
          rw [addK_new hin] at dp3
          have dp3 := dp3.ext (g := fun _ => V.bl true) fun k _ => by unfold setF; split <;> rfl
          have b3 : But [h, p] H (upd H2' p o) := M2.but.trans (But.upd (but_two M2.dh.obj M2.dp.obj) (List.mem_cons_of_mem _ List.mem_cons_self))
          have dh3 := M2.dh.keep t3 (upd_ne (o := o) nhp)
          have lo3 := M2.lo.keep t3 (upd_ne (o := o) nlp)
          have hy3 := t3 _ _ hya
          have hyp3 := hyp.tups t3
          generalize upd H2' p o = H3 at dp3 b3 dh3 lo3 hy3 hyp3 ⊢
          obtain ⟨za, zxs, rfl, hza, hzp⟩ := id hyp3
          refine ⟨_, rfl, _, rfl, ya, _, 0, .ref za, rfl, rfl, hy3, rfl, ?_⟩
          obtain ⟨kvs, k1, k2, k3, k4, k5⟩ := dh3.step pk_inj'
          have b4 : But [h, p] H3 (upd H3 h (DnO w h (putN kvs (pk sp.1) za (.int (st.hop sp.1 - 1))))) := But.upd (but_two ⟨_, k1⟩ dp3.obj) List.mem_cons_self
          have dh4 := k5 sp.1 za (.int (st.hop sp.1 - 1)) (plV_key hyp3)
          rw [addK_in hspk] at dh4
          have t4 := b4.tups (K := K)
          have dp4 := dp3.keep t4 (upd_ne (o := DnO w h (putN kvs (pk sp.1) za (.int (st.hop sp.1 - 1)))) (Ne.symm nhp))
          have lo4 := lo3.keep t4 (upd_ne (o := DnO w h (putN kvs (pk sp.1) za (.int (st.hop sp.1 - 1)))) nlh)
          have hy4 := t4 _ _ hy3
          have hyp4 := hyp3.tups t4
          have dh4 := dh4.ext (g := fun k => V.int (setI st.hop sp.1 (st.hop sp.1 - 1) k)) fun k _ => by unfold setF setI; split <;> rfl
          refine ⟨h, za, kvs, pk sp.1, .int (st.hop sp.1), rfl, rfl, k1, k2, plV_key hyp3, pk_depth _, k4 _ hspk, ?_⟩
          refine ⟨_, _, rfl, rfl, rfl, size_lt (by omega), ?_⟩
          have b4' := b3.trans b4
          show (_ : Prop)
          generalize upd H3 h (DnO w h (putN kvs (pk sp.1) za (.int (st.hop sp.1 - 1)))) = H4 at b4' dh4 dp4 lo4 hy4 hyp4 ⊢
          have hset : setI st.hop sp.1 (st.hop sp.1 - 1) sp.1 = st.hop sp.1 - 1 := if_pos rfl
          refine ⟨_, rfl, _, rfl, ya, _, 0, .ref za, rfl, rfl, hy4, rfl, dh4.get hspk (plV_key hyp4) (pk_depth _) ⟨rfl, _, rfl, ?_⟩⟩
          rw [hset, dec_int]
          by_cases hz : st.hop sp.1 - 1 = 0
          · refine ifT hz ?_
            rw [if_pos hz]
            obtain ⟨lvs, hlv, hlp⟩ := lo4
            have llv := hlp.length
            refine ⟨_, rfl, .inl ⟨rfl, _, SqL.of hlv⟩, _, rfl, ya, _, 0, .ref za, rfl, rfl, hy4, rfl, l, lvs, _, rfl, rfl, hlv, size_lt (by omega), ?_⟩
            have t5 : Tup K H4 (upd H4 l (.lst (lvs ++ [.ref za]))) := tup_lst hlv
            have nl5 : l ∉ [h, p] := fun z => by
              rcases List.mem_cons.mp z with z | z
              · exact nlh z
              · rw [List.mem_singleton] at z; exact nlp z
            refine ⟨⟨⟨fun a o' ha e => ?_, b4'.kind⟩, dh4.keep t5 (upd_ne (Ne.symm nlh)), dp4.keep t5 (upd_ne (Ne.symm nlp)), ⟨_, upd_same, Paired.snoc (L2.Paired.mapP hlp fun _ _ => PlV.tups t5) (hyp4.tups t5)⟩⟩, _, rfl⟩
            rw [upd_ne (ne_of_none' e hl)]
            exact b4'.same a o' ha e
          · refine ifF hz ?_
            rw [if_neg hz]
            exact ⟨⟨b4', dh4, dp4, lo4⟩, _, rfl⟩
      · rintro σ H2 ⟨M2, v6', rfl⟩
        rw [lsp, List.take_length] at M2
        refine ⟨?_, _, _, rfl⟩
        rw [take_snoc hq', List.flatMap_append, List.flatMap_cons, List.flatMap_nil, List.append_nil]
        exact M2
    · rintro σ H1 ⟨L1, v5, v6, rfl⟩
      rw [lnp, List.take_length] at L1
      exact ⟨_, rfl, q l H1 L1 hl⟩
end
end My
namespace My
open PySem L2
/-! ### ranks_in -/
section
variable {X : Cx} {K : PySem.W.Frag}
theorem pg_tupN {es : List Expr} {k n : Nat} {t : TGs} {pos : Pos} (hK : X.K = K) (hc : X.calm = true) (h : PGs X es t) (hn : (assignEach es X.env).length = n) (hst : (assignEach es X.env).findIdx? (·.1) = none := by rfl) : PG X (.Tuple es k pos) (gTup K n t) := by
  subst hK
  subst hn
  exact pg_tup hc h rfl hst
end
theorem dc_itN {J : It} {n : Nat} {G : Hp → Prop} {Y : Nat → Hp → V → Hp → Prop} (wk : Walk J n G Y) {K : PySem.W.Frag} {w : World} {g : TG} {tt : TT} {tk tv : TE} {vs : List Nat} {σ : L2.St} {H1 : Hp} {D : Addr} {Qd : Hp → Prop} (Pv : Nat → Hp → Prop) (h0 : Pv 0 (upd H1 D (DnO w D []))) (hG : ∀ i H, i ≤ n → Pv i H → G H)
    (hs : ∀ i x H H', i < n → Pv i H → Y i H x H' → g x (wipe σ vs) H' fun σ2 H2 => wipe σ2 vs = wipe σ vs ∧ tt σ2 H2 fun b H3 =>
      if b = true then tk σ2 H3 fun y H4 => tv σ2 H4 fun z H5 => ∃ kvs k a, y = .ref a ∧ H5 D = some (DnO w D kvs) ∧ KeysOk K H5 kvs ∧ KeyV K H5 k y ∧ k.depth ≤ 8 ∧ kvs.length < sizeLine ∧ Pv (i + 1) (upd H5 D (DnO w D (putN kvs k a z))) else Pv (i + 1) H3) (hd : ∀ H, Pv n H → Qd H) :
    ∃ W : Nat → Nat → Hp → Prop, (∃ m, W 0 m (upd H1 D (DnO w D []))) ∧ ∀ i m H, W i m H →
  (J.stop i H ∧ Qd H) ∨ (J.go i H ∧ ∃ Nx : Hp → Prop, (∀ H', Nx H' → ∃ m', m' < m ∧ W (i + 1) m' H') ∧ ∀ x H', J.yld i H x H' → g x (wipe σ vs) H' fun σ2 H2 => wipe σ2 vs = wipe σ vs ∧ tt σ2 H2 fun b H3 =>
    if b = true then tk σ2 H3 fun y H4 => tv σ2 H4 fun z H5 => ∃ kvs k a, y = .ref a ∧ H5 D = some (DnO w D kvs) ∧ KeysOk K H5 kvs ∧ KeyV K H5 k y ∧ k.depth ≤ 8 ∧ kvs.length < sizeLine ∧ Nx (upd H5 D (DnO w D (putN kvs k a z))) else Nx H3) := by
  refine ⟨fun i m H => m = n - i ∧ i ≤ n ∧ Pv i H, ⟨n, rfl, Nat.zero_le _, h0⟩, ?_⟩
  rintro i m H ⟨rfl, hi, p⟩
  have q := hG i H hi p
  by_cases hlt : i < n
  · exact .inr ⟨wk.goes i H hlt q, Pv (i + 1), fun H' p' => ⟨n - (i + 1), by omega, rfl, hlt, p'⟩, fun x H' y => hs i x H H' hlt p (wk.yields i H x H' hlt q y)⟩
  · have e : i = n := by omega
    subst e
    exact .inl ⟨wk.stops H q, hd H p⟩
theorem tup_frz {K : PySem.W.Frag} {H : Hp} {d : Addr} {o : Obj} {w : World} {kvs : NKs} {u : HO} (hd : H d = some (.frz o (DnO w d kvs))) : Tup K H (upd H d u) := fun a xs h => by
  by_cases z : a = d
  · subst z
    rcases h with (h | ⟨o, h⟩) | h
    · rw [hd] at h; cases h
    · rw [hd] at h; cases h
    · exact .inr h
  · rcases h with (h | ⟨o, h⟩) | h
    · exact .inl (.inl ((upd_ne z).trans h))
    · exact .inl (.inr ⟨o, (upd_ne z).trans h⟩)
    · exact .inr h
theorem cntL_nil (bs : List Bd) (p : Pl) : cntL bs p [] = (List.range (rowF bs p).length).filter (isFree bs p) := by
  unfold cntL
  refine List.filter_congr fun n _ => ?_
  have : decide ((p, n) ∈ ([] : List Spot)) = false := decide_eq_false fun z => nomatch z
  rw [this]
  simp
theorem but_same {H H' H'' : Hp} {X : List Addr} (s : Same H H') (t : But X H' H'') (n : ∀ a ∈ X, H a = none) : Same H H'' := fun b o e => t.same b o (fun z => by rw [n b z] at e; cases e) (s b o e)
theorem DF.but {α : Type} {K : PySem.W.Frag} {w : World} {key : α → NK} {H H' : Hp} {d : Addr} {ks : List α} {f : α → V} {X : List Addr} (t : But X H H') (n : d ∉ X) (h : DF K w key H d ks f) : DF K w key H' d ks f := let ⟨kvs, h1, h2, h3, h4⟩ := h; ⟨kvs, t.same _ _ n h1, h2.tups t.tups, h3, h4⟩
theorem SpotsAt.but {K : PySem.W.Frag} {H H' : Hp} {a : Addr} {ss : List Spot} {X : List Addr} (t : But X H H') (n : a ∉ X) (h : SpotsAt K H a ss) : SpotsAt K H' a ss := let ⟨vs, q, r⟩ := h; ⟨vs, t.same _ _ n q, L2.Paired.mapP r fun _ _ => SpotV.tups t.tups⟩
structure RWl (K : PySem.W.Frag) (w : World) (H0 : Hp) (r h p : Addr) (ks : List Pl) (H' : Hp) (S N : List Pl) (rk : Pl → Nat) (hop : Pl → Int) (spo : List Spot) (na : Addr) : Prop where
  but : But [r, h, p] H0 H'
  dr : DF K w pk H' r S (fun k => nV (rk k))
  dh : DF K w pk H' h ks (fun k => .int (hop k))
  dp : DF K w spk H' p spo (fun _ => .bl true)
  nw : RowsPl K H' na N
theorem but_three {H : Hp} {r h p : Addr} (e0 : ∃ q, H r = some (.ext q)) (e1 : ∃ q, H h = some (.ext q)) (e2 : ∃ q, H p = some (.ext q)) : ∀ b ∈ [r, h, p], (∃ xs, H b = some (.lst xs)) ∨ (∃ q, H b = some (.ext q)) ∨ H b = none := fun b hb => by
  rcases List.mem_cons.mp hb with rfl | hb
  · exact .inr (.inl e0)
  · exact but_two e1 e2 b hb
theorem not_ext {H : Hp} {a b : Addr} {xs : List V} (e : H a = some (.lst xs)) (e2 : ∃ q, H b = some (.ext q)) : a ≠ b := fun z => by
  obtain ⟨q, e2⟩ := e2
  rw [← z, e] at e2
  cases e2
theorem not_none {H : Hp} {a b : Addr} (e : ∃ q, H a = some (.ext q)) (e2 : H b = none) : a ≠ b := fun z => by
  obtain ⟨q, e⟩ := e
  rw [z, e2] at e
  cases e
section
variable {P : Program} {w : World} {K : PySem.W.Frag} {mg : Str → Option Value} {base : Heap}
abbrev s_ranks_in : Stmt := top 35
abbrev N_ranks_in : List Str := ["table", "sources", "place", "hopes", "newest", "ranks", "spoilt", "rank", "risky", "following", "row"]
theorem sc_ranks_in : FnScope N_ranks_in ["table"] (C8.fnScope s_ranks_in) := C8.fnScope_by (by decide +kernel)
def sp_ranks_in (K : PySem.W.Frag) (w : World) : Sp := fun vs H Q _ => ∃ (d : Addr) (bs : List Bd) (kvs : NKs) (ks : List Pl), vs = [.ref d] ∧ H d = some (DnO w d kvs) ∧ Tab K H [d] bs kvs ks ∧ BdsOk bs ∧ Closed bs ks ∧
  ∀ r R rk H', Same H H' → H r = none → DF K w pk H' r R (fun k => nV (rk k)) → RankOk bs ks R rk → Q (.ref r) H'
theorem ok_ranks_in {f : Addr} {fd : FuncData} (F : C8.Def K mg "ranks_in" s_ranks_in f fd) (b : Binds K fd ["table"] []) (T : Gb mg) (c_sources_in : C8.Cal P w K mg base 1 "sources_in" (sp_sources_in K w) []) (c_lost_next : C8.Cal P w K mg base 1 "lost_next" (sp_lost_next K w) []) : C8.Cal P w K mg base 2 "ranks_in" (sp_ranks_in K w) [] := by
  refine C8.cal0 F b .nil sc_ranks_in (fun vs H Q E h => ?_) (fun cdv A outer s H vs Q E hr h => ?_)
  · obtain ⟨d, bs, kvs, ks, rfl, _⟩ := h
    rfl
  · obtain ⟨d, bs, kvs, ks, rfl, hd, tab, hok, hcl, q⟩ := h
    refine ⟨_, (pss_cons (ps_set (i := 1) sc_ranks_in.nd rfl (Or.inl rfl) (C8.pe_c c_sources_in hr (by decide) (by rfl) (pa_cons (pv 0) pa_nil)))
(pss_cons (ps_lock (ps_set (i := 3) sc_ranks_in.nd rfl (Or.inr rfl) (pe_dcN (own := [("place", 2), ("row", 10)]) (K := K) (w := w) rfl rfl (Nat.lt_of_le_of_lt (Nat.add_le_add_left (by decide) _) hr.un) rfl sc_ranks_in.nd (pi_itemsN (w := w) rfl (pv 0)) (blkOk_by (N := N_ranks_in) (sc := C8.fnScope s_ranks_in) (by decide +kernel)) (fun _ _ _ _ _ => (pg_tupN (n := 2) rfl rfl (pgs_cons (pg_name (i := 2) sc_ranks_in.nd rfl (Or.inl rfl)) (pgs_cons (pg_name (i := 10) sc_ranks_in.nd rfl (Or.inl rfl)) pgs_nil)) rfl)) (fun _ _ _ _ _ => pts_nil) (fun _ _ _ _ _ => (pv 2)) (fun _ _ _ _ _ => (pe_callB (call_lenK K rfl) (by rfl) T.len PySem.boot_len (pa_cons (pe_lc (own := [("risky", 8), ("following", 9)]) rfl sc_ranks_in.nd (pi_listK K rfl (pv 10)) (blkOk_by (N := N_ranks_in) (sc := { kind := .function, names := [(Str.ofString ".0", .local), (Str.ofString "place", .local), (Str.ofString "row", .local), (Str.ofString "len", .globalImplicit)], isGenerator := false, isCoroutine := false }) (by decide +kernel)) (fun _ _ _ _ _ => (pg_tupN (n := 2) rfl rfl (pgs_cons (pg_name (i := 8) sc_ranks_in.nd rfl (Or.inl rfl)) (pgs_cons (pg_name (i := 9) sc_ranks_in.nd rfl (Or.inl rfl)) pgs_nil)) rfl)) (fun _ _ _ _ _ => (pts_one (pt_not (pt_val (pv 8))))) (fun _ _ _ _ _ => (pv 8))) pa_nil))))))
(pss_cons (ps_lock (ps_setLc (i := 4) (own := [("place", 2)]) rfl sc_ranks_in.nd rfl rfl (sw_true rfl rfl rfl (by decide +kernel)) (pi_keysN (w := w) rfl (pv 0)) (blkOk_by (N := N_ranks_in) (sc := C8.fnScope s_ranks_in) (by decide +kernel)) (fun _ _ _ _ _ => (pg_name (i := 2) sc_ranks_in.nd rfl (Or.inl rfl))) (fun _ _ _ _ _ => (pts_one (pt_cmpR op_eq (pe_ix (ix_dNK (K := K) (w := w) rfl rfl (Nat.lt_of_le_of_lt (Nat.add_le_add_left (by decide) _) hr.un)) (pv 3) (pv 2) (fun _ _ => rfl)) pe_int (nomark _)))) (fun _ _ _ _ _ => (pv 2))))
(pss_cons (ps_set (i := 5) sc_ranks_in.nd rfl (Or.inl rfl) (pe_newNK (w := w) rfl))
(pss_cons (ps_set (i := 6) sc_ranks_in.nd rfl (Or.inl rfl) (pe_newNK (w := w) rfl))
(pss_cons (ps_set (i := 7) sc_ranks_in.nd rfl (Or.inl rfl) pe_int)
(pss_cons (ps_while PassesOwn.never (pt_truth (pv 4) (by intro _; rfl))
(pss_cons (ps_aug (i := 7) sc_ranks_in.nd rfl (.inl rfl) pe_int ip_add)
(pss_cons (ps_for PassesOwn.never rfl (pi_listK K rfl (pv 4)) (pg_name (i := 2) sc_ranks_in.nd rfl (Or.inl rfl))
(pss_one (ps_asg (pv 7) (pg_sub (pv 5) (pv 2) (set_NK (K := K) (w := w) rfl rfl (Nat.lt_of_le_of_lt (Nat.add_le_add_left (by decide) _) hr.un))))))
(pss_one (ps_set (i := 4) sc_ranks_in.nd rfl (Or.inl rfl) (C8.pe_c c_lost_next hr (by decide) (by rfl) (pa_cons (pv 4) (pa_cons (pv 1) (pa_cons (pv 3) (pa_cons (pv 6) pa_nil))))))))))
(pss_one (ps_ret (pv 5)))))))))), ?_⟩
    have hfew := few hok tab.nd tab.ok
    have lkv : kvs.length = ks.length := by
      have := congrArg List.length tab.keys
      rw [List.length_map, List.length_map] at this
      exact this
    refine ⟨_, rfl, d, bs, kvs, ks, rfl, hd, tab, hok, hcl, fun sa ls H1 S => ?_⟩
    have hd1 := S.same _ _ hd
    -- hopes
    refine ⟨d, _, hd1, trivial, fun od => ?_⟩
    obtain ⟨HL, eL⟩ : ∃ HL, HL = upd H1 d (.frz od (DnO w d kvs)) := ⟨_, rfl⟩
    have hdL : HL d = some (.frz od (DnO w d kvs)) := by rw [eL]; exact upd_same
    have tabL : Tab K HL [d] bs kvs ks := by rw [eL]; exact (but_ext hd1).tab (tab.mono S.same)
    rw [← eL]
    refine ⟨_, rfl, d, od, kvs, rfl, hdL, fun h hh => dc_itN walk_itemsN (fun i H' => Same HL H' ∧ DF K w pk H' h (ks.take i) (fun k => .int ((cntL bs k []).length : Nat)))
      ⟨same_new (Same.refl _) hh, DF.nil _⟩ (fun i H' _ h => h.1 _ _ hdL) ?_ ?_⟩
    · rintro i x H2 H2' hi ⟨s2, df2⟩ ⟨T1, x1, x2, rfl, hT, rfl, g1, g2⟩
      obtain ⟨⟨nk, na, nv⟩, hkv, rfl⟩ := Option.map_eq_some_iff.mp g1
      have g2 : (kvs[i]?.map fun kv => kv.2.2) = some x2 := g2
      rw [hkv] at g2
      obtain rfl : nv = x2 := Option.some.inj g2
      have hk5 : (ks.map pk)[i]? = some nk := by rw [← tab.keys, List.getElem?_map, hkv]; rfl
      obtain ⟨p, hp, rfl⟩ := at_map hk5
      obtain ⟨ra, rvs, rfl, hra, hrp, hran⟩ := tabL.rows _ (List.mem_of_getElem? hkv) p rfl
      have hpv : KeyV K HL (pk p) (.ref na) := tabL.kok _ (List.mem_of_getElem? hkv)
      have s3 := same_new (o := .tup [.ref na, .ref ra]) (Same.refl H2) hT
      have hT3 : upd H2 T1 (.tup [.ref na, .ref ra]) T1 = some (.tup [.ref na, .ref ra]) := upd_same
      refine ⟨T1, _, rfl, .inl (.inl hT3), rfl, _, _, rfl, _, _, rfl, rfl, ?_⟩
      have df3 := df2.same s3
      have s3 := s2.trans s3
      generalize upd H2 T1 (.tup [.ref na, .ref ra]) = H3 at s3 df3 ⊢
      refine ⟨rfl, yes_go ?_⟩
      refine ⟨_, rfl, ?_⟩
      have lr := hrp.length
      refine ⟨_, rfl, ra, rfl, ⟨_, SqL.of (s3 _ _ hra)⟩, fun D hD => lc_it (walk_list (xs := rvs)) (fun j H' => Same H3 H' ∧ ∃ acc, H' D = some (.lst acc) ∧ acc.length = ((List.range j).filter (isFree bs p)).length)
        ⟨same_new (Same.refl _) hD, [], upd_same, rfl⟩ (fun j H' _ h => SqL.of (h.1 _ _ (s3 _ _ hra))) ?_ ?_⟩
      · rintro j y H4 H4' hj ⟨s4, acc, ha, hal⟩ ⟨rfl, hy⟩
        obtain ⟨⟨rb, rl⟩, hr4, ⟨la, l, rfl, hla, hlp, hln⟩⟩ := paired_at hrp hy
        refine ⟨la, _, rfl, (s3.trans s4).tup hla, rfl, _, _, rfl, _, _, rfl, rfl, rfl, ?_⟩
        have hfr : isFree bs p j = !rb := by unfold isFree; rw [hr4]
        rw [filter_snoc, hfr]
        refine ⟨_, rfl, rb, rfl, ?_⟩
        cases rb with
        | true =>
          refine ⟨s4, acc, ha, ?_⟩
          show acc.length = (_ ++ []).length
          rw [List.append_nil]
          exact hal
        | false =>
          have lf := List.length_filter_le (isFree bs p) (List.range j)
          rw [List.length_range] at lf
          have hlen : (rowF bs p).length = (ableI p).length := List.length_map _
          have hal3 := able_len p
          have hpl := okPl_len (tab.ok p (List.mem_of_getElem? hp))
          have hn2 := hok.n2
          refine ⟨_, rfl, acc, ha, size_lt (by omega), same_mut s4 hD, _, upd_same, ?_⟩
          show (acc ++ [_]).length = (_ ++ [j]).length
          rw [List.length_append, List.length_append, hal]
          rfl
      · rintro H4 ⟨s4, acc, ha, hal⟩
        refine ⟨D, acc, rfl, .inl (SqL.of ha), ?_⟩
        rw [lr, ← cntL_nil] at hal
        rw [hal]
        have s5 := s3.trans s4
        obtain ⟨kvs', k1, k2, k3, k4, k5⟩ := (df3.same s4).step pk_inj'
        have hpn : p ∉ ks.take i := nodup_take tab.nd hp
        have lt6 := List.length_take_le i ks
        refine ⟨kvs', pk p, na, rfl, k1, k2, s5.key hpv, pk_depth _, size_lt (by omega), same_mut s5 hh, ?_⟩
        have k6 := k5 p na (.int ((cntL bs p []).length : Nat)) (s5.key hpv)
        rw [addK_new hpn] at k6
        rw [take_snoc hp]
        refine k6.ext fun k hk => ?_
        unfold setF
        by_cases e : k = p
        · rw [if_pos e, e]
        · rw [if_neg e]
    · rintro H2 ⟨s2, df2⟩
      rw [lkv, List.take_length] at df2
      have hd2 := s2 _ _ hdL
      refine ⟨hd2, ?_⟩
      have nhd : h ≠ d := fun z => by rw [z, hdL] at hh; cases hh
      have sm2 : Same H1 (upd H2 d (DnO w d kvs)) := lock_same hd1 (eL ▸ s2)
      have df2 := df2.keep (tup_frz hd2) (upd_ne (o := DnO w d kvs) nhd)
      have hh1 : H1 h = none := by rw [eL, upd_ne nhd] at hh; exact hh
      have S2 := S.more sm2
      have hhH : H h = none := S.same.free hh1
      have nsh : sa ≠ h := not_none S.df.obj hh1
      generalize upd H2 d (DnO w d kvs) = H3 at sm2 df2 S2 ⊢
      clear hh hd2 s2 hdL tabL eL hd1 hh1 S
      have hd3 := S2.same _ _ hd
      -- newest
      refine ⟨d, _, hd3, trivial, fun od2 => ?_⟩
      obtain ⟨HM, eM⟩ : ∃ HM, HM = upd H3 d (.frz od2 (DnO w d kvs)) := ⟨_, rfl⟩
      have hdM : HM d = some (.frz od2 (DnO w d kvs)) := by rw [eM]; exact upd_same
      have tabM : Tab K HM [d] bs kvs ks := by rw [eM]; exact (but_ext hd3).tab (tab.mono S2.same)
      have dfM : DF K w pk HM h ks (fun k => .int ((cntL bs k []).length : Nat)) := by rw [eM]; exact df2.keep (tup_ext hd3) (upd_ne nhd)
      rw [← eM]
      refine ⟨_, rfl, d, od2, kvs, rfl, hdM, fun na hna => lc_it walk_keysN (fun i H' => Same HM H' ∧ RowsPl K H' na ((ks.take i).filter fun p => decide ((((cntL bs p []).length : Nat) : Int) = 0)))
        ⟨same_new (Same.refl _) hna, [], upd_same, .nil⟩ (fun i H' _ h => h.1 _ _ hdM) ?_ ?_⟩
      · rintro i x H4 H4' hi ⟨s4, rw4⟩ ⟨rfl, nk, a, nv, hkv, rfl⟩
        have hk5 : (ks.map pk)[i]? = some nk := by rw [← tab.keys, List.getElem?_map, hkv]; rfl
        obtain ⟨p, hp, rfl⟩ := at_map hk5
        have hpv := s4.key (tabM.kok _ (List.mem_of_getElem? hkv))
        have hpv : KeyV K H4' (pk p) (.ref a) := hpv
        have hpk := List.mem_of_getElem? hp
        refine ⟨rfl, _, rfl, _, rfl, (dfM.same s4).get hpk hpv (pk_depth _) ⟨rfl, _, rfl, ?_⟩⟩
        rw [dec_int, take_snoc hp, List.filter_append]
        obtain ⟨nvs, hnv, hnp⟩ := rw4
        have ln := hnp.length
        have lf := List.length_filter_le (fun p => decide ((((cntL bs p []).length : Nat) : Int) = 0)) (ks.take i)
        have lt := List.length_take_le i ks
        by_cases hz : (((cntL bs p []).length : Nat) : Int) = 0
        · have e1 : ([p].filter fun p => decide ((((cntL bs p []).length : Nat) : Int) = 0)) = [p] := List.filter_cons_of_pos (decide_eq_true hz)
          rw [e1]
          refine ifT hz ?_
          have t5 : Tup K H4' (upd H4' na (.lst (nvs ++ [.ref a]))) := tup_lst hnv
          refine ⟨_, rfl, nvs, hnv, size_lt (by omega), same_mut s4 hna, _, upd_same, Paired.snoc (L2.Paired.mapP hnp fun _ _ => PlV.tups t5) ((key_plV hpv).tups t5)⟩
        · have e1 : ([p].filter fun p => decide ((((cntL bs p []).length : Nat) : Int) = 0)) = [] := List.filter_cons_of_neg (by simpa using hz)
          rw [e1, List.append_nil]
          refine ifF hz ?_
          exact ⟨s4, nvs, hnv, hnp⟩
      · rintro H4 ⟨s4, rw4⟩
        rw [lkv, List.take_length] at rw4
        have hd4 := s4 _ _ hdM
        refine ⟨hd4, ?_⟩
        have nnd : na ≠ d := fun z => by rw [z, hdM] at hna; cases hna
        have sm4 : Same H3 (upd H4 d (DnO w d kvs)) := lock_same hd3 (eM ▸ s4)
        have S4 := S2.more sm4
        have df4 := df2.same sm4
        have rw5 := rw4.keep (tup_frz hd4) (upd_ne (o := DnO w d kvs) nnd)
        generalize upd H4 d (DnO w d kvs) = H5 at sm4 S4 df4 rw5 ⊢
        clear s4 rw4 hd4 hdM tabM dfM eM hna df2 sm2 S2 hd3
        -- ranks, spoilt
        intro ra hra
        have s6 := same_new (o := DnO w ra []) (Same.refl H5) hra
        have dr6 : DF K w pk (upd H5 ra (DnO w ra [])) ra [] (fun _ => nV 0) := DF.nil _
        have S6 := S4.more s6
        have df6 := df4.same s6
        have rw6 : RowsPl K (upd H5 ra (DnO w ra [])) na _ := rw5.mono s6
        have hraH : H ra = none := S4.same.free hra
        have nhr : h ≠ ra := not_none df4.obj hra
        have nsr : sa ≠ ra := not_none S4.df.obj hra
        generalize upd H5 ra (DnO w ra []) = H6 at s6 dr6 S6 df6 rw6 ⊢
        clear S4 df4 rw5 sm4
        intro pa hpa
        have s7 := same_new (o := DnO w pa []) (Same.refl H6) hpa
        have dp7 : DF K w spk (upd H6 pa (DnO w pa [])) pa ([] : List Spot) (fun _ => .bl true) := DF.nil _
        have S7 := S6.more s7
        have df7 := df6.same s7
        have dr7 := dr6.same s7
        have rw7 : RowsPl K (upd H6 pa (DnO w pa [])) na _ := rw6.mono s7
        have hpaH : H pa = none := S6.same.free hpa
        have nhp : h ≠ pa := not_none df6.obj hpa
        have nsp : sa ≠ pa := not_none S6.df.obj hpa
        have nrp : ra ≠ pa := not_none dr6.obj hpa
        generalize upd H6 pa (DnO w pa []) = H7 at s7 dp7 S7 df7 dr7 rw7 ⊢
        clear S6 df6 dr6 rw6 s6
        have R0 := RI.start (bs := bs) (ks := ks) (hop := fun p => (((cntL bs p []).length : Nat) : Int)) tab.nd fun p _ => rfl
        have W0 : RWl K w H7 ra h pa ks H7 [] _ (fun _ => 0) _ [] na := ⟨But.refl (but_three dr7.obj df7.obj dp7.obj), dr7, df7, dp7, rw7⟩
        have hX : ∀ a ∈ [ra, h, pa], H a = none := fun a ha => by
          rcases List.mem_cons.mp ha with rfl | ha
          · exact hraH
          rcases List.mem_cons.mp ha with rfl | ha
          · exact hhH
          · rw [List.mem_singleton] at ha; subst ha; exact hpaH
        have nsX : sa ∉ [ra, h, pa] := fun z => by
          rcases List.mem_cons.mp z with z | z
          · exact nsr z
          rcases List.mem_cons.mp z with z | z
          · exact nsh z
          · rw [List.mem_singleton] at z; exact nsp z
        have nlX : ∀ k ∈ ks, ls k ∉ [ra, h, pa] := fun k hk z => by
          obtain ⟨vs, e, _⟩ := S7.at_ k hk
          rcases List.mem_cons.mp z with z | z
          · exact not_ext e dr7.obj z
          rcases List.mem_cons.mp z with z | z
          · exact not_ext e df7.obj z
          · rw [List.mem_singleton] at z; exact not_ext e dp7.obj z
        have hevU : ∀ e ∈ evs bs ks, e.2.1 ∈ ks ∧ e.2 ∈ allSpots ks := fun e he => by
          obtain ⟨q', sp⟩ := e
          obtain ⟨h1, rs, h2, _⟩ := mem_evs.mp he
          exact ⟨h1, mem_allSpots h1 (free_lt hok (tab.ok _ h1) h2)⟩
        have hUl := allSpots_len ks
        generalize hN0 : (ks.filter fun p => decide ((((cntL bs p []).length : Nat) : Int) = 0)) = N0 at R0 W0
        refine ⟨fun m σ H' => ∃ S N rk r hop spo na v2 v8 v9 v10, m = ks.length - S.length ∧ RI bs ks S N rk r hop spo ∧ RWl K w H7 ra h pa ks H' S N rk hop spo na ∧ σ = [some (.ref d), some (.ref sa), v2, some (.ref h), some (.ref na), some (.ref ra), some (.ref pa), some (nV r), v8, v9, v10],
          ⟨_, _, _, _, _, _, _, _, _, _, _, _, rfl, R0, W0, rfl⟩, ?_⟩
        rintro m σ H8 ⟨S, N, rk, r, hop, spo, na, v2, v8, v9, v10, rfl, R, W, rfl⟩
        obtain ⟨nvs, hnv, hnp⟩ := W.nw
        have ln := hnp.length
        cases hN : N with
        | nil =>
          subst hN
          have e : nvs = [] := List.length_eq_zero_iff.mp ln
          subst e
          refine ⟨_, rfl, false, .inl ⟨[], SqL.of hnv, rfl⟩, ?_⟩
          refine iteF ?_
          exact ⟨_, rfl, q ra S rk H8 (but_same S7.same W.but hX) hraH W.dr R.done⟩
        | cons n0 nr =>
          have hne : N ≠ [] := by rw [hN]; exact List.cons_ne_nil _ _
          have hemp : true = !nvs.isEmpty := by
            cases nvs with
            | nil => exact absurd (List.length_eq_zero_iff.mp ln.symm) hne
            | cons _ _ => rfl
          clear hN
          refine ⟨_, rfl, true, .inl ⟨_, SqL.of hnv, hemp⟩, ?_⟩
          refine iteT ?_
          have rd := R.round hne
          have lS : S.length < (S ++ N).length := by rw [List.length_append]; have := List.length_pos_iff.mpr hne; omega
          have lSN : (S ++ N).length ≤ ks.length := nodup_len R.nd R.sub
          refine ⟨fun σ' H' => ∃ S' N' rk' r' hop' spo' na' v2 v8 v9 v10, ks.length - S'.length < ks.length - S.length ∧ RI bs ks S' N' rk' r' hop' spo' ∧ RWl K w H7 ra h pa ks H' S' N' rk' hop' spo' na' ∧ σ' = [some (.ref d), some (.ref sa), v2, some (.ref h), some (.ref na'), some (.ref ra), some (.ref pa), some (nV r'), v8, v9, v10],
            fun σ' H' ⟨S', N', rk', r', hop', spo', na', v2, v8, v9, v10, hlt, R', W', e⟩ => ⟨_, hlt, S', N', rk', r', hop', spo', na', v2, v8, v9, v10, rfl, R', W', e⟩, ?_⟩
          refine ⟨_, rfl, _, _, rfl, rfl, ?_⟩
          have nna : na ≠ ra := not_ext hnv W.dr.obj
          refine ⟨_, rfl, na, rfl, ⟨_, SqL.of hnv⟩, for_it (walk_list (xs := nvs)) (fun i σ H' => But [ra] H8 H' ∧ DF K w pk H' ra (S ++ N.take i) (fun k => nV (setR rk (N.take i) (r + 1) k)) ∧ ∃ v2, σ = [some (.ref d), some (.ref sa), v2, some (.ref h), some (.ref na), some (.ref ra), some (.ref pa), some (nV (r + 1)), v8, v9, v10])
            ⟨But.refl (fun b hb => by rw [List.mem_singleton] at hb; subst hb; exact .inr (.inl W.dr.obj)), by rw [List.take_zero, List.append_nil]; exact W.dr.ext fun k _ => rfl, _, rfl⟩ (fun i σ H' _ h => SqL.of (h.1.same _ _ (fun z => nna (List.mem_singleton.mp z)) hnv)) ?_ ?_⟩
          · rintro i x σ H9 H9' hi ⟨b9, dr9, v2', rfl⟩ ⟨rfl, hx⟩
            obtain ⟨p, hp, hpv⟩ := paired_at hnp hx
            have hpv := hpv.tups b9.tups
            obtain ⟨xa, xxs, rfl, hxa, hxp⟩ := id hpv
            have hnin : p ∉ S ++ N.take i := fun z => by
              rcases List.mem_append.mp z with z | z
              · exact (List.nodup_append.mp R.nd).2.2 p z p (List.mem_of_getElem? hp) rfl
              · exact nodup_take (List.nodup_append.mp R.nd).2.1 hp z
            have ltk := List.length_take_le i N
            have ltk2 : (S ++ N.take i).length ≤ (S ++ N).length := by rw [List.length_append, List.length_append]; have := List.length_take_le' i N; omega
            refine ⟨_, rfl, _, rfl, _, rfl, dr9.put pk_inj' (plV_key hpv) (pk_depth _) (by omega) fun o dr10 t10 => ?_⟩
            rw [addK_new hnin] at dr10
            refine ⟨b9.trans (But.upd (fun b hb => by rw [List.mem_singleton] at hb; subst hb; exact .inr (.inl dr9.obj)) List.mem_cons_self), ?_, _, rfl⟩
            rw [take_snoc hp, ← List.append_assoc]
            refine dr10.ext fun k hk => ?_
            unfold setF setR
            by_cases e : k = p
            · rw [if_pos e, if_pos (by rw [e]; exact List.mem_append_right _ List.mem_cons_self)]
            · rw [if_neg e]
              show nV (if k ∈ N.take i then r + 1 else rk k) = nV (if k ∈ N.take i ++ [p] then r + 1 else rk k)
              by_cases e2 : k ∈ N.take i
              · rw [if_pos e2, if_pos (List.mem_append_left _ e2)]
              · rw [if_neg e2, if_neg (fun z => (List.mem_append.mp z).elim e2 fun z => e (List.mem_singleton.mp z))]
          · rintro σ H9 ⟨b9, dr9, v2', rfl⟩
            rw [ln, List.take_length] at dr9
            have b9' : But [ra, h, pa] H8 H9 := ⟨fun a o ha e => b9.same a o (fun z => ha (by rw [List.mem_singleton] at z; rw [z]; exact List.mem_cons_self)) e, but_three W.dr.obj W.dh.obj W.dp.obj⟩
            have bb := W.but.trans b9'
            have dh9 := W.dh.but b9 (fun z => nhr (List.mem_singleton.mp z))
            have dp9 := W.dp.but b9 (fun z => nrp (List.mem_singleton.mp z).symm)
            have ds9 := S7.df.but bb nsX
            have hl9 : ∀ k ∈ ks, SpotsAt K H9 (ls k) (evAt (evs bs ks) k) := fun k hk => (S7.at_ k hk).but bb (nlX k hk)
            have nw9 : RowsPl K H9 na N := ⟨nvs, b9.same _ _ (fun z => nna (List.mem_singleton.mp z)) hnv, L2.Paired.mapP hnp fun _ _ => PlV.tups b9.tups⟩
            refine ⟨_, rfl, _, rfl, _, rfl, _, rfl, na, sa, h, pa, N, ks, ls, evs bs ks, hop, spo, allSpots ks, rfl, nw9, fun x hx => R.sub x (List.mem_append_right _ hx), ds9, hl9, dh9, dp9, nhp, nsh, nsp, hevU, R.spnd, fun x hx => ?_, by omega, by omega, fun l H10 L hl => ?_⟩
            · obtain ⟨h1, rs, h2, _⟩ := (R.sp x).mp hx
              exact mem_allSpots h1 (free_lt hok (tab.ok _ h1) h2)
            · have b10 : But [ra, h, pa] H9 H10 := ⟨fun a o ha e => L.but.same a o (fun z => ha (List.mem_cons_of_mem _ z)) e, but_three dr9.obj dh9.obj dp9.obj⟩
              have nrX : ra ∉ [h, pa] := fun z => by
                rcases List.mem_cons.mp z with z | z
                · exact nhr z.symm
                · rw [List.mem_singleton] at z; exact nrp z
              exact ⟨_, _, _, _, _, _, l, _, _, _, _, by omega, rd, ⟨bb.trans b10, dr9.but L.but nrX, L.dh, L.dp, L.lo⟩, rfl⟩
end
end My
namespace My
open PySem L2
/-! ### the order of standings -/
def ltPl (a b : Pl) : Bool := PySem.W.dataLt (pk a).data (pk b).data
theorem toks_pairs_inj : ∀ {a b : Pl}, PySem.W.keyToksAll (NestedKey.datas (a.map pairK)) = PySem.W.keyToksAll (NestedKey.datas (b.map pairK)) → a = b
  | [], [], _ => rfl
  | [], _ :: _, h => by
    have h : [(.inl 0 : Int ⊕ List Nat)] = .inl 1 :: _ := h
    injection h with h _
    cases h
  | _ :: _, [], h => by
    have h : (.inl 1 : Int ⊕ List Nat) :: _ = [.inl 0] := h
    injection h with h _
    cases h
  | p :: a, q :: b, h => by
    have h : (.inl 1 : Int ⊕ List Nat) :: .inl 1 :: .inl (p.1 : Int) :: .inl 1 :: .inl (p.2 : Int) :: .inl 0 :: PySem.W.keyToksAll (NestedKey.datas (a.map pairK)) = .inl 1 :: .inl 1 :: .inl (q.1 : Int) :: .inl 1 :: .inl (q.2 : Int) :: .inl 0 :: PySem.W.keyToksAll (NestedKey.datas (b.map pairK)) := h
    injection h with _ h
    injection h with _ h
    injection h with h1 h
    injection h with _ h
    injection h with h2 h
    injection h with _ h
    have h1 : (p.1 : Int) = q.1 := Sum.inl.inj h1
    have h2 : (p.2 : Int) = q.2 := Sum.inl.inj h2
    rw [Prod.ext (Int.ofNat.inj h1) (Int.ofNat.inj h2), toks_pairs_inj h]
theorem toks_inj {a b : Pl} (h : PySem.W.keyToks (pk a).data = PySem.W.keyToks (pk b).data) : a = b := toks_pairs_inj h
theorem leP_total : PySem.W.TotalLe leP := PySem.W.sortLe_total (PyProof.Rows.listOrd PyProof.Rows.itemOrd) false fun p : Pl => PySem.W.keyToks (pk p).data
/-- sorted, each standing once: strictly ascending -/
theorem sort_asc {L : List Pl} (h : L.Nodup) : (L.mergeSort leP).Pairwise fun a b => ltPl a b = true := by
  have h1 := PySem.W.sort_pairwise leP_total L
  have h2 : (L.mergeSort leP).Nodup := (List.mergeSort_perm L leP).nodup_iff.mpr h
  refine List.Pairwise.imp₂ ?_ h1 h2
  intro a b hab hne
  cases e : ltPl a b with
  | true => rfl
  | false =>
    have h3 : (!ltPl b a) = true := hab
    have h3 : ltPl b a = false := by simpa using h3
    exact absurd (toks_inj (PyProof.Rows.lex_total (O := PyProof.Rows.itemOrd) _ _ e h3)) hne
section
variable {K : PySem.W.Frag} {w : World} {H : Hp}
theorem paired_keys : ∀ {kvs : NKs} {L : List Pl}, KeysOk K H kvs → kvs.map (·.1) = L.map pk → Paired (PlV K H) (kvs.map fun x => V.ref x.2.1) L
  | [], [], _, _ => .nil
  | [], _ :: _, _, e => by cases e
  | _ :: _, [], _, e => by cases e
  | x :: kvs, p :: L, h, e => by
    injection e with e1 e2
    refine .cons (key_plV ?_) (paired_keys (fun y hy => h y (List.mem_cons_of_mem _ hy)) e2)
    rw [← e1]
    exact h x List.mem_cons_self
theorem DF.list' {d : Addr} {L : List Pl} {f : Pl → V} (h : DF K w pk H d L f) : ∃ kvs : NKs, H d = some (DnO w d kvs) ∧ Paired (PlV K H) (kvs.map fun x => V.ref x.2.1) L := by
  obtain ⟨kvs, h1, h2, h3, _⟩ := h
  exact ⟨kvs, h1, paired_keys h2 h3⟩
theorem sort_pls' {a : Addr} {vs : List V} {L : List Pl} (hl : SqL K H a vs) (hp : Paired (PlV K H) vs L) (hn : ∀ p ∈ L, p ≠ []) : ∃ bs : List KB, SqL K H a (bs.map (·.1)) ∧ (∀ b ∈ bs, KeyV K H b.2 b.1 ∧ b.2.depth ≤ 8) ∧ PySem.W.AllAlike (bs.map fun b => b.2.data) ∧ PySem.W.Sortable (bs.map fun b => b.2.data) ∧ Paired (PlV K H) ((bs.mergeSort leN).map (·.1)) (L.mergeSort leP) := by
  obtain ⟨zs, rfl, z2, z3⟩ := paired_zip hp
  have e1 : (zs.map kbOf).map (·.1) = zs.map (·.1) := by rw [List.map_map]; rfl
  refine ⟨zs.map kbOf, e1 ▸ hl, ?_, ?_, ?_, ?_⟩
  · intro z0 hz0
    obtain ⟨z, hz, rfl⟩ := List.mem_map.mp hz0
    exact ⟨plV_key (z3 z hz), pk_depth _⟩
  · intro d hd d' hd'
    obtain ⟨_, hz0, rfl⟩ := List.mem_map.mp hd
    obtain ⟨z, hz, rfl⟩ := List.mem_map.mp hz0
    obtain ⟨_, hz0', rfl⟩ := List.mem_map.mp hd'
    obtain ⟨z', hz', rfl⟩ := List.mem_map.mp hz0'
    exact alike_pk z.2 z'.2
  · refine .inl fun d hd => ?_
    obtain ⟨_, hz0, rfl⟩ := List.mem_map.mp hd
    obtain ⟨z, hz, rfl⟩ := List.mem_map.mp hz0
    have hz1 := hn z.2 (by rw [← z2]; exact List.mem_map_of_mem hz)
    obtain ⟨zv, zp⟩ := z
    cases zp with
    | nil => exact absurd rfl hz1
    | cons p r => exact ⟨_, _, rfl⟩
  · have hz := zip_paired (zs := zs.mergeSort leZ) fun z hz => (z3 z ((List.mergeSort_perm _ _).mem_iff.mp hz))
    rw [sort_snd, z2, ← sort_fst] at hz
    exact hz
theorem Tab.get {X : List Addr} {bs : List Bd} {d b : Addr} {kvs : NKs} {ks : List Pl} {k : Pl} {Q : VK} (tab : Tab K H X bs kvs ks) (hd : H d = some (DnO w d kvs)) (hk : k ∈ ks) (hb : PlV K H (.ref b) k)
    (q : ∀ ra rvs, H ra = some (.lst rvs) → Paired (LedV K H X) rvs (rowF bs k) → ra ∉ X → Q (.ref ra) H) : rIxN K w (.ref d) (.ref b) H Q := by
  obtain ⟨v, e, ra, rvs, rfl, h1, h2, h3⟩ := tab.has hk
  exact ⟨d, b, kvs, pk k, _, rfl, rfl, .inl hd, tab.kok, plV_key hb, pk_depth k, e, q ra rvs h1 h2 h3⟩
end
/-! ### keeps -/
def keepsF (R : List Pl) (r : Bool × List Pl) : Bool := !r.1 && r.2.all fun q => decide (q ∉ R)
def numF (bs : List Bd) (R : List Pl) (p : Pl) : Nat := ((rowF bs p).map (keepsF R)).findIdx id
def chF (bs : List Bd) (R : List Pl) (p : Pl) : Int := ((ableI p)[numF bs R p]?).getD (-1)
theorem numF_of {bs : List Bd} {ks R : List Pl} {rk : Pl → Nat} (h : RankOk bs ks R rk) {p : Pl} (hp : p ∈ ks) (hn : p ∉ R) :
    ∃ rs, Free bs (p, numF bs R p) rs ∧ (∀ q ∈ rs, q ∉ R) ∧ (ableI p)[numF bs R p]? = some (chF bs R p) ∧ ledF bs p (chF bs R p) = (false, rs) ∧ ((rowF bs p).map (keepsF R))[numF bs R p]? = some true ∧ ∀ m, m < numF bs R p → ((rowF bs p).map (keepsF R))[m]? = some false := by
  obtain ⟨n, rs, hf, hq⟩ := h.kept p hp hn
  have hm : true ∈ (rowF bs p).map (keepsF R) := by
    refine List.mem_map.mpr ⟨(false, rs), List.mem_of_getElem? hf, ?_⟩
    show (true && rs.all fun q => decide (q ∉ R)) = true
    rw [Bool.true_and, List.all_eq_true]
    exact fun q hq' => decide_eq_true (hq q hq')
  have hlt : numF bs R p < ((rowF bs p).map (keepsF R)).length := List.findIdx_lt_length_of_exists ⟨true, hm, rfl⟩
  have hat : ((rowF bs p).map (keepsF R))[numF bs R p]'hlt = true := List.findIdx_getElem (p := id) (w := hlt)
  have hno : ∀ m, m < numF bs R p → ((rowF bs p).map (keepsF R))[m]? = some false := fun m hm => by
    have h1 := List.not_of_lt_findIdx (p := id) (xs := (rowF bs p).map (keepsF R)) (i := m) hm
    have hlm : m < ((rowF bs p).map (keepsF R)).length := Nat.lt_trans hm hlt
    rw [List.getElem?_eq_getElem hlm]
    simpa using h1
  have hat2 : ((rowF bs p).map (keepsF R))[numF bs R p]? = some true := by rw [List.getElem?_eq_getElem hlt, hat]
  obtain ⟨⟨rk0, rs0⟩, hr, hk⟩ := at_map hat2
  have hk : true = (!rk0 && rs0.all fun q => decide (q ∉ R)) := hk
  have hk := Bool.and_eq_true_iff.mp hk.symm
  have e0 : rk0 = false := by simpa using hk.1
  subst e0
  have hr' := hr
  unfold rowF at hr'
  obtain ⟨c, hc, e⟩ := at_map hr'
  have ec : chF bs R p = c := by unfold chF; rw [hc]; rfl
  refine ⟨rs0, hr, fun q hq => of_decide_eq_true (List.all_eq_true.mp hk.2 q hq), by rw [ec]; exact hc, by rw [ec]; exact e.symm, hat2, hno⟩
section
variable {P : Program} {w : World} {K : PySem.W.Frag} {mg : Str → Option Value} {base : Heap}
abbrev s_keeps : Stmt := top 36
abbrev N_keeps : List Str := ["told", "ranks", "risky", "following", "after"]
theorem sc_keeps : FnScope N_keeps ["told", "ranks"] (C8.fnScope s_keeps) := C8.fnScope_by (by decide +kernel)
def sp_keeps (K : PySem.W.Frag) (w : World) : Sp := fun vs H Q _ => ∃ (v : V) (ra : Addr) (r : Bool × List Pl) (R : List Pl) (rk : Pl → Nat) (X : List Addr), vs = [v, .ref ra] ∧ LedV K H X v r ∧ DF K w pk H ra R (fun k => nV (rk k)) ∧ r.2.length ≤ 1000 ∧
  ∀ H', Same H H' → Q (.bl (keepsF R r)) H'
theorem ok_keeps {f : Addr} {fd : FuncData} (F : C8.Def K mg "keeps" s_keeps f fd) (b : Binds K fd ["told", "ranks"] []) (T : Gb mg) : C8.Cal P w K mg base 1 "keeps" (sp_keeps K w) [] := by
  refine C8.cal0 F b .nil sc_keeps (fun vs H Q E h => ?_) (fun cdv A outer s H vs Q E hr h => ?_)
  · obtain ⟨v, ra, r, R, rk, X, rfl, _⟩ := h
    rfl
  · obtain ⟨v, ra, ⟨rb, rs⟩, R, rk, X, rfl, ⟨a, l, rfl, ha, ⟨vs, hl, hp⟩, hn⟩, df, hlen, q⟩ := h
    refine ⟨_, (pss_cons (ps_asg (pv 0) (pg_tup (by rfl) (pgs_cons (pg_name (i := 2) sc_keeps.nd rfl (Or.inl rfl)) (pgs_cons (pg_name (i := 3) sc_keeps.nd rfl (Or.inl rfl)) pgs_nil))))
(pss_one (ps_ret (pe_and (pe_not (pv 2)) (pe_one (pe_callB (cr_all rfl) (by rfl) T.all (by decide +kernel) (pa_cons (pe_lc (own := [("after", 4)]) rfl sc_keeps.nd (pi_listK K rfl (pv 3)) (blkOk_by (N := N_keeps) (sc := C8.fnScope s_keeps) (by decide +kernel)) (fun _ _ _ _ _ => (pg_name (i := 4) sc_keeps.nd rfl (Or.inl rfl))) (fun _ _ _ _ _ => pts_nil) (fun _ _ _ _ _ => (pe_cmpR (op_notInNK (K := K) (w := w) rfl rfl (Nat.lt_of_le_of_lt (Nat.add_le_add_left (by decide) _) hr.un)) (pv 4) (pv 1) rfl))) pa_nil))))))), ?_⟩
    refine ⟨_, rfl, a, _, rfl, ha, rfl, _, _, rfl, _, _, rfl, rfl, ?_⟩
    refine ⟨_, rfl, rb, rfl, _, rfl, ?_⟩
    cases rb with
    | true =>
      exact iteF (q H (Same.refl H))
    | false =>
      refine iteT ?_
      have lp := hp.length
      refine ⟨_, rfl, l, rfl, ⟨_, SqL.of hl⟩, fun D hD => lc_it (walk_list (xs := vs)) (fun j H' => Same H H' ∧ H' D = some (.lst (((rs.take j).map fun q => decide (q ∉ R)).map V.bl)))
        ⟨same_new (Same.refl _) hD, upd_same⟩ (fun j H' _ h => SqL.of (h.1 _ _ hl)) ?_ ?_⟩
      · rintro j y H4 H4' hj ⟨s4, ha4⟩ ⟨rfl, hy⟩
        obtain ⟨p, hp4, hpv⟩ := paired_at hp hy
        have hpv := hpv.mono s4
        obtain ⟨xa, xxs, rfl, hxa, hxp⟩ := id hpv
        refine ⟨rfl, yes_go ?_⟩
        rw [take_snoc hp4, List.map_append, List.map_append]
        have lt := List.length_take_le j rs
        by_cases hin : p ∈ R
        · refine ⟨_, rfl, _, rfl, (df.same s4).notF pk_inj' (plV_key hpv) (pk_depth _) hin ⟨_, ha4, size_lt (by rw [List.length_map, List.length_map]; show (rs.take j).length < _; have : rs.length ≤ 1000 := hlen; omega), same_mut s4 hD, ?_⟩⟩
          have : decide (p ∉ R) = false := decide_eq_false fun z => z hin
          show upd _ _ _ D = some (.lst (_ ++ [V.bl (decide (p ∉ R))]))
          rw [this]
          exact upd_same
        · refine ⟨_, rfl, _, rfl, (df.same s4).notT pk_inj' (plV_key hpv) (pk_depth _) hin ⟨_, ha4, size_lt (by rw [List.length_map, List.length_map]; show (rs.take j).length < _; have : rs.length ≤ 1000 := hlen; omega), same_mut s4 hD, ?_⟩⟩
          have : decide (p ∉ R) = true := decide_eq_true hin
          show upd _ _ _ D = some (.lst (_ ++ [V.bl (decide (p ∉ R))]))
          rw [this]
          exact upd_same
      · rintro H4 ⟨s4, ha4⟩
        have lp : vs.length = rs.length := lp
        rw [lp, List.take_length] at ha4
        refine ⟨D, _, rfl, SqL.of ha4, ?_⟩
        have e : keepsF R (false, rs) = ((rs.map fun q => decide (q ∉ R)).all id) := by
          unfold keepsF
          rw [List.all_map]
          rfl
        rw [← e]
        exact q H4 s4
end
end My
namespace My
open PySem L2
/-! ### lot_from -/
def succL (bs : List Bd) (R : List Pl) (k : Pl) : List Pl := (ledF bs k (chF bs R k)).2
structure LoopL (K : PySem.W.Frag) (w : World) (H : Hp) (bs : List Bd) (ks R : List Pl) (start : Pl) (la wa : Addr) (H' : Hp) (L : List Pl) (vs : List V) (ws : List Pl) : Prop where
  same : Same H H'
  dl : DF K w pk H' la L (fun k => .int (chF bs R k))
  atw : H' wa = some (.lst vs)
  pls : Paired (PlV K H') vs ws
  oks : ∀ q ∈ ws, q ∈ ks ∧ q ∉ R
  okl : ∀ q ∈ L, q ∈ ks ∧ q ∉ R
  nd : L.Nodup
  first : start ∈ L ∨ start ∈ ws
  half : ∀ k ∈ L, ∀ q ∈ succL bs R k, q ∈ L ∨ q ∈ ws
  len : ws.length ≤ 1 + L.length * 147
/-- a lot: standings strictly ascending, each with a choice that has no risk and stays in it -/
structure LotOk (bs : List Bd) (start : Pl) (L : List Pl) (ch : Pl → Int) : Prop where
  asc : L.Pairwise fun a b => ltPl a b = true
  start : start ∈ L
  ok : ∀ p ∈ L, okPl bs p ∧ ch p ∈ ableI p ∧ (ledF bs p (ch p)).1 = false ∧ ∀ q ∈ (ledF bs p (ch p)).2, q ∈ L
def LotV (K : PySem.W.Frag) (H : Hp) (ch : Pl → Int) (v : V) (p : Pl) : Prop := ∃ a xv, v = .ref a ∧ SqT K H a [xv, .int (ch p)] ∧ PlV K H xv p
theorem LotV.tups {K : PySem.W.Frag} {H H' : Hp} {ch : Pl → Int} (t : Tup K H H') {v : V} {p : Pl} (h : LotV K H ch v p) : LotV K H' ch v p := let ⟨a, xv, e, h1, h2⟩ := h; ⟨a, xv, e, t _ _ h1, h2.tups t⟩
def LotAt (K : PySem.W.Frag) (H : Hp) (l : Addr) (ch : Pl → Int) (L : List Pl) : Prop := ∃ vs, H l = some (.lst vs) ∧ Paired (LotV K H ch) vs L
theorem LotAt.mono {K : PySem.W.Frag} {H H' : Hp} {l : Addr} {ch : Pl → Int} {L : List Pl} (s : Same H H') (h : LotAt K H l ch L) : LotAt K H' l ch L := let ⟨vs, e, q⟩ := h; ⟨vs, s _ _ e, L2.Paired.mapP q fun _ _ => LotV.tups s.tups⟩
section
variable {P : Program} {w : World} {K : PySem.W.Frag} {mg : Str → Option Value} {base : Heap}
abbrev s_lot_from : Stmt := top 37
abbrev N_lot_from : List Str := ["table", "ranks", "start", "lot", "waiting", "place", "number", "told"]
theorem sc_lot_from : FnScope N_lot_from ["table", "ranks", "start"] (C8.fnScope s_lot_from) := C8.fnScope_by (by decide +kernel)
def sp_lot_from (K : PySem.W.Frag) (w : World) : Sp := fun vs H Q _ => ∃ (d ra : Addr) (v : V) (bs : List Bd) (kvs : NKs) (ks R : List Pl) (rk : Pl → Nat) (start : Pl), vs = [.ref d, .ref ra, v] ∧ H d = some (DnO w d kvs) ∧ Tab K H [d] bs kvs ks ∧ BdsOk bs ∧ DF K w pk H ra R (fun k => nV (rk k)) ∧ Ranks bs start ks R rk ∧ PlV K H v start ∧ start ∉ R ∧
  ∀ l L H', Same H H' → H l = none → LotOk bs start L (chF bs R) → LotAt K H' l (chF bs R) L → Q (.ref l) H'
theorem ok_lot_from {f : Addr} {fd : FuncData} (F : C8.Def K mg "lot_from" s_lot_from f fd) (b : Binds K fd ["table", "ranks", "start"] []) (T : Gb mg) (c_open_choices : C8.Cal P w K mg base 1 "open_choices" (sp_open_choices K) []) (c_keeps : C8.Cal P w K mg base 1 "keeps" (sp_keeps K w) []) : C8.Cal P w K mg base 2 "lot_from" (sp_lot_from K w) [] := by
  refine C8.cal0 F b .nil sc_lot_from (fun vs H Q E h => ?_) (fun cdv A outer s H vs Q E hr h => ?_)
  · obtain ⟨d, ra, v, bs, kvs, ks, R, rk, start, rfl, _⟩ := h
    rfl
  · obtain ⟨d, ra, v, bs, kvs, ks, R, rk, start, rfl, hd, tab, hok, dr, hR, hP, hns, q⟩ := h
    refine ⟨_, (pss_cons (ps_set (i := 3) sc_lot_from.nd rfl (Or.inr rfl) (pe_newNK (w := w) rfl))
(pss_cons (ps_set (i := 4) sc_lot_from.nd rfl (Or.inl rfl) (pe_lst (pa_cons (pv 2) pa_nil)))
(pss_cons (ps_while PassesOwn.never (pt_truth (pv 4) (by intro _; rfl))
(pss_cons (ps_set (i := 5) sc_lot_from.nd rfl (Or.inl rfl) (pe_bm0 PySem.F.plainAttrs_list PySem.F.slot_list_pop PySem.F.type_list_pop mt_pop (pv 4)))
(pss_one (ps_if (pt_cmpR (op_notInNK (K := K) (w := w) rfl rfl (Nat.lt_of_le_of_lt (Nat.add_le_add_left (by decide) _) hr.un)) (pv 5) (pv 3) rfl)
(pss_cons (ps_set (i := 6) sc_lot_from.nd rfl (Or.inl rfl) (pe_bm PySem.F.plainAttrs_list PySem.F.slot_list_index PySem.F.type_list_index mt_index (pe_lc (own := [("told", 7)]) rfl sc_lot_from.nd (pi_listK K rfl (pe_ix (ix_dNK (K := K) (w := w) rfl rfl (Nat.lt_of_le_of_lt (Nat.add_le_add_left (by decide) _) hr.un)) (pv 0) (pv 5) (fun _ _ => rfl))) (blkOk_by (N := N_lot_from) (sc := C8.fnScope s_lot_from) (by decide +kernel)) (fun _ _ _ _ _ => (pg_name (i := 7) sc_lot_from.nd rfl (Or.inl rfl))) (fun _ _ _ _ _ => pts_nil) (fun _ _ _ _ _ => (C8.pe_c c_keeps hr (by decide) (by rfl) (pa_cons (pv 7) (pa_cons (pv 1) pa_nil))))) (pa_cons pe_bl pa_nil)))
(pss_cons (ps_asg (pe_ix (ix_listK K rfl) (C8.pe_c c_open_choices hr (by decide) (by rfl) (pa_cons (pv 5) pa_nil)) (pv 6) (fun _ _ => rfl)) (pg_sub (pv 3) (pv 5) (set_NK (K := K) (w := w) rfl rfl (Nat.lt_of_le_of_lt (Nat.add_le_add_left (by decide) _) hr.un))))
(pss_one (ps_expr (pe_bm PySem.F.plainAttrs_list PySem.F.slot_list_extend PySem.F.type_list_extend mt_extend (pv 4) (pa_cons (pe_ix (ix_tupK K rfl) (pe_ix (ix_listK K rfl) (pe_ix (ix_dNK (K := K) (w := w) rfl rfl (Nat.lt_of_le_of_lt (Nat.add_le_add_left (by decide) _) hr.un)) (pv 0) (pv 5) (fun _ _ => rfl)) (pv 6) (fun _ _ => rfl)) pe_int (fun _ _ => rfl)) pa_nil))))))
pss_nil))))
(pss_one (ps_ret (pe_lc (own := [("place", 5)]) rfl sc_lot_from.nd (pi_listK K rfl (pe_callB (cr_sortedNK (K := K) rfl (Nat.lt_of_le_of_lt (Nat.add_le_add_left (by decide) _) hr.un)) (by rfl) T.sorted (by decide +kernel) (pa_cons (pe_callTy (call_list_dN (w := w) rfl rfl) (by rfl) T.list (by decide +kernel) (pa_cons (pv 3) pa_nil)) pa_nil))) (blkOk_by (N := N_lot_from) (sc := C8.fnScope s_lot_from) (by decide +kernel)) (fun _ _ _ _ _ => (pg_name (i := 5) sc_lot_from.nd rfl (Or.inl rfl))) (fun _ _ _ _ _ => pts_nil) (fun _ _ _ _ _ => (pe_tup (pa_cons (pv 5) (pa_cons (pe_ix (ix_dNK (K := K) (w := w) rfl rfl (Nat.lt_of_le_of_lt (Nat.add_le_add_left (by decide) _) hr.un)) (pv 3) (pv 5) (fun _ _ => rfl)) pa_nil)))))))))), ?_⟩
    have hfew := few hok tab.nd tab.ok
    have n2 := hok.n2
    intro la hla
    refine ⟨_, rfl, by show 1 ≤ sizeLine; decide, fun wa hwa => ?_⟩
    have sd := same_new (o := DnO w la []) (Same.refl H) hla
    have sm0 := same_new (o := .lst [v]) sd hwa
    have hwa0 : H wa = none := sd.free hwa
    have ndw : la ≠ wa := ne_of_none' upd_same hwa
    refine ⟨fun m σ H' => ∃ L vs ws v5 v6 v7, Mu m L ws ∧ LoopL K w H bs ks R start la wa H' L vs ws ∧ σ = [some (.ref d), some (.ref ra), some v, some (.ref la), some (.ref wa), v5, v6, v7],
      ⟨_, _, _, _, _, _, _, ⟨rfl⟩, ⟨sm0, (DF.nil _).same (same_new (Same.refl _) hwa), upd_same, .cons (hP.mono sm0) .nil, fun q hq => by rw [List.mem_singleton] at hq; rw [hq]; exact ⟨hR.start, hns⟩, fun q hq => (nomatch hq), List.nodup_nil, .inr List.mem_cons_self, fun k hk => (nomatch hk), Nat.le_refl _⟩, rfl⟩, ?_⟩
    rintro m σ H1 ⟨L, vs, ws, v5, v6, v7, hm, I, rfl⟩
    have lv := I.pls.length
    have hL : L.length ≤ 441 := few hok I.nd fun k hk => tab.ok k (I.okl k hk).1
    have lw := I.len
    cases hws : ws with
    | nil =>
      subst hws
      have e : vs = [] := List.length_eq_zero_iff.mp lv
      subst e
      refine ⟨_, rfl, false, .inl ⟨[], SqL.of I.atw, rfl⟩, ?_⟩
      refine iteF ?_
      obtain ⟨kvl, ekl, hp1⟩ := I.dl.list'
      refine ⟨_, rfl, la, kvl, rfl, .inl ekl, fun l1 hl1 => ?_⟩
      generalize (kvl.map fun x => V.ref x.2.1) = ws1 at hp1 ⊢
      have s1 := same_new (o := .lst ws1) (Same.refl H1) hl1
      have hl1' : upd H1 l1 (.lst ws1) l1 = some (.lst ws1) := upd_same
      have hp1 : Paired (PlV K (upd H1 l1 (.lst ws1))) ws1 L := L2.Paired.mapP hp1 fun _ _ => PlV.mono s1
      have dl1 := I.dl.same s1
      have s01 := I.same.trans s1
      generalize upd H1 l1 (.lst ws1) = H2 at s1 hl1' hp1 dl1 s01 ⊢
      obtain ⟨zb, z1, z2, z3, z4, hp2⟩ := sort_pls' (SqL.of hl1') hp1 (fun p hp => fun z => by have := okPl_len (tab.ok p (I.okl p hp).1); have := hok.n1; subst z; rw [List.length_nil] at *; omega)
      refine ⟨l1, zb, rfl, z1, z2, z3, z4, fun l2 hl2 => ?_⟩
      generalize (zb.mergeSort leN).map (·.1) = ws2 at hp2 ⊢
      have s2 := same_new (o := .lst ws2) (Same.refl H2) hl2
      have hl2' : upd H2 l2 (.lst ws2) l2 = some (.lst ws2) := upd_same
      have hp2 : Paired (PlV K (upd H2 l2 (.lst ws2))) ws2 (L.mergeSort leP) := L2.Paired.mapP hp2 fun _ _ => PlV.mono s2
      have dl2 := dl1.same s2
      have s02 := s01.trans s2
      generalize upd H2 l2 (.lst ws2) = H3 at s2 hl2' hp2 dl2 s02 ⊢
      have lp2 := hp2.length
      have hmem : ∀ p, p ∈ L.mergeSort leP ↔ p ∈ L := fun p => (List.mergeSort_perm L leP).mem_iff
      have lsort : (L.mergeSort leP).length = L.length := List.length_mergeSort _
      refine ⟨l2, rfl, ⟨_, SqL.of hl2'⟩, fun D hD => lc_it (walk_list (xs := ws2)) (fun j H' => Same H3 H' ∧ ∃ acc, H' D = some (.lst acc) ∧ Paired (LotV K H' (chF bs R)) acc ((L.mergeSort leP).take j))
        ⟨same_new (Same.refl _) hD, [], upd_same, .nil⟩ (fun j H' _ h => SqL.of (h.1 _ _ hl2')) ?_ ?_⟩
      · rintro j y H4 H4' hj ⟨s4, acc, ha, hap⟩ ⟨rfl, hy⟩
        obtain ⟨p, hp4, hpv⟩ := paired_at hp2 hy
        have hpv := hpv.mono s4
        obtain ⟨xa, xxs, rfl, hxa, hxp⟩ := id hpv
        have hpL := (hmem p).mp (List.mem_of_getElem? hp4)
        have lacc := hap.length
        have ltk := List.length_take_le j (L.mergeSort leP)
        refine ⟨rfl, yes_go ?_⟩
        refine ⟨_, rfl, _, rfl, _, rfl, (dl2.same s4).get hpL (plV_key hpv) (pk_depth _) ⟨by show 2 ≤ sizeLine; decide, fun t ht => ?_⟩⟩
        have s5 := same_new (o := .tup [.ref xa, .int (chF bs R p)]) (Same.refl H4') ht
        have ht5 : upd H4' t (.tup [.ref xa, .int (chF bs R p)]) t = some (.tup [.ref xa, .int (chF bs R p)]) := upd_same
        have ha5 := s5 _ _ ha
        have hpv5 := hpv.mono s5
        have s45 := s4.trans s5
        have hap5 : Paired (LotV K (upd H4' t (.tup [.ref xa, .int (chF bs R p)])) (chF bs R)) acc ((L.mergeSort leP).take j) := L2.Paired.mapP hap fun _ _ => LotV.tups s5.tups
        generalize upd H4' t (.tup [.ref xa, .int (chF bs R p)]) = H5 at s5 ht5 ha5 hpv5 s45 hap5 ⊢
        have t6 : Tup K H5 (upd H5 D (.lst (acc ++ [.ref t]))) := tup_lst ha5
        refine ⟨acc, ha5, size_lt (by omega), same_mut s45 hD, _, upd_same, ?_⟩
        rw [take_snoc hp4]
        exact Paired.snoc (L2.Paired.mapP hap5 fun _ _ => LotV.tups t6) (LotV.tups t6 ⟨t, _, rfl, SqT.of ht5, hpv5⟩)
      · rintro H4 ⟨s4, acc, ha, hap⟩
        rw [lp2, List.take_length] at hap
        refine q D _ H4 (s02.trans s4) (s02.free hD) ⟨sort_asc I.nd, (hmem _).mpr (I.first.elim id fun z => (nomatch z)), fun p hp => ?_⟩ ⟨acc, ha, hap⟩
        have hpL := (hmem p).mp hp
        obtain ⟨hpk, hpn⟩ := I.okl p hpL
        obtain ⟨rs, h1, h2, h3, h4, h5, h6⟩ := numF_of hR.ok hpk hpn
        exact ⟨tab.ok p hpk, List.mem_of_getElem? h3, by rw [h4], fun q' hq' => (hmem q').mpr ((I.half p hpL q' hq').elim id fun z => (nomatch z))⟩
    | cons w0 wr =>
      have hne : ws ≠ [] := by rw [hws]; exact List.cons_ne_nil _ _
      clear hws
      obtain ⟨vs', x, ws', p, rfl, rfl, hp', hx⟩ := paired_last I.pls hne
      refine ⟨_, rfl, true, .inl ⟨_, SqL.of I.atw, nonempty_snoc _ _⟩, ?_⟩
      refine iteT ?_
      refine ⟨fun σ' H' => ∃ m' L' vs2 ws2 v5 v6 v7, m' < m ∧ Mu m' L' ws2 ∧ LoopL K w H bs ks R start la wa H' L' vs2 ws2 ∧ σ' = [some (.ref d), some (.ref ra), some v, some (.ref la), some (.ref wa), v5, v6, v7],
        fun σ' H' ⟨m', L', vs2, ws2, v5, v6, v7, hlt, hm', I', e⟩ => ⟨m', hlt, L', vs2, ws2, v5, v6, v7, hm', I', e⟩, ?_⟩
      refine ⟨_, rfl, .inl ⟨rfl, _, SqL.of I.atw⟩, wa, _, x, rfl, rfl, I.atw, at_last_snoc _ _, ?_⟩
      rw [List.dropLast_concat]
      have t2 : Tup K H1 (upd H1 wa (.lst vs')) := tup_lst I.atw
      have sm2 : Same H (upd H1 wa (.lst vs')) := same_mut I.same hwa0
      have hx2 := hx.tups t2
      have dl2 := I.dl.keep t2 (upd_ne (o := .lst vs') ndw)
      have hw2 : upd H1 wa (.lst vs') wa = some (.lst vs') := upd_same
      have hp2 : Paired (PlV K (upd H1 wa (.lst vs'))) vs' ws' := L2.Paired.mapP hp' fun _ _ => PlV.tups t2
      generalize upd H1 wa (.lst vs') = H2 at sm2 hx2 dl2 hw2 hp2 ⊢
      clear t2
      obtain ⟨hpk, hpn⟩ := I.oks p (List.mem_append_right _ List.mem_cons_self)
      have hpo := tab.ok p hpk
      have hpl := okPl_len hpo
      obtain ⟨xb, xxs, rfl, hxx⟩ := id hx2
      have lap : (ws' ++ [p]).length = ws'.length + 1 := by rw [List.length_append]; rfl
      by_cases hk : p ∈ L
      · refine ⟨_, rfl, _, rfl, dl2.notF pk_inj' (plV_key hx2) (pk_depth _) hk ⟨_, rfl, ?_⟩⟩
        refine iteF ?_
        obtain ⟨m', hlt, hm'⟩ := hm.pop
        refine ⟨m', L, vs', ws', _, _, _, hlt, hm', ⟨sm2, dl2, hw2, hp2, fun q hq => I.oks q (List.mem_append_left _ hq), I.okl, I.nd, ?_, fun k hk' q hq => ?_, by omega⟩, rfl⟩
        · rcases I.first with h | h
          · exact .inl h
          · rcases List.mem_append.mp h with h | h
            · exact .inr h
            · rw [List.mem_singleton] at h
              exact .inl (h ▸ hk)
        · rcases I.half k hk' q hq with h | h
          · exact .inl h
          · rcases List.mem_append.mp h with h | h
            · exact .inr h
            · rw [List.mem_singleton] at h
              exact .inl (h ▸ hk)
      · refine ⟨_, rfl, _, rfl, dl2.notT pk_inj' (plV_key hx2) (pk_depth _) hk ⟨_, rfl, ?_⟩⟩
        refine iteT ?_
        have tab2 := tab.mono sm2
        have hd2 := sm2 _ _ hd
        have dr2 := dr.same sm2
        obtain ⟨rs, g1, g2, g3, g4, g5, g6⟩ := numF_of hR.ok hpk hpn
        refine ⟨_, rfl, _, rfl, tab2.get hd2 hpk hx2 fun rw_ rvs hrw hrvp hrn => ⟨rw_, rfl, ⟨_, SqL.of hrw⟩, fun D hD => lc_it (walk_list (xs := rvs)) (fun j H' => Same H2 H' ∧ H' D = some (.lst ((((rowF bs p).take j).map (keepsF R)).map V.bl)))
          ⟨same_new (Same.refl _) hD, upd_same⟩ (fun j H' _ h => SqL.of (h.1 _ _ hrw)) ?_ ?_⟩⟩
        · rintro j xc H4 H4' hj ⟨s4, ha⟩ ⟨rfl, hxc⟩
          obtain ⟨r, hr4, hrv⟩ := paired_at hrvp hxc
          refine ⟨rfl, yes_go ?_⟩
          have hr4' := hr4
          unfold rowF at hr4'
          obtain ⟨c, hc, er⟩ := at_map hr4'
          have l49 := led_len hok hpl c
          refine ⟨_, rfl, _, rfl, _, ra, r, R, rk, _, rfl, hrv.mono s4, dr2.same s4, by rw [er]; omega, fun H5 s5 => ?_⟩
          have lrow : (rowF bs p).length = (ableI p).length := List.length_map _
          have lable := able_len p
          have ltk := List.length_take_le' j (rowF bs p)
          refine ⟨_, s5 _ _ ha, size_lt (by rw [List.length_map, List.length_map]; omega), same_mut (s4.trans s5) hD, ?_⟩
          rw [take_snoc hr4, List.map_append, List.map_append]
          exact upd_same
        · rintro H4 ⟨s4, ha⟩
          have lr := hrvp.length
          rw [lr, List.take_length] at ha
          refine ⟨.inl ⟨rfl, _, SqL.of ha⟩, D, _, .bl true, numF bs R p, .bl true, rfl, rfl, SqL.of ha, rfl, ?_, ?_, rfl, ?_, ?_⟩
          · rw [List.all_eq_true]
            intro z hz
            obtain ⟨bb, _, rfl⟩ := List.mem_map.mp hz
            rfl
          · rw [List.getElem?_map, g5]; rfl
          · intro m' z hm' hz
            rw [List.getElem?_map, g6 m' hm'] at hz
            cases hz
            rfl
          have sm4 := sm2.trans s4
          have hx4 := hx2.mono s4
          refine ⟨_, rfl, _, p, rfl, hx4, by omega, fun oc H5 s5 hoc hocl => ?_⟩
          have s05 := sm4.trans s5
          have hx5 := hx4.mono s5
          have s25 := s4.trans s5
          have dl5 := dl2.same s25
          have hw5 := s25 _ _ hw2
          have hp5 : Paired (PlV K H5) vs' ws' := L2.Paired.mapP hp2 fun _ _ => PlV.mono s25
          refine ⟨_, rfl, oc, _, _, .int (chF bs R p), rfl, rfl, SqL.of hocl, atI_nat (by rw [List.getElem?_map, g3]; rfl), ?_⟩
          refine ⟨_, rfl, _, rfl, dl5.put pk_inj' (plV_key hx5) (pk_depth _) (by omega) fun o dl6 t6 => ?_⟩
          rw [addK_new hk] at dl6
          have dl6 := dl6.ext (g := fun k => .int (chF bs R k)) fun k _ => by unfold setF; split <;> rename_i e <;> first | rw [e] | rfl
          have s06 : Same H (upd H5 la o) := same_mut s05 hla
          have hw6 : upd H5 la o wa = some (.lst vs') := (upd_ne (Ne.symm ndw)).trans hw5
          have hp6 : Paired (PlV K (upd H5 la o)) vs' ws' := L2.Paired.mapP hp5 fun _ _ => PlV.tups t6
          have hx6 := hx5.tups t6
          generalize upd H5 la o = H6 at dl6 s06 hw6 hp6 hx6 ⊢
          have tab6 := tab.mono s06
          refine ⟨_, rfl, .inl ⟨rfl, _, SqL.of hw6⟩, _, rfl, _, rfl, tab6.get (s06 _ _ hd) hpk hx6 fun rw2 rvs2 hrw2 hrvp2 hrn2 => ?_⟩
          obtain ⟨lv6, hlv6, hled⟩ := paired_at2 hrvp2 g1
          obtain ⟨a6, l6, rfl, hq6, ⟨zs, hzs, hzp⟩, hn6⟩ := hled
          refine ⟨_, rfl, rw2, _, _, .ref a6, rfl, rfl, SqL.of hrw2, atI_nat hlv6, a6, _, 1, .ref l6, rfl, rfl, hq6, rfl, ?_⟩
          have hpl6 := hp6.length
          have hzl := hzp.length
          have ers : succL bs R p = rs := by unfold succL; rw [g4]
          have l49 := led_len hok hpl (chF bs R p)
          rw [g4] at l49
          have l49 : rs.length ≤ 49 := l49
          have hzl : zs.length = rs.length := hzl
          refine ⟨wa, l6, vs', zs, rfl, rfl, hw6, hzs, size_le (by omega), ?_⟩
          have t7 : Tup K H6 (upd H6 wa (.lst (vs' ++ zs))) := tup_lst hw6
          obtain ⟨m', hlt, hm'⟩ := hm.grow (k := p) (ws2 := ws' ++ rs) (by have := few hok (ks := L ++ [p]) (List.nodup_append.mpr ⟨I.nd, List.nodup_cons.mpr ⟨fun z => (nomatch z), List.nodup_nil⟩, fun a ha c hc e => hk (by rw [List.mem_singleton] at hc; rw [← hc, ← e]; exact ha)⟩) (fun k hk' => (List.mem_append.mp hk').elim (fun z => tab.ok k (I.okl k z).1) fun z => by rw [List.mem_singleton] at z; rw [z]; exact hpo); rw [List.length_append] at this; exact this) (by rw [List.length_append]; omega)
          refine ⟨m', L ++ [p], vs' ++ zs, ws' ++ rs, _, _, _, hlt, hm', ⟨same_mut s06 hwa0, dl6.keep t7 (upd_ne ndw), upd_same, paired_app (L2.Paired.mapP hp6 fun _ _ => PlV.tups t7) (L2.Paired.mapP hzp fun _ _ => PlV.tups t7), fun q hq => ?_, fun q hq => ?_, ?_, ?_, fun k hk' q hq => ?_, ?_⟩, rfl⟩
          · rcases List.mem_append.mp hq with hq | hq
            · exact I.oks q (List.mem_append_left _ hq)
            · exact ⟨hR.closed p hpk (false, rs) (List.mem_of_getElem? g1) q hq, g2 q hq⟩
          · rcases List.mem_append.mp hq with hq | hq
            · exact I.okl q hq
            · rw [List.mem_singleton] at hq; rw [hq]; exact ⟨hpk, hpn⟩
          · exact List.nodup_append.mpr ⟨I.nd, List.nodup_cons.mpr ⟨fun z => (nomatch z), List.nodup_nil⟩, fun a ha c hc e => hk (by rw [List.mem_singleton] at hc; rw [← hc, ← e]; exact ha)⟩
          · rcases I.first with h | h
            · exact .inl (List.mem_append_left _ h)
            · rcases List.mem_append.mp h with h | h
              · exact .inr (List.mem_append_left _ h)
              · exact .inl (List.mem_append_right _ h)
          · rcases List.mem_append.mp hk' with hk' | hk'
            · rcases I.half k hk' q hq with h | h
              · exact .inl (List.mem_append_left _ h)
              · rcases List.mem_append.mp h with h | h
                · exact .inr (List.mem_append_left _ h)
                · exact .inl (List.mem_append_right _ h)
            · rw [List.mem_singleton] at hk'
              subst hk'
              rw [ers] at hq
              exact .inr (List.mem_append_right _ hq)
          · rw [List.length_append, List.length_append, List.length_singleton]
            omega
end
end My
namespace My
open PySem L2
/-! ### keep, answers_at -/
def pickF (R : List Pl) (rk : Pl → Nat) (r : Bool × List Pl) : Option Pl := if r.1 = true then none else (r.2.filter fun q => decide (q ∈ R) && r.2.all fun x => !decide (x ∈ R) || decide (rk q ≤ rk x)).head?
def picksF (bs : List Bd) (R : List Pl) (rk : Pl → Nat) (p : Pl) : List (Option Pl) := (rowF bs p).map (pickF R rk)
theorem pickF_some {R : List Pl} {rk : Pl → Nat} {rs : List Pl} {q : Pl} (h : pickF R rk (false, rs) = some q) : q ∈ rs ∧ q ∈ R ∧ ∀ x ∈ rs, x ∈ R → rk q ≤ rk x := by
  have h : (rs.filter fun q => decide (q ∈ R) && rs.all fun x => !decide (x ∈ R) || decide (rk q ≤ rk x)).head? = some q := h
  have hm := List.mem_of_mem_head? (Option.mem_def.mpr h)
  obtain ⟨h1, h2⟩ := List.mem_filter.mp hm
  have h2 := Bool.and_eq_true_iff.mp h2
  refine ⟨h1, of_decide_eq_true h2.1, fun x hx hxR => ?_⟩
  have h3 := List.all_eq_true.mp h2.2 x hx
  rw [decide_eq_true hxR] at h3
  simpa using h3
theorem pickF_congr {R R' : List Pl} {rk rk' : Pl → Nat} {r : Bool × List Pl} (h : r.1 = false → ∀ q ∈ r.2, (q ∈ R ↔ q ∈ R') ∧ (q ∈ R → rk q = rk' q)) : pickF R rk r = pickF R' rk' r := by
  unfold pickF
  split
  · rfl
  · rename_i hr
    have h := h (by simpa using hr)
    congr 1
    refine List.filter_congr fun q hq => ?_
    obtain ⟨h1, h2⟩ := h q hq
    by_cases hqR : q ∈ R
    · rw [decide_eq_true hqR, decide_eq_true (h1.mp hqR)]
      congr 1
      refine Bool.eq_iff_iff.mpr ?_
      rw [List.all_eq_true, List.all_eq_true]
      constructor
      · intro h3 x hx
        obtain ⟨h4, h5⟩ := h x hx
        have h3 := h3 x hx
        by_cases hxR : x ∈ R
        · rw [decide_eq_true (h4.mp hxR)]
          rw [decide_eq_true hxR] at h3
          rw [← h2 hqR, ← h5 hxR]
          exact h3
        · rw [decide_eq_false (fun z => hxR (h4.mpr z))]
          rfl
      · intro h3 x hx
        obtain ⟨h4, h5⟩ := h x hx
        have h3 := h3 x hx
        by_cases hxR : x ∈ R
        · rw [decide_eq_true (h4.mp hxR), ← h2 hqR, ← h5 hxR] at h3
          rw [decide_eq_true hxR]
          exact h3
        · rw [decide_eq_false hxR]
          rfl
    · rw [decide_eq_false hqR, decide_eq_false (fun z => hqR (h1.mpr z))]
      rfl
def AnsV (K : PySem.W.Frag) (H : Hp) (v : V) (a : Option Pl) : Prop := match a with
  | none => v = .non
  | some q => PlV K H v q
theorem AnsV.tups {K : PySem.W.Frag} {H H' : Hp} (t : Tup K H H') {v : V} {a : Option Pl} (h : AnsV K H v a) : AnsV K H' v a := by
  cases a with
  | none => exact h
  | some q => exact PlV.tups t h
section
variable {P : Program} {w : World} {K : PySem.W.Frag} {mg : Str → Option Value} {base : Heap}
abbrev s_keep : Stmt := top 38
abbrev N_keep : List Str := ["boards", "standing", "told", "start", "table", "ranks"]
theorem sc_keep : FnScope N_keep ["boards", "standing"] (C8.fnScope s_keep) := C8.fnScope_by (by decide +kernel)
def sp_keep (K : PySem.W.Frag) (w : World) : Sp := fun vs H Q _ => ∃ (ba a : Addr) (xs : List V) (bs : List Bd) (start : Pl), vs = [.ref ba, .ref a] ∧ BdsAt K H ba bs ∧ SqT K H a xs ∧ Paired (PairV K H) xs start ∧ okPl bs start ∧ BdsOk bs ∧
  (∀ t l L ch H', Same H H' → H' t = some (.tup [.str "kept", .ref l]) → LotOk bs start L ch → LotAt K H' l ch L → Q (.ref t) H') ∧
  ∀ t ks R rk H', Same H H' → H' t = some (.tup [.str "falls", nV (rk start)]) → Ranks bs start ks R rk → start ∈ R → Q (.ref t) H'
theorem ok_keep {f : Addr} {fd : FuncData} (F : C8.Def K mg "keep" s_keep f fd) (b : Binds K fd ["boards", "standing"] []) (T : Gb mg) (c_checked_boards : C8.Cal P w K mg base 2 "checked_boards" (sp_checked_boards K) []) (c_checked_standing : C8.Cal P w K mg base 2 "checked_standing" (sp_checked_standingT K) []) (c_table_from : C8.Cal P w K mg base 4 "table_from" (sp_table_from K w) []) (c_ranks_in : C8.Cal P w K mg base 2 "ranks_in" (sp_ranks_in K w) []) (c_lot_from : C8.Cal P w K mg base 2 "lot_from" (sp_lot_from K w) []) : C8.Cal P w K mg base 5 "keep" (sp_keep K w) [] := by
  refine C8.cal0 F b .nil sc_keep (fun vs H Q E h => ?_) (fun cdv A outer s H vs Q E hr h => ?_)
  · obtain ⟨ba, a, xs, bs, start, rfl, _⟩ := h
    rfl
  · obtain ⟨ba, a, xs, bs, start, rfl, hB, ha, hxs, hok, hbs, q1, q2⟩ := h
    refine ⟨_, (pss_cons (ps_set (i := 2) sc_keep.nd rfl (Or.inl rfl) (C8.pe_c c_checked_boards hr (by decide) (by rfl) (pa_cons (pv 0) pa_nil)))
(pss_cons (ps_set (i := 3) sc_keep.nd rfl (Or.inl rfl) (C8.pe_c c_checked_standing hr (by decide) (by rfl) (pa_cons (pv 2) (pa_cons (pv 1) pa_nil))))
(pss_cons (ps_set (i := 4) sc_keep.nd rfl (Or.inl rfl) (C8.pe_c c_table_from hr (by decide) (by rfl) (pa_cons (pv 2) (pa_cons (pv 3) pa_nil))))
(pss_cons (ps_set (i := 5) sc_keep.nd rfl (Or.inl rfl) (C8.pe_c c_ranks_in hr (by decide) (by rfl) (pa_cons (pv 4) pa_nil)))
(pss_cons (ps_if (pt_cmpR (op_inNK (K := K) (w := w) rfl rfl (Nat.lt_of_le_of_lt (Nat.add_le_add_left (by decide) _) hr.un)) (pv 3) (pv 5) rfl)
(pss_one (ps_ret (pe_tup (pa_cons (C8.pe_gc (by rfl) T.FALLS) (pa_cons (pe_ix (ix_dNK (K := K) (w := w) rfl rfl (Nat.lt_of_le_of_lt (Nat.add_le_add_left (by decide) _) hr.un)) (pv 5) (pv 3) (fun _ _ => rfl)) pa_nil)))))
pss_nil)
(pss_one (ps_ret (pe_tup (pa_cons (C8.pe_gc (by rfl) T.KEPT) (pa_cons (C8.pe_c c_lot_from hr (by decide) (by rfl) (pa_cons (pv 4) (pa_cons (pv 5) (pa_cons (pv 3) pa_nil)))) pa_nil)))))))))), ?_⟩
    have n2 := hbs.n2
    refine ⟨_, rfl, ba, bs, rfl, hB, hbs, fun l1 H1 s1 hB1 => ?_⟩
    refine ⟨_, rfl, _, rfl, l1, a, xs, bs, start, rfl, hB1, s1.tup ha, L2.Paired.mapP hxs (fun _ _ => PairV.mono s1), hok, by omega, fun v H2 s2 hv => ?_⟩
    refine ⟨_, rfl, _, rfl, l1, v, bs, start, rfl, hB1.mono s2, hv, hbs, hok, fun d kvs ks H3 s3 hdn hd tab hst hcl => ?_⟩
    refine ⟨_, rfl, d, bs, kvs, ks, rfl, hd, tab, hbs, hcl, fun ra R rk H4 s4 hran dr hR => ?_⟩
    have hv4 := (hv.mono s3).mono s4
    have s04 := ((s1.trans s2).trans s3).trans s4
    obtain ⟨vb, vxs, rfl, hvx, hvp⟩ := id hv4
    have RK : Ranks bs start ks R rk := ⟨hR, hcl, hst, tab.ok, tab.nd⟩
    by_cases hin : start ∈ R
    · refine ⟨_, rfl, _, rfl, dr.inT pk_inj' (plV_key hv4) (pk_depth _) hin ⟨_, rfl, ?_⟩⟩
      refine iteT ?_
      refine ⟨_, rfl, _, rfl, dr.get hin (plV_key hv4) (pk_depth _) ⟨by show 2 ≤ sizeLine; decide, fun t ht => ?_⟩⟩
      exact q2 t ks R rk _ (same_new s04 ht) upd_same RK hin
    · refine ⟨_, rfl, _, rfl, dr.inF pk_inj' (plV_key hv4) (pk_depth _) hin ⟨_, rfl, ?_⟩⟩
      refine iteF ?_
      refine ⟨_, rfl, _, rfl, _, rfl, d, ra, _, bs, kvs, ks, R, rk, start, rfl, s4 _ _ hd, tab.mono s4, hbs, dr, RK, hv4, hin, fun l L H5 s5 hln hL hLA => ?_⟩
      refine ⟨by show 2 ≤ sizeLine; decide, fun t ht => ?_⟩
      have s6 := same_new (o := .tup [.str "kept", .ref l]) (Same.refl H5) ht
      exact q1 t l L _ _ ((s04.trans s5).trans s6) upd_same hL (hLA.mono s6)
abbrev s_answers_at : Stmt := top 39
abbrev N_answers_at : List Str := ["row", "ranks", "answers", "risky", "following", "least", "after"]
theorem sc_answers_at : FnScope N_answers_at ["row", "ranks"] (C8.fnScope s_answers_at) := C8.fnScope_by (by decide +kernel)
def sp_answers_at (K : PySem.W.Frag) (w : World) : Sp := fun vs H Q _ => ∃ (v : V) (ra : Addr) (rows : List (Bool × List Pl)) (R : List Pl) (rk : Pl → Nat) (X : List Addr), vs = [v, .ref ra] ∧ RowV K H X v rows ∧ DF K w pk H ra R (fun k => nV (rk k)) ∧ (∀ r ∈ rows, r.1 = false → ∃ q ∈ r.2, q ∈ R) ∧ rows.length ≤ 1000 ∧ (∀ r ∈ rows, r.2.length ≤ 1000) ∧
  ∀ t xs H', Same H H' → H' t = some (.tup xs) → Paired (AnsV K H') xs (rows.map (pickF R rk)) → Q (.ref t) H'
theorem ok_answers_at {f : Addr} {fd : FuncData} (F : C8.Def K mg "answers_at" s_answers_at f fd) (b : Binds K fd ["row", "ranks"] []) (T : Gb mg) : C8.Cal P w K mg base 1 "answers_at" (sp_answers_at K w) [] := by
  refine C8.cal0 F b .nil sc_answers_at (fun vs H Q E h => ?_) (fun cdv A outer s H vs Q E hr h => ?_)
  · obtain ⟨v, ra, rows, R, rk, X, rfl, _⟩ := h
    rfl
  · obtain ⟨v, ra, rows, R, rk, X, rfl, ⟨rw_, rvs, rfl, hrw, hrp, hrn⟩, dr, hfr, hl1, hl2, q⟩ := h
    refine ⟨_, (pss_cons (ps_set (i := 2) sc_answers_at.nd rfl (Or.inl rfl) (pe_lst pa_nil))
(pss_cons (ps_for PassesOwn.never rfl (pi_listK K rfl (pv 0)) (pg_tup (by rfl) (pgs_cons (pg_name (i := 3) sc_answers_at.nd rfl (Or.inl rfl)) (pgs_cons (pg_name (i := 4) sc_answers_at.nd rfl (Or.inl rfl)) pgs_nil)))
(pss_one (ps_if (pt_val (pv 3))
(pss_one (ps_expr (pe_bm PySem.F.plainAttrs_list PySem.F.slot_list_append PySem.F.type_list_append mt_append (pv 2) (pa_cons pe_non pa_nil))))
(pss_cons (ps_set (i := 5) sc_answers_at.nd rfl (Or.inr rfl) (pe_callB (cr_min rfl) (by rfl) T.min (by decide +kernel) (pa_cons (pe_lc (own := [("after", 6)]) rfl sc_answers_at.nd (pi_listK K rfl (pv 4)) (blkOk_by (N := N_answers_at) (sc := C8.fnScope s_answers_at) (by decide +kernel)) (fun _ _ _ _ _ => (pg_name (i := 6) sc_answers_at.nd rfl (Or.inl rfl))) (fun _ _ _ _ _ => (pts_one (pt_cmpR (op_inNK (K := K) (w := w) rfl rfl (Nat.lt_of_le_of_lt (Nat.add_le_add_left (by decide) _) hr.un)) (pv 6) (pv 1) rfl))) (fun _ _ _ _ _ => (pe_ix (ix_dNK (K := K) (w := w) rfl rfl (Nat.lt_of_le_of_lt (Nat.add_le_add_left (by decide) _) hr.un)) (pv 1) (pv 6) (fun _ _ => rfl)))) pa_nil)))
(pss_one (ps_expr (pe_bm PySem.F.plainAttrs_list PySem.F.slot_list_append PySem.F.type_list_append mt_append (pv 2) (pa_cons (pe_ix (ix_listK K rfl) (pe_lc (own := [("after", 6)]) rfl sc_answers_at.nd (pi_listK K rfl (pv 4)) (blkOk_by (N := N_answers_at) (sc := C8.fnScope s_answers_at) (by decide +kernel)) (fun _ _ _ _ _ => (pg_name (i := 6) sc_answers_at.nd rfl (Or.inl rfl))) (fun _ _ _ _ _ => (pts_one (PW.pt (pw_and (pt_cmpR (op_inNK (K := K) (w := w) rfl rfl (Nat.lt_of_le_of_lt (Nat.add_le_add_left (by decide) _) hr.un)) (pv 6) (pv 1) rfl) (pw_and1 (pt_cmpR op_eq (pe_ix (ix_dNK (K := K) (w := w) rfl rfl (Nat.lt_of_le_of_lt (Nat.add_le_add_left (by decide) _) hr.un)) (pv 1) (pv 6) (fun _ _ => rfl)) (pv 5) (nomark _))))))) (fun _ _ _ _ _ => (pv 6))) pe_int (fun _ _ => rfl)) pa_nil))))))))
(pss_one (ps_ret (pe_callTy (call_tupK K rfl) (by rfl) T.tuple (by decide +kernel) (pa_cons (pv 2) pa_nil)))))), ?_⟩
    refine ⟨by show 0 ≤ sizeLine; decide, fun D hD => ?_⟩
    have s0 := same_new (o := .lst []) (Same.refl H) hD
    have lr := hrp.length
    refine ⟨_, rfl, rw_, rfl, ⟨_, SqL.of (s0 _ _ hrw)⟩, for_it (walk_list (xs := rvs)) (fun j σ H' => Same H H' ∧ (∃ acc, H' D = some (.lst acc) ∧ Paired (AnsV K H') acc ((rows.take j).map (pickF R rk))) ∧ ∃ v3 v4 v5 v6, σ = [some (.ref rw_), some (.ref ra), some (.ref D), v3, v4, v5, v6])
      ⟨s0, ⟨[], upd_same, .nil⟩, _, _, _, _, rfl⟩ (fun j σ H' _ h => SqL.of (h.1 _ _ hrw)) ?_ ?_⟩
    · rintro j y σ H1 H1' hj ⟨s1, ⟨acc, ha, hap⟩, v3, v4, v5, v6, rfl⟩ ⟨rfl, hy⟩
      obtain ⟨⟨rb, rs⟩, hr1, hrv⟩ := paired_at hrp hy
      obtain ⟨la, l, rfl, hla, hlr, hln⟩ := hrv.mono s1
      obtain ⟨zs, hzs, hzp⟩ := hlr
      have lz : zs.length = rs.length := hzp.length
      have lacc := hap.length
      rw [List.length_map] at lacc
      have ltk := List.length_take_le' j rows
      have hrm := List.mem_of_getElem? hr1
      have lrs : rs.length ≤ 1000 := hl2 _ hrm
      refine ⟨la, _, rfl, hla, rfl, _, _, rfl, _, _, rfl, rfl, ?_⟩
      rw [take_snoc hr1, List.map_append, List.map_cons, List.map_nil]
      refine ⟨_, rfl, rb, rfl, ?_⟩
      cases rb with
      | true =>
        refine iteT ?_
        refine ⟨_, rfl, .inl ⟨rfl, _, SqL.of ha⟩, D, acc, _, rfl, rfl, ha, size_lt (by omega), ?_⟩
        have t2 : Tup K H1' (upd H1' D (.lst (acc ++ [.non]))) := tup_lst ha
        exact ⟨same_mut s1 hD, ⟨_, upd_same, Paired.snoc (L2.Paired.mapP hap fun _ _ => AnsV.tups t2) rfl⟩, _, _, _, _, rfl⟩
      | false =>
        refine iteF ?_
        -- the least rank
        refine ⟨_, rfl, l, rfl, ⟨_, SqL.of hzs⟩, fun D2 hD2 => lc_it (walk_list (xs := zs)) (fun i H' => Same H1' H' ∧ H' D2 = some (.lst ((((rs.take i).filter fun q => decide (q ∈ R)).map fun q => ((rk q : Nat) : Int)).map V.int)))
          ⟨same_new (Same.refl _) hD2, upd_same⟩ (fun i H' _ h => SqL.of (h.1 _ _ hzs)) ?_ ?_⟩
        · rintro i z H2 H2' hi ⟨s2, ha2⟩ ⟨rfl, hz⟩
          obtain ⟨p, hp, hpv⟩ := paired_at hzp hz
          have hpv := hpv.mono s2
          obtain ⟨xa, xxs, rfl, hxa, hxp⟩ := id hpv
          have dr2 := dr.same (s1.trans s2)
          rw [take_snoc hp, List.filter_append]
          refine ⟨rfl, _, rfl, _, rfl, ?_⟩
          have lf := List.length_filter_le (fun q => decide (q ∈ R)) (rs.take i)
          have lt := List.length_take_le' i rs
          by_cases hin : p ∈ R
          · have e1 : ([p].filter fun q => decide (q ∈ R)) = [p] := List.filter_cons_of_pos (decide_eq_true hin)
            rw [e1]
            refine dr2.inT pk_inj' (plV_key hpv) (pk_depth _) hin ⟨_, rfl, ?_⟩
            refine iteT ?_
            refine ⟨_, rfl, _, rfl, dr2.get hin (plV_key hpv) (pk_depth _) ⟨_, ha2, size_lt (by rw [List.length_map, List.length_map]; omega), same_mut s2 hD2, ?_⟩⟩
            rw [List.map_append, List.map_append]
            exact upd_same
          · have e1 : ([p].filter fun q => decide (q ∈ R)) = [] := List.filter_cons_of_neg (by simpa using hin)
            rw [e1, List.append_nil]
            refine dr2.inF pk_inj' (plV_key hpv) (pk_depth _) hin ⟨_, rfl, ?_⟩
            refine iteF ?_
            exact ⟨s2, ha2⟩
        · rintro H2 ⟨s2, ha2⟩
          rw [lz, List.take_length] at ha2
          obtain ⟨q0, hq0, hq0R⟩ := hfr _ hrm rfl
          have hpos : 0 < ((rs.filter fun q => decide (q ∈ R)).map fun q => ((rk q : Nat) : Int)).length := by
            rw [List.length_map]
            exact List.length_pos_of_mem (List.mem_filter.mpr ⟨hq0, decide_eq_true hq0R⟩)
          refine ⟨D2, _, rfl, SqL.of ha2, hpos, fun m hm hle => ?_⟩
          obtain ⟨qm, hqm, rfl⟩ := List.mem_map.mp hm
          obtain ⟨hqm1, hqm2⟩ := List.mem_filter.mp hqm
          have hqm2 := of_decide_eq_true hqm2
          have hmin : ∀ x ∈ rs, x ∈ R → rk qm ≤ rk x := fun x hx hxR => Int.ofNat_le.mp (hle _ (List.mem_map.mpr ⟨x, List.mem_filter.mpr ⟨hx, decide_eq_true hxR⟩, rfl⟩))
          have s12 := s1.trans s2
          have hD3 : H2 D = some (.lst acc) := s2 _ _ ha
          refine ⟨_, rfl, .inl ⟨rfl, _, SqL.of hD3⟩, ?_⟩
          refine ⟨_, rfl, l, rfl, ⟨_, SqL.of (s2 _ _ hzs)⟩, fun D3 hD3n => lc_it (walk_list (xs := zs)) (fun i H' => Same H2 H' ∧ ∃ ac, H' D3 = some (.lst ac) ∧ Paired (PlV K H') ac ((rs.take i).filter fun q => decide (q ∈ R) && decide (rk q = rk qm)))
            ⟨same_new (Same.refl _) hD3n, [], upd_same, .nil⟩ (fun i H' _ h => SqL.of (h.1 _ _ (s2 _ _ hzs))) ?_ ?_⟩
          · rintro i z H4 H4' hi ⟨s4, ac, ha4, hap4⟩ ⟨rfl, hz⟩
            obtain ⟨p, hp, hpv⟩ := paired_at hzp hz
            have hpv := (hpv.mono s2).mono s4
            obtain ⟨xa, xxs, rfl, hxa, hxp⟩ := id hpv
            have dr4 := dr.same (s12.trans s4)
            rw [take_snoc hp, List.filter_append]
            have l4 := hap4.length
            have lf := List.length_filter_le (fun q => decide (q ∈ R) && decide (rk q = rk qm)) (rs.take i)
            have lt := List.length_take_le' i rs
            refine ⟨rfl, _, rfl, _, rfl, ?_⟩
            by_cases hin : p ∈ R
            · refine dr4.inT pk_inj' (plV_key hpv) (pk_depth _) hin ⟨_, rfl, ?_⟩
              refine iteT ?_
              refine ⟨_, rfl, _, rfl, dr4.get hin (plV_key hpv) (pk_depth _) ⟨_, rfl, rfl, _, rfl, ?_⟩⟩
              rw [dec_int]
              by_cases hz' : ((rk p : Nat) : Int) = rk qm
              · have e1 : ([p].filter fun q => decide (q ∈ R) && decide (rk q = rk qm)) = [p] := List.filter_cons_of_pos (by rw [decide_eq_true hin, decide_eq_true (Int.ofNat.inj hz')]; rfl)
                rw [e1]
                refine ifT hz' ?_
                have t5 : Tup K H4' (upd H4' D3 (.lst (ac ++ [.ref xa]))) := tup_lst ha4
                exact ⟨_, rfl, _, ha4, size_lt (by omega), same_mut s4 hD3n, _, upd_same, Paired.snoc (L2.Paired.mapP hap4 fun _ _ => PlV.tups t5) (hpv.tups t5)⟩
              · have e1 : ([p].filter fun q => decide (q ∈ R) && decide (rk q = rk qm)) = [] := List.filter_cons_of_neg (by rw [decide_eq_true hin, decide_eq_false (fun z => hz' (congrArg _ z))]; exact Bool.false_ne_true)
                rw [e1, List.append_nil]
                refine ifF hz' ?_
                exact ⟨s4, ac, ha4, hap4⟩
            · have e1 : ([p].filter fun q => decide (q ∈ R) && decide (rk q = rk qm)) = [] := List.filter_cons_of_neg (by rw [decide_eq_false hin]; exact Bool.false_ne_true)
              rw [e1, List.append_nil]
              refine dr4.inF pk_inj' (plV_key hpv) (pk_depth _) hin ⟨_, rfl, ?_⟩
              refine iteF ?_
              exact ⟨s4, ac, ha4, hap4⟩
          · rintro H4 ⟨s4, ac, ha4, hap4⟩
            rw [lz, List.take_length] at hap4
            have e2 : (rs.filter fun q => decide (q ∈ R) && decide (rk q = rk qm)) = (rs.filter fun q => decide (q ∈ R) && rs.all fun x => !decide (x ∈ R) || decide (rk q ≤ rk x)) := by
              refine List.filter_congr fun q hq => ?_
              by_cases hqR : q ∈ R
              · rw [decide_eq_true hqR]
                refine Bool.eq_iff_iff.mpr ?_
                rw [Bool.true_and, Bool.true_and, decide_eq_true_eq, List.all_eq_true]
                constructor
                · intro e x hx
                  by_cases hxR : x ∈ R
                  · rw [decide_eq_true hxR, e]; simpa using hmin x hx hxR
                  · rw [decide_eq_false hxR]; rfl
                · intro h3
                  have h4 := h3 qm hqm1
                  rw [decide_eq_true hqm2] at h4
                  have h4 : rk q ≤ rk qm := by simpa using h4
                  exact Nat.le_antisymm h4 (hmin q hq hqR)
              · rw [decide_eq_false hqR]; rfl
            have hmem : qm ∈ rs.filter fun q => decide (q ∈ R) && decide (rk q = rk qm) := List.mem_filter.mpr ⟨hqm1, by rw [decide_eq_true hqm2, decide_eq_true rfl]; rfl⟩
            obtain ⟨qa, qr, eq⟩ : ∃ qa qr, (rs.filter fun q => decide (q ∈ R) && decide (rk q = rk qm)) = qa :: qr := by
              cases h : (rs.filter fun q => decide (q ∈ R) && decide (rk q = rk qm)) with
              | nil => rw [h] at hmem; cases hmem
              | cons a r => exact ⟨a, r, rfl⟩
            have ea : pickF R rk (false, rs) = some qa := by
              show (rs.filter fun q => decide (q ∈ R) && rs.all fun x => !decide (x ∈ R) || decide (rk q ≤ rk x)).head? = some qa
              rw [← e2, eq]
              rfl
            rw [eq] at hap4
            cases hap4 with
            | @cons x _ xs _ hx hxs =>
              refine ⟨D3, _, ((0 : Nat) : Int), x, rfl, rfl, SqL.of ha4, atI_nat rfl, ?_⟩
              have s24 := s2.trans s4
              have hD5 := s24 _ _ ha
              refine ⟨D, acc, _, rfl, rfl, hD5, size_lt (by omega), ?_⟩
              have t6 : Tup K H4 (upd H4 D (.lst (acc ++ [x]))) := tup_lst hD5
              refine ⟨same_mut (s1.trans s24) hD, ⟨_, upd_same, Paired.snoc (L2.Paired.mapP hap fun _ _ h => AnsV.tups t6 (AnsV.tups s24.tups h)) ?_⟩, _, _, _, _, rfl⟩
              rw [ea]
              exact hx.tups t6
    · rintro σ H1 ⟨s1, ⟨acc, ha, hap⟩, v3, v4, v5, v6, rfl⟩
      rw [lr, List.take_length] at hap
      refine ⟨_, rfl, D, acc, rfl, .inl ⟨SqL.of ha, fun t ht => ?_⟩⟩
      have s2 := same_new (o := .tup acc) (Same.refl H1) ht
      exact q t acc _ (s1.trans s2) upd_same (L2.Paired.mapP hap fun _ _ => AnsV.tups s2.tups)
end
end My
namespace My
open PySem L2
/-! ### fall_rows -/
theorem exists_min {α : Type} (f : α → Nat) : ∀ (l : List α), l ≠ [] → ∃ q ∈ l, ∀ x ∈ l, f q ≤ f x
  | [], h => absurd rfl h
  | [a], _ => ⟨a, List.mem_cons_self, fun x hx => by rw [List.mem_singleton] at hx; rw [hx]; exact Nat.le_refl _⟩
  | a :: b :: l, _ => by
    obtain ⟨q, hq, h⟩ := exists_min f (b :: l) (List.cons_ne_nil _ _)
    by_cases e : f a ≤ f q
    · refine ⟨a, List.mem_cons_self, fun x hx => ?_⟩
      rcases List.mem_cons.mp hx with rfl | hx
      · exact Nat.le_refl _
      · exact Nat.le_trans e (h x hx)
    · refine ⟨q, List.mem_cons_of_mem _ hq, fun x hx => ?_⟩
      rcases List.mem_cons.mp hx with rfl | hx
      · omega
      · exact h x hx
theorem RankOk.pick {bs : List Bd} {ks R : List Pl} {rk : Pl → Nat} (h : RankOk bs ks R rk) {p : Pl} (hp : p ∈ R) {r : Bool × List Pl} (hr : r ∈ rowF bs p) : (r.1 = true → pickF R rk r = none) ∧ (r.1 = false → ∃ q, pickF R rk r = some q ∧ q ∈ r.2 ∧ q ∈ R ∧ rk q < rk p) := by
  refine ⟨fun e => if_pos e, fun e => ?_⟩
  obtain ⟨rb, rs⟩ := r
  have e : rb = false := e
  subst e
  obtain ⟨n, hn⟩ := List.mem_iff_getElem?.mp hr
  obtain ⟨q0, h1, h2, h3⟩ := (h.low p hp).2.2 n rs hn
  obtain ⟨qm, hm, hmin⟩ := exists_min rk (rs.filter fun q => decide (q ∈ R)) (List.ne_nil_of_mem (List.mem_filter.mpr ⟨h1, decide_eq_true h2⟩))
  obtain ⟨hm1, hm2⟩ := List.mem_filter.mp hm
  have hmem : qm ∈ rs.filter fun q => decide (q ∈ R) && rs.all fun x => !decide (x ∈ R) || decide (rk q ≤ rk x) := by
    refine List.mem_filter.mpr ⟨hm1, ?_⟩
    rw [hm2, Bool.true_and, List.all_eq_true]
    intro x hx
    by_cases hxR : x ∈ R
    · rw [decide_eq_true hxR, decide_eq_true (hmin x (List.mem_filter.mpr ⟨hx, decide_eq_true hxR⟩))]; rfl
    · rw [decide_eq_false hxR]; rfl
  have hsome : ∃ q, pickF R rk (false, rs) = some q := by
    show ∃ q, (rs.filter fun q => decide (q ∈ R) && rs.all fun x => !decide (x ∈ R) || decide (rk q ≤ rk x)).head? = some q
    cases hl : (rs.filter fun q => decide (q ∈ R) && rs.all fun x => !decide (x ∈ R) || decide (rk q ≤ rk x)) with
    | nil => rw [hl] at hmem; cases hmem
    | cons a l => exact ⟨a, rfl⟩
  obtain ⟨q, hq⟩ := hsome
  obtain ⟨g1, g2, g3⟩ := pickF_some hq
  exact ⟨q, hq, g1, g2, Nat.lt_of_le_of_lt (g3 q0 h1 h2) h3⟩
theorem Ranks.agree {bs : List Bd} {s s' : Pl} {ks ks' R R' : List Pl} {rk rk' : Pl → Nat} (h : Ranks bs s ks R rk) (h' : Ranks bs s' ks' R' rk') {q : Pl} (hq : q ∈ ks) (hq' : q ∈ ks') : (q ∈ R ↔ q ∈ R') ∧ (q ∈ R → rk q = rk' q) := by
  have a : q ∈ R → q ∈ R' ∧ rk' q ≤ rk q := fun z => h.ok.le h'.ok h'.closed _ q (Nat.le_refl _) z hq'
  have b : q ∈ R' → q ∈ R ∧ rk q ≤ rk' q := fun z => h'.ok.le h.ok h.closed _ q (Nat.le_refl _) z hq
  exact ⟨⟨fun z => (a z).1, fun z => (b z).1⟩, fun z => Nat.le_antisymm (b (a z).1).2 (a z).2⟩
theorem Ranks.picks {bs : List Bd} {s s' : Pl} {ks ks' R R' : List Pl} {rk rk' : Pl → Nat} (h : Ranks bs s ks R rk) (h' : Ranks bs s' ks' R' rk') {p : Pl} (hp : p ∈ ks) (hp' : p ∈ ks') : picksF bs R rk p = picksF bs R' rk' p := by
  unfold picksF
  refine List.map_congr_left fun r hr => pickF_congr fun e q hq => ?_
  have hs : q ∈ succs r := by unfold succs; rw [e]; exact hq
  exact h.agree h' (h.closed p hp r hr q hs) (h'.closed p hp' r hr q hs)
/-- v is a row of the paper: the rank and the answers -/
def RowT (K : PySem.W.Frag) (H : Hp) (v : V) (r : Nat) (as : List (Option Pl)) : Prop := ∃ t aa xs, v = .ref t ∧ SqT K H t [nV r, .ref aa] ∧ SqT K H aa xs ∧ Paired (AnsV K H) xs as
theorem RowT.tups {K : PySem.W.Frag} {H H' : Hp} (s : Tup K H H') {v : V} {r : Nat} {as : List (Option Pl)} (h : RowT K H v r as) : RowT K H' v r as := let ⟨t, aa, xs, e, h1, h2, h3⟩ := h; ⟨t, aa, xs, e, s _ _ h1, s _ _ h2, L2.Paired.mapP h3 fun _ _ => AnsV.tups s⟩
/-- the standings of a paper -/
structure PapL (bs : List Bd) (start : Pl) (ks R : List Pl) (rk : Pl → Nat) (L : List Pl) : Prop where
  nd : L.Nodup
  start : start ∈ L
  sub : ∀ k ∈ L, k ∈ ks ∧ k ∈ R
  closed : ∀ k ∈ L, ∀ q, some q ∈ picksF bs R rk k → q ∈ L
structure LoopF (K : PySem.W.Frag) (w : World) (H : Hp) (bs : List Bd) (ks ks' R : List Pl) (rk : Pl → Nat) (start : Pl) (rd wa : Addr) (H' : Hp) (L : List Pl) (f : Pl → V) (vs : List V) (ws : List Pl) : Prop where
  same : Same H H'
  dl : DF K w pk H' rd L f
  rows : ∀ k ∈ L, RowT K H' (f k) (rk k) (picksF bs R rk k)
  atw : H' wa = some (.lst vs)
  pls : Paired (PlV K H') vs ws
  oks : ∀ q ∈ ws, q ∈ ks ∧ q ∈ ks' ∧ q ∈ R
  okl : ∀ q ∈ L, q ∈ ks ∧ q ∈ ks' ∧ q ∈ R
  nd : L.Nodup
  first : start ∈ L ∨ start ∈ ws
  half : ∀ k ∈ L, ∀ q, some q ∈ picksF bs R rk k → q ∈ L ∨ q ∈ ws
  len : ws.length ≤ 1 + L.length * 147
section
variable {P : Program} {w : World} {K : PySem.W.Frag} {mg : Str → Option Value} {base : Heap}
abbrev s_fall_rows : Stmt := top 40
abbrev N_fall_rows : List Str := ["boards", "start", "table", "ranks", "rows", "waiting", "place", "answers", "after"]
theorem sc_fall_rows : FnScope N_fall_rows ["boards", "start"] (C8.fnScope s_fall_rows) := C8.fnScope_by (by decide +kernel)
def sp_fall_rows (K : PySem.W.Frag) (w : World) : Sp := fun vs H Q _ => ∃ (ba : Addr) (v : V) (bs : List Bd) (start : Pl) (ks R : List Pl) (rk : Pl → Nat), vs = [.ref ba, v] ∧ BdsAt K H ba bs ∧ PlV K H v start ∧ BdsOk bs ∧ okPl bs start ∧ Ranks bs start ks R rk ∧ start ∈ R ∧
  ∀ rd L f H', Same H H' → H rd = none → DF K w pk H' rd L f → (∀ k ∈ L, RowT K H' (f k) (rk k) (picksF bs R rk k)) → PapL bs start ks R rk L → Q (.ref rd) H'
theorem ok_fall_rows {f : Addr} {fd : FuncData} (F : C8.Def K mg "fall_rows" s_fall_rows f fd) (b : Binds K fd ["boards", "start"] []) (T : Gb mg) (c_table_from : C8.Cal P w K mg base 4 "table_from" (sp_table_from K w) []) (c_ranks_in : C8.Cal P w K mg base 2 "ranks_in" (sp_ranks_in K w) []) (c_answers_at : C8.Cal P w K mg base 1 "answers_at" (sp_answers_at K w) []) : C8.Cal P w K mg base 5 "fall_rows" (sp_fall_rows K w) [] := by
  refine C8.cal0 F b .nil sc_fall_rows (fun vs H Q E h => ?_) (fun cdv A outer s H vs Q E hr h => ?_)
  · obtain ⟨ba, v, bs, start, ks, R, rk, rfl, _⟩ := h
    rfl
  · obtain ⟨ba, v, bs, start, ks, R, rk, rfl, hB, hv, hbs, hok, RK, hin, q⟩ := h
    refine ⟨_, (pss_cons (ps_set (i := 2) sc_fall_rows.nd rfl (Or.inl rfl) (C8.pe_c c_table_from hr (by decide) (by rfl) (pa_cons (pv 0) (pa_cons (pv 1) pa_nil))))
(pss_cons (ps_set (i := 3) sc_fall_rows.nd rfl (Or.inl rfl) (C8.pe_c c_ranks_in hr (by decide) (by rfl) (pa_cons (pv 2) pa_nil)))
(pss_cons (ps_if (pt_cmpR (op_notInNK (K := K) (w := w) rfl rfl (Nat.lt_of_le_of_lt (Nat.add_le_add_left (by decide) _) hr.un)) (pv 1) (pv 3) rfl)
(pss_one ps_never)
pss_nil)
(pss_cons (ps_set (i := 4) sc_fall_rows.nd rfl (Or.inl rfl) (pe_newNK (w := w) rfl))
(pss_cons (ps_set (i := 5) sc_fall_rows.nd rfl (Or.inl rfl) (pe_lst (pa_cons (pv 1) pa_nil)))
(pss_cons (ps_while PassesOwn.never (pt_truth (pv 5) (by intro _; rfl))
(pss_cons (ps_set (i := 6) sc_fall_rows.nd rfl (Or.inl rfl) (pe_bm0 PySem.F.plainAttrs_list PySem.F.slot_list_pop PySem.F.type_list_pop mt_pop (pv 5)))
(pss_one (ps_if (pt_cmpR (op_notInNK (K := K) (w := w) rfl rfl (Nat.lt_of_le_of_lt (Nat.add_le_add_left (by decide) _) hr.un)) (pv 6) (pv 4) rfl)
(pss_cons (ps_set (i := 7) sc_fall_rows.nd rfl (Or.inl rfl) (C8.pe_c c_answers_at hr (by decide) (by rfl) (pa_cons (pe_ix (ix_dNK (K := K) (w := w) rfl rfl (Nat.lt_of_le_of_lt (Nat.add_le_add_left (by decide) _) hr.un)) (pv 2) (pv 6) (fun _ _ => rfl)) (pa_cons (pv 3) pa_nil))))
(pss_cons (ps_asg (pe_tup (pa_cons (pe_ix (ix_dNK (K := K) (w := w) rfl rfl (Nat.lt_of_le_of_lt (Nat.add_le_add_left (by decide) _) hr.un)) (pv 3) (pv 6) (fun _ _ => rfl)) (pa_cons (pv 7) pa_nil))) (pg_sub (pv 4) (pv 6) (set_NK (K := K) (w := w) rfl rfl (Nat.lt_of_le_of_lt (Nat.add_le_add_left (by decide) _) hr.un))))
(pss_one (ps_expr (pe_bm PySem.F.plainAttrs_list PySem.F.slot_list_extend PySem.F.type_list_extend mt_extend (pv 5) (pa_cons (pe_lc (own := [("after", 8)]) rfl sc_fall_rows.nd (pi_tupK K rfl (pv 7)) (blkOk_by (N := N_fall_rows) (sc := C8.fnScope s_fall_rows) (by decide +kernel)) (fun _ _ _ _ _ => (pg_name (i := 8) sc_fall_rows.nd rfl (Or.inl rfl))) (fun _ _ _ _ _ => (pts_one (pt_cmpR op_notN (pv 8) pe_non (nomark _)))) (fun _ _ _ _ _ => (pv 8))) pa_nil))))))
pss_nil))))
(pss_one (ps_ret (pv 4))))))))), ?_⟩
    have n2 := hbs.n2
    refine ⟨_, rfl, _, rfl, ba, v, bs, start, rfl, hB, hv, hbs, hok, fun d kvs ks' H1 s1 hdn hd tab hst hcl => ?_⟩
    refine ⟨_, rfl, d, bs, kvs, ks', rfl, hd, tab, hbs, hcl, fun ra R' rk' H2 s2 hran dr hR => ?_⟩
    have RK' : Ranks bs start ks' R' rk' := ⟨hR, hcl, hst, tab.ok, tab.nd⟩
    have hv2 := (hv.mono s1).mono s2
    have s02 := s1.trans s2
    have hd2 := s2 _ _ hd
    have tab2 := tab.mono s2
    have hin' : start ∈ R' := ((RK.agree RK' RK.start hst).1).mp hin
    obtain ⟨vb, vxs, rfl, hvx, hvp⟩ := id hv2
    refine ⟨_, rfl, _, rfl, dr.notF pk_inj' (plV_key hv2) (pk_depth _) hin' ⟨_, rfl, ?_⟩⟩
    refine iteF ?_
    intro rd hrd
    refine ⟨_, rfl, by show 1 ≤ sizeLine; decide, fun wa hwa => ?_⟩
    have sd := same_new (o := DnO w rd []) (Same.refl H2) hrd
    have sm0 := same_new (o := .lst [.ref vb]) sd hwa
    have hwa0 : H2 wa = none := sd.free hwa
    have ndw : rd ≠ wa := ne_of_none' upd_same hwa
    refine ⟨fun m σ H' => ∃ L f vs ws v6 v7 v8, Mu m L ws ∧ LoopF K w H2 bs ks ks' R rk start rd wa H' L f vs ws ∧ σ = [some (.ref ba), some (.ref vb), some (.ref d), some (.ref ra), some (.ref rd), some (.ref wa), v6, v7, v8],
      ⟨_, _, fun _ => .non, _, _, _, _, _, ⟨rfl⟩, ⟨sm0, (DF.nil _).same (same_new (Same.refl _) hwa), fun k hk => (nomatch hk), upd_same, .cons (hv2.mono sm0) .nil, fun q hq => by rw [List.mem_singleton] at hq; rw [hq]; exact ⟨RK.start, hst, hin⟩, fun q hq => (nomatch hq), List.nodup_nil, .inr List.mem_cons_self, fun k hk => (nomatch hk), Nat.le_refl _⟩, rfl⟩, ?_⟩
    rintro m σ H3 ⟨L, f, vs, ws, v6, v7, v8, hm, I, rfl⟩
    have lv := I.pls.length
    have hL : L.length ≤ 441 := few hbs I.nd fun k hk => RK.pls k (I.okl k hk).1
    have lw := I.len
    cases hws : ws with
    | nil =>
      subst hws
      have e : vs = [] := List.length_eq_zero_iff.mp lv
      subst e
      refine ⟨_, rfl, false, .inl ⟨[], SqL.of I.atw, rfl⟩, ?_⟩
      refine iteF ?_
      exact ⟨_, rfl, q rd L f H3 (s02.trans I.same) (s02.free hrd) I.dl I.rows ⟨I.nd, I.first.elim id (fun z => (nomatch z)), fun k hk => ⟨(I.okl k hk).1, (I.okl k hk).2.2⟩, fun k hk q' hq' => (I.half k hk q' hq').elim id fun z => (nomatch z)⟩⟩
    | cons w0 wr =>
      have hne : ws ≠ [] := by rw [hws]; exact List.cons_ne_nil _ _
      clear hws
      obtain ⟨vs', x, ws', p, rfl, rfl, hp', hx⟩ := paired_last I.pls hne
      refine ⟨_, rfl, true, .inl ⟨_, SqL.of I.atw, nonempty_snoc _ _⟩, ?_⟩
      refine iteT ?_
      refine ⟨fun σ' H' => ∃ m' L' f' vs2 ws2 v6 v7 v8, m' < m ∧ Mu m' L' ws2 ∧ LoopF K w H2 bs ks ks' R rk start rd wa H' L' f' vs2 ws2 ∧ σ' = [some (.ref ba), some (.ref vb), some (.ref d), some (.ref ra), some (.ref rd), some (.ref wa), v6, v7, v8],
        fun σ' H' ⟨m', L', f', vs2, ws2, v6, v7, v8, hlt, hm', I', e⟩ => ⟨m', hlt, L', f', vs2, ws2, v6, v7, v8, hm', I', e⟩, ?_⟩
      refine ⟨_, rfl, .inl ⟨rfl, _, SqL.of I.atw⟩, wa, _, x, rfl, rfl, I.atw, at_last_snoc _ _, ?_⟩
      rw [List.dropLast_concat]
      have t4 : Tup K H3 (upd H3 wa (.lst vs')) := tup_lst I.atw
      have sm4 : Same H2 (upd H3 wa (.lst vs')) := same_mut I.same hwa0
      have hx4 := hx.tups t4
      have dl4 := I.dl.keep t4 (upd_ne (o := .lst vs') ndw)
      have ro4 : ∀ k ∈ L, RowT K (upd H3 wa (.lst vs')) (f k) (rk k) (picksF bs R rk k) := fun k hk => (I.rows k hk).tups t4
      have hw4 : upd H3 wa (.lst vs') wa = some (.lst vs') := upd_same
      have hp4 : Paired (PlV K (upd H3 wa (.lst vs'))) vs' ws' := L2.Paired.mapP hp' fun _ _ => PlV.tups t4
      generalize upd H3 wa (.lst vs') = H4 at sm4 hx4 dl4 ro4 hw4 hp4 ⊢
      clear t4
      obtain ⟨hpk, hpk', hpR⟩ := I.oks p (List.mem_append_right _ List.mem_cons_self)
      have hpo := RK.pls p hpk
      have hpl := okPl_len hpo
      have hpR' : p ∈ R' := ((RK.agree RK' hpk hpk').1).mp hpR
      have erk : rk' p = rk p := ((RK.agree RK' hpk hpk').2 hpR).symm
      have epk : picksF bs R' rk' p = picksF bs R rk p := (RK.picks RK' hpk hpk').symm
      obtain ⟨xb, xxs, rfl, hxx⟩ := id hx4
      have lap : (ws' ++ [p]).length = ws'.length + 1 := by rw [List.length_append]; rfl
      by_cases hk : p ∈ L
      · refine ⟨_, rfl, _, rfl, dl4.notF pk_inj' (plV_key hx4) (pk_depth _) hk ⟨_, rfl, ?_⟩⟩
        refine iteF ?_
        obtain ⟨m', hlt, hm'⟩ := hm.pop
        refine ⟨m', L, f, vs', ws', _, _, _, hlt, hm', ⟨sm4, dl4, ro4, hw4, hp4, fun q hq => I.oks q (List.mem_append_left _ hq), I.okl, I.nd, ?_, fun k hk' q hq => ?_, by omega⟩, rfl⟩
        · rcases I.first with h | h
          · exact .inl h
          · rcases List.mem_append.mp h with h | h
            · exact .inr h
            · rw [List.mem_singleton] at h
              exact .inl (h ▸ hk)
        · rcases I.half k hk' q hq with h | h
          · exact .inl h
          · rcases List.mem_append.mp h with h | h
            · exact .inr h
            · rw [List.mem_singleton] at h
              exact .inl (h ▸ hk)
      · refine ⟨_, rfl, _, rfl, dl4.notT pk_inj' (plV_key hx4) (pk_depth _) hk ⟨_, rfl, ?_⟩⟩
        refine iteT ?_
        have tab4 := tab2.mono sm4
        have dr4 := dr.same sm4
        have lrow : (rowF bs p).length = (ableI p).length := List.length_map _
        have lable := able_len p
        refine ⟨_, rfl, _, rfl, tab4.get (sm4 _ _ hd2) hpk' hx4 fun rw_ rvs hrw hrvp hrn => ?_⟩
        refine ⟨_, rfl, _, ra, rowF bs p, R', rk', _, rfl, ⟨rw_, rvs, rfl, hrw, hrvp, hrn⟩, dr4, fun r hr e => ?_, by omega, fun r hr => ?_, fun t xs H5 s5 ht hxs => ?_⟩
        · obtain ⟨q', _, h1, h2, _⟩ := (hR.pick hpR' hr).2 e
          exact ⟨q', h1, h2⟩
        · obtain ⟨c, _, rfl⟩ := List.mem_map.mp hr
          have := led_len hbs hpl c
          omega
        · have hx5 := hx4.mono s5
          have dr5 := dr4.same s5
          refine ⟨_, rfl, _, rfl, dr5.get hpR' (plV_key hx5) (pk_depth _) ?_⟩
          refine ⟨_, rfl, by show 2 ≤ sizeLine; decide, fun t2 ht2 => ?_⟩
          have s6 := same_new (o := .tup [nV (rk' p), .ref t]) (Same.refl H5) ht2
          have ht6 : upd H5 t2 (.tup [nV (rk' p), .ref t]) t2 = some (.tup [nV (rk' p), .ref t]) := upd_same
          have s46 := s5.trans s6
          have sm6 := sm4.trans s46
          have dl6 := dl4.same s46
          have hx6 := hx5.mono s6
          have ht6' := s6 _ _ ht
          have hw6 := s46 _ _ hw4
          have hxs6 : Paired (AnsV K (upd H5 t2 (.tup [nV (rk' p), .ref t]))) xs (picksF bs R rk p) := by
            rw [← epk]
            exact L2.Paired.mapP hxs fun _ _ => AnsV.tups s6.tups
          have hp6 : Paired (PlV K (upd H5 t2 (.tup [nV (rk' p), .ref t]))) vs' ws' := L2.Paired.mapP hp4 fun _ _ => PlV.mono s46
          have ro6 : ∀ k ∈ L, RowT K (upd H5 t2 (.tup [nV (rk' p), .ref t])) (f k) (rk k) (picksF bs R rk k) := fun k hk => (ro4 k hk).tups s46.tups
          generalize upd H5 t2 (.tup [nV (rk' p), .ref t]) = H6 at s6 ht6 s46 sm6 dl6 hx6 ht6' hw6 hxs6 hp6 ro6 ⊢
          rw [erk] at ht6
          refine ⟨_, rfl, _, rfl, dl6.put pk_inj' (plV_key hx6) (pk_depth _) (by omega) fun o dl7 t7 => ?_⟩
          rw [addK_new hk] at dl7
          have sm7 : Same H2 (upd H6 rd o) := same_mut sm6 hrd
          have hw7 : upd H6 rd o wa = some (.lst vs') := (upd_ne (Ne.symm ndw)).trans hw6
          have hp7 : Paired (PlV K (upd H6 rd o)) vs' ws' := L2.Paired.mapP hp6 fun _ _ => PlV.tups t7
          have hxs7 : Paired (AnsV K (upd H6 rd o)) xs (picksF bs R rk p) := L2.Paired.mapP hxs6 fun _ _ => AnsV.tups t7
          have ht7 : SqT K (upd H6 rd o) t xs := t7 _ _ (SqT.of ht6')
          have ht27 : SqT K (upd H6 rd o) t2 [nV (rk p), .ref t] := t7 _ _ (SqT.of ht6)
          have ro7 : ∀ k ∈ L ++ [p], RowT K (upd H6 rd o) (setF f p (.ref t2) k) (rk k) (picksF bs R rk k) := fun k hk' => by
            unfold setF
            by_cases e : k = p
            · rw [if_pos e, e]; exact ⟨t2, t, xs, rfl, ht27, ht7, hxs7⟩
            · rw [if_neg e]
              rcases List.mem_append.mp hk' with hk' | hk'
              · exact (ro6 k hk').tups t7
              · rw [List.mem_singleton] at hk'; exact absurd hk' e
          generalize upd H6 rd o = H7 at dl7 sm7 hw7 hp7 hxs7 ht7 ht27 ro7 ⊢
          generalize setF f p (.ref t2) = f7 at dl7 ro7
          have lxs := hxs7.length
          have lpk : (picksF bs R rk p).length = (rowF bs p).length := List.length_map _
          refine ⟨_, rfl, .inl ⟨rfl, _, SqL.of hw7⟩, _, rfl, t, rfl, ⟨_, ht7⟩, fun D hD => lc_it (walk_tup (xs := xs)) (fun j H' => Same H7 H' ∧ ∃ ac, H' D = some (.lst ac) ∧ Paired (PlV K H') ac (((picksF bs R rk p).take j).filterMap id))
            ⟨same_new (Same.refl _) hD, [], upd_same, .nil⟩ (fun j H' _ h => h.1.tup ht7) ?_ ?_⟩
          · rintro j y H8 H8' hj ⟨s8, ac, ha8, hap8⟩ ⟨rfl, hy⟩
            obtain ⟨a, ha, hav⟩ := paired_at hxs7 hy
            have hav := hav.tups s8.tups
            have lac := hap8.length
            have lf := List.length_filterMap_le id ((picksF bs R rk p).take j)
            have ltk := List.length_take_le' j (picksF bs R rk p)
            rw [take_snoc ha, List.filterMap_append]
            refine ⟨rfl, _, rfl, rfl, _, rfl, ?_⟩
            cases a with
            | none =>
              have e : y = .non := hav
              subst e
              refine ifNF rfl ?_
              refine ⟨s8, ac, ha8, ?_⟩
              show Paired (PlV K H8') ac (_ ++ [])
              rw [List.append_nil]
              exact hap8
            | some q' =>
              have hav : PlV K H8' y q' := hav
              obtain ⟨ya, yxs, rfl, hya, hyp⟩ := id hav
              refine ifNT (fun z => nomatch z) ?_
              have t9 : Tup K H8' (upd H8' D (.lst (ac ++ [.ref ya]))) := tup_lst ha8
              exact ⟨_, rfl, ac, ha8, size_lt (by omega), same_mut s8 hD, _, upd_same, Paired.snoc (L2.Paired.mapP hap8 fun _ _ => PlV.tups t9) (hav.tups t9)⟩
          · rintro H8 ⟨s8, ac, ha8, hap8⟩
            rw [lxs, List.take_length] at hap8
            have lac := hap8.length
            have lf := List.length_filterMap_le id (picksF bs R rk p)
            have hw8 := s8 _ _ hw7
            have hp8 := hp7.length
            refine ⟨wa, D, vs', ac, rfl, rfl, hw8, ha8, size_le (by omega), ?_⟩
            have t9 : Tup K H8 (upd H8 wa (.lst (vs' ++ ac))) := tup_lst hw8
            have nd9 : (L ++ [p]).Nodup := List.nodup_append.mpr ⟨I.nd, List.nodup_cons.mpr ⟨fun z => (nomatch z), List.nodup_nil⟩, fun a ha c hc e => hk (by rw [List.mem_singleton] at hc; rw [← hc, ← e]; exact ha)⟩
            obtain ⟨m', hlt, hm'⟩ := hm.grow (k := p) (ws2 := ws' ++ (picksF bs R rk p).filterMap id) (by have := few hbs (ks := L ++ [p]) nd9 (fun k hk' => (List.mem_append.mp hk').elim (fun z => RK.pls k (I.okl k z).1) fun z => by rw [List.mem_singleton] at z; rw [z]; exact hpo); rw [List.length_append] at this; exact this) (by rw [List.length_append]; omega)
            refine ⟨m', L ++ [p], f7, vs' ++ ac, _, _, _, _, hlt, hm', ⟨same_mut (sm7.trans s8) hwa0, (dl7.same s8).keep t9 (upd_ne ndw), fun k hk => (ro7 k hk).tups (s8.tups.trans t9), upd_same, paired_app (L2.Paired.mapP hp7 fun _ _ h => (h.mono s8).tups t9) (L2.Paired.mapP hap8 fun _ _ => PlV.tups t9), fun q hq => ?_, fun q hq => ?_, nd9, ?_, fun k hk' q hq => ?_, ?_⟩, rfl⟩
            · rcases List.mem_append.mp hq with hq | hq
              · exact I.oks q (List.mem_append_left _ hq)
              · obtain ⟨a, ha, e⟩ := List.mem_filterMap.mp hq
                have e : a = some q := e
                subst e
                obtain ⟨r, hr, er⟩ := List.mem_map.mp ha
                cases hrb : r.1 with
                | true => rw [(RK.ok.pick hpR hr).1 hrb] at er; cases er
                | false =>
                  obtain ⟨q', e', h1, h2, _⟩ := (RK.ok.pick hpR hr).2 hrb
                  rw [e'] at er
                  cases er
                  have hs : q ∈ succs r := by unfold succs; rw [hrb]; exact h1
                  exact ⟨RK.closed p hpk r hr q hs, RK'.closed p hpk' r hr q hs, h2⟩
            · rcases List.mem_append.mp hq with hq | hq
              · exact I.okl q hq
              · rw [List.mem_singleton] at hq; rw [hq]; exact ⟨hpk, hpk', hpR⟩
            · rcases I.first with h | h
              · exact .inl (List.mem_append_left _ h)
              · rcases List.mem_append.mp h with h | h
                · exact .inr (List.mem_append_left _ h)
                · exact .inl (List.mem_append_right _ h)
            · rcases List.mem_append.mp hk' with hk' | hk'
              · rcases I.half k hk' q hq with h | h
                · exact .inl (List.mem_append_left _ h)
                · rcases List.mem_append.mp h with h | h
                  · exact .inr (List.mem_append_left _ h)
                  · exact .inl (List.mem_append_right _ h)
              · rw [List.mem_singleton] at hk'
                subst hk'
                exact .inr (List.mem_append_right _ (List.mem_filterMap.mpr ⟨_, hq, rfl⟩))
            · rw [List.length_append, List.length_append, List.length_singleton]
              omega
end
end My
namespace My
open PySem L2
/-! ### fall_paper, course -/
def PapV (K : PySem.W.Frag) (H : Hp) (bs : List Bd) (R : List Pl) (rk : Pl → Nat) (v : V) (p : Pl) : Prop := ∃ a xv aa xs, v = .ref a ∧ SqT K H a [xv, nV (rk p), .ref aa] ∧ PlV K H xv p ∧ SqT K H aa xs ∧ Paired (AnsV K H) xs (picksF bs R rk p)
theorem PapV.tups {K : PySem.W.Frag} {H H' : Hp} {bs : List Bd} {R : List Pl} {rk : Pl → Nat} (s : Tup K H H') {v : V} {p : Pl} (h : PapV K H bs R rk v p) : PapV K H' bs R rk v p := let ⟨a, xv, aa, xs, e, h1, h2, h3, h4⟩ := h; ⟨a, xv, aa, xs, e, s _ _ h1, h2.tups s, s _ _ h3, L2.Paired.mapP h4 fun _ _ => AnsV.tups s⟩
def PapAt (K : PySem.W.Frag) (H : Hp) (l : Addr) (bs : List Bd) (R : List Pl) (rk : Pl → Nat) (L : List Pl) : Prop := ∃ vs, H l = some (.lst vs) ∧ Paired (PapV K H bs R rk) vs L
theorem PapAt.mono {K : PySem.W.Frag} {H H' : Hp} {l : Addr} {bs : List Bd} {R : List Pl} {rk : Pl → Nat} {L : List Pl} (s : Same H H') (h : PapAt K H l bs R rk L) : PapAt K H' l bs R rk L := let ⟨vs, e, q⟩ := h; ⟨vs, s _ _ e, L2.Paired.mapP q fun _ _ => PapV.tups s.tups⟩
/-! ### along a hand -/
def courseF (bs : List Bd) (R : List Pl) (rk : Pl → Nat) : Pl → List Int → List Pl × Bool
  | p, [] => ([p], false)
  | p, c :: hs => match (picksF bs R rk p)[(ableI p).idxOf c]? with
    | some (some q) => (p :: (courseF bs R rk q hs).1, (courseF bs R rk q hs).2)
    | _ => ([p], true)
def courseOk (bs : List Bd) (R : List Pl) (rk : Pl → Nat) : Pl → List Int → Prop
  | _, [] => True
  | p, c :: hs => c ∈ ableI p ∧ ∀ q, (picksF bs R rk p)[(ableI p).idxOf c]? = some (some q) → courseOk bs R rk q hs
theorem courseF_go {bs : List Bd} {R : List Pl} {rk : Pl → Nat} {p q : Pl} {c : Int} {hs : List Int} (e : (picksF bs R rk p)[(ableI p).idxOf c]? = some (some q)) : courseF bs R rk p (c :: hs) = (p :: (courseF bs R rk q hs).1, (courseF bs R rk q hs).2) := by
  show (match (picksF bs R rk p)[(ableI p).idxOf c]? with | some (some q) => _ | _ => _) = _
  rw [e]
theorem courseF_end {bs : List Bd} {R : List Pl} {rk : Pl → Nat} {p : Pl} {c : Int} {hs : List Int} (e : (picksF bs R rk p)[(ableI p).idxOf c]? = some none) : courseF bs R rk p (c :: hs) = ([p], true) := by
  show (match (picksF bs R rk p)[(ableI p).idxOf c]? with | some (some q) => _ | _ => _) = _
  rw [e]
theorem inV_ints {c : Int} {l : List Int} : inV (.int c) (l.map V.int) = decide (c ∈ l) := by
  unfold inV
  rw [List.any_map]
  refine Bool.eq_iff_iff.mpr ?_
  rw [List.any_eq_true, decide_eq_true_eq]
  constructor
  · rintro ⟨x, hx, e⟩
    have e : (x == c) = true := e
    rw [beq_iff_eq] at e
    exact e ▸ hx
  · intro h
    exact ⟨c, h, beq_self_eq_true c⟩
theorem ints_flat (l : List Int) : (l.map V.int).all flatV = true := by
  rw [List.all_eq_true]
  intro z hz
  obtain ⟨i, _, rfl⟩ := List.mem_map.mp hz
  rfl
section
variable {P : Program} {w : World} {K : PySem.W.Frag} {mg : Str → Option Value} {base : Heap}
abbrev s_fall_paper : Stmt := top 41
abbrev N_fall_paper : List Str := ["boards", "standing", "told", "rows", "place"]
theorem sc_fall_paper : FnScope N_fall_paper ["boards", "standing"] (C8.fnScope s_fall_paper) := C8.fnScope_by (by decide +kernel)
def sp_fall_paper (K : PySem.W.Frag) : Sp := fun vs H Q _ => ∃ (ba a : Addr) (xs : List V) (bs : List Bd) (start : Pl) (ks R : List Pl) (rk : Pl → Nat), vs = [.ref ba, .ref a] ∧ BdsAt K H ba bs ∧ SqL K H a xs ∧ Paired (PairV K H) xs start ∧ okPl bs start ∧ BdsOk bs ∧ Ranks bs start ks R rk ∧ start ∈ R ∧
  ∀ l L H', Same H H' → H l = none → L.Pairwise (fun a b => ltPl a b = true) → PapL bs start ks R rk L → PapAt K H' l bs R rk L → Q (.ref l) H'
theorem ok_fall_paper {f : Addr} {fd : FuncData} (F : C8.Def K mg "fall_paper" s_fall_paper f fd) (b : Binds K fd ["boards", "standing"] []) (T : Gb mg) (c_checked_boards : C8.Cal P w K mg base 2 "checked_boards" (sp_checked_boards K) []) (c_checked_standing : C8.Cal P w K mg base 2 "checked_standing" (sp_checked_standingL K) []) (c_fall_rows : C8.Cal P w K mg base 5 "fall_rows" (sp_fall_rows K w) []) : C8.Cal P w K mg base 6 "fall_paper" (sp_fall_paper K) [] := by
  refine C8.cal0 F b .nil sc_fall_paper (fun vs H Q E h => ?_) (fun cdv A outer s H vs Q E hr h => ?_)
  · obtain ⟨ba, a, xs, bs, start, ks, R, rk, rfl, _⟩ := h
    rfl
  · obtain ⟨ba, a, xs, bs, start, ks, R, rk, rfl, hB, ha, hxs, hok, hbs, RK, hin, q⟩ := h
    refine ⟨_, (pss_cons (ps_set (i := 2) sc_fall_paper.nd rfl (Or.inl rfl) (C8.pe_c c_checked_boards hr (by decide) (by rfl) (pa_cons (pv 0) pa_nil)))
(pss_cons (ps_set (i := 3) sc_fall_paper.nd rfl (Or.inr rfl) (C8.pe_c c_fall_rows hr (by decide) (by rfl) (pa_cons (pv 2) (pa_cons (C8.pe_c c_checked_standing hr (by decide) (by rfl) (pa_cons (pv 2) (pa_cons (pv 1) pa_nil))) pa_nil))))
(pss_one (ps_ret (pe_lc (own := [("place", 4)]) rfl sc_fall_paper.nd (pi_listK K rfl (pe_callB (cr_sortedNK (K := K) rfl (Nat.lt_of_le_of_lt (Nat.add_le_add_left (by decide) _) hr.un)) (by rfl) T.sorted (by decide +kernel) (pa_cons (pe_callTy (call_list_dN (w := w) rfl rfl) (by rfl) T.list (by decide +kernel) (pa_cons (pv 3) pa_nil)) pa_nil))) (blkOk_by (N := N_fall_paper) (sc := C8.fnScope s_fall_paper) (by decide +kernel)) (fun _ _ _ _ _ => (pg_name (i := 4) sc_fall_paper.nd rfl (Or.inl rfl))) (fun _ _ _ _ _ => pts_nil) (fun _ _ _ _ _ => (pe_tup (pa_cons (pv 4) (pa_cons (pe_ix (ix_tupK K rfl) (pe_ix (ix_dNK (K := K) (w := w) rfl rfl (Nat.lt_of_le_of_lt (Nat.add_le_add_left (by decide) _) hr.un)) (pv 3) (pv 4) (fun _ _ => rfl)) pe_int (fun _ _ => rfl)) (pa_cons (pe_ix (ix_tupK K rfl) (pe_ix (ix_dNK (K := K) (w := w) rfl rfl (Nat.lt_of_le_of_lt (Nat.add_le_add_left (by decide) _) hr.un)) (pv 3) (pv 4) (fun _ _ => rfl)) pe_int (fun _ _ => rfl)) pa_nil)))))))))), ?_⟩
    have n2 := hbs.n2
    have n1 := hbs.n1
    refine ⟨_, rfl, ba, bs, rfl, hB, hbs, fun l1 H1 s1 hB1 => ?_⟩
    refine ⟨_, rfl, _, rfl, _, rfl, l1, a, xs, bs, start, rfl, hB1, s1.seq ha, L2.Paired.mapP hxs (fun _ _ => PairV.mono s1), hok, by omega, fun v H2 s2 hv => ?_⟩
    refine ⟨l1, v, bs, start, ks, R, rk, rfl, hB1.mono s2, hv, hbs, hok, RK, hin, fun rd L f H3 s3 hrd dl hrows hL => ?_⟩
    have s03 := (s1.trans s2).trans s3
    have hL4 : L.length ≤ 441 := few hbs hL.nd fun k hk => RK.pls k (hL.sub k hk).1
    obtain ⟨kvl, ekl, hp1⟩ := dl.list'
    refine ⟨_, rfl, rd, kvl, rfl, .inl ekl, fun l2 hl2 => ?_⟩
    generalize (kvl.map fun x => V.ref x.2.1) = ws1 at hp1 ⊢
    have s4 := same_new (o := .lst ws1) (Same.refl H3) hl2
    have hl2' : upd H3 l2 (.lst ws1) l2 = some (.lst ws1) := upd_same
    have hp2 : Paired (PlV K (upd H3 l2 (.lst ws1))) ws1 L := L2.Paired.mapP hp1 fun _ _ => PlV.mono s4
    have dl4 := dl.same s4
    have ro4 : ∀ k ∈ L, RowT K (upd H3 l2 (.lst ws1)) (f k) (rk k) (picksF bs R rk k) := fun k hk => (hrows k hk).tups s4.tups
    have s04 := s03.trans s4
    generalize upd H3 l2 (.lst ws1) = H4 at s4 hl2' hp2 dl4 ro4 s04 ⊢
    obtain ⟨zb, z1, z2, z3, z4, hp3⟩ := sort_pls' (SqL.of hl2') hp2 (fun p hp => fun z => by have := okPl_len (RK.pls p (hL.sub p hp).1); subst z; rw [List.length_nil] at *; omega)
    refine ⟨l2, zb, rfl, z1, z2, z3, z4, fun l3 hl3 => ?_⟩
    generalize (zb.mergeSort leN).map (·.1) = ws2 at hp3 ⊢
    have s5 := same_new (o := .lst ws2) (Same.refl H4) hl3
    have hl3' : upd H4 l3 (.lst ws2) l3 = some (.lst ws2) := upd_same
    have hp5 : Paired (PlV K (upd H4 l3 (.lst ws2))) ws2 (L.mergeSort leP) := L2.Paired.mapP hp3 fun _ _ => PlV.mono s5
    have dl5 := dl4.same s5
    have ro5 : ∀ k ∈ L, RowT K (upd H4 l3 (.lst ws2)) (f k) (rk k) (picksF bs R rk k) := fun k hk => (ro4 k hk).tups s5.tups
    have s05 := s04.trans s5
    generalize upd H4 l3 (.lst ws2) = H5 at s5 hl3' hp5 dl5 ro5 s05 ⊢
    have lp5 := hp5.length
    have hmem : ∀ p, p ∈ L.mergeSort leP ↔ p ∈ L := fun p => (List.mergeSort_perm L leP).mem_iff
    have lsort : (L.mergeSort leP).length = L.length := List.length_mergeSort _
    refine ⟨l3, rfl, ⟨_, SqL.of hl3'⟩, fun D hD => lc_it (walk_list (xs := ws2)) (fun j H' => Same H5 H' ∧ PapAt K H' D bs R rk ((L.mergeSort leP).take j))
      ⟨same_new (Same.refl _) hD, [], upd_same, .nil⟩ (fun j H' _ h => SqL.of (h.1 _ _ hl3')) ?_ ?_⟩
    · rintro j y H6 H6' hj ⟨s6, acc, ha6, hap⟩ ⟨rfl, hy⟩
      obtain ⟨p, hp6, hpv⟩ := paired_at hp5 hy
      have hpv := hpv.mono s6
      obtain ⟨xa, xxs, rfl, hxa, hxp⟩ := id hpv
      have hpL := (hmem p).mp (List.mem_of_getElem? hp6)
      have lacc := hap.length
      have ltk := List.length_take_le' j (L.mergeSort leP)
      have dl6 := dl5.same s6
      obtain ⟨t, aa, axs, ef, h1, h2, h3⟩ := (ro5 p hpL).tups s6.tups
      refine ⟨rfl, yes_go ?_⟩
      refine ⟨_, rfl, _, rfl, _, rfl, dl6.get hpL (plV_key hpv) (pk_depth _) ?_⟩
      rw [ef]
      refine ⟨t, _, 0, nV (rk p), rfl, rfl, h1, rfl, ?_⟩
      refine ⟨_, rfl, _, rfl, dl6.get hpL (plV_key hpv) (pk_depth _) ?_⟩
      rw [ef]
      refine ⟨t, _, 1, .ref aa, rfl, rfl, h1, rfl, ?_⟩
      refine ⟨by show 3 ≤ sizeLine; decide, fun t2 ht2 => ?_⟩
      have s7 := same_new (o := .tup [.ref xa, nV (rk p), .ref aa]) (Same.refl H6') ht2
      have ht7 : upd H6' t2 (.tup [.ref xa, nV (rk p), .ref aa]) t2 = some (.tup [.ref xa, nV (rk p), .ref aa]) := upd_same
      have ha7 := s7 _ _ ha6
      have hpv7 := hpv.mono s7
      have h27 := s7.tup h2
      have h37 : Paired (AnsV K (upd H6' t2 (.tup [.ref xa, nV (rk p), .ref aa]))) axs (picksF bs R rk p) := L2.Paired.mapP h3 fun _ _ => AnsV.tups s7.tups
      have hap7 : Paired (PapV K (upd H6' t2 (.tup [.ref xa, nV (rk p), .ref aa])) bs R rk) acc ((L.mergeSort leP).take j) := L2.Paired.mapP hap fun _ _ => PapV.tups s7.tups
      have s67 := s6.trans s7
      generalize upd H6' t2 (.tup [.ref xa, nV (rk p), .ref aa]) = H7 at s7 ht7 ha7 hpv7 h27 h37 hap7 s67 ⊢
      have t8 : Tup K H7 (upd H7 D (.lst (acc ++ [.ref t2]))) := tup_lst ha7
      refine ⟨acc, ha7, size_lt (by omega), same_mut s67 hD, _, upd_same, ?_⟩
      rw [take_snoc hp6]
      exact Paired.snoc (L2.Paired.mapP hap7 fun _ _ => PapV.tups t8) (PapV.tups t8 ⟨t2, _, aa, axs, rfl, SqT.of ht7, hpv7, h27, h37⟩)
    · rintro H6 ⟨s6, hap⟩
      rw [lp5, List.take_length] at hap
      exact q D _ H6 (s05.trans s6) (s05.free hD) (sort_asc hL.nd) ⟨(List.mergeSort_perm L leP).nodup_iff.mpr hL.nd, (hmem _).mpr hL.start, fun k hk => hL.sub k ((hmem k).mp hk), fun k hk q' hq' => (hmem q').mpr (hL.closed k ((hmem k).mp hk) q' hq')⟩ hap
abbrev s_course : Stmt := top 42
abbrev N_course : List Str := ["boards", "standing", "hand", "told", "place", "rows", "standings", "choice", "numbers", "answer"]
theorem sc_course : FnScope N_course ["boards", "standing", "hand"] (C8.fnScope s_course) := C8.fnScope_by (by decide +kernel)
def sp_courseL (K : PySem.W.Frag) : Sp := fun vs H Q _ => ∃ (ba a ha : Addr) (xs : List V) (bs : List Bd) (start : Pl) (ks R : List Pl) (rk : Pl → Nat) (hs : List Int), vs = [.ref ba, .ref a, .ref ha] ∧ BdsAt K H ba bs ∧ SqT K H a xs ∧ Paired (PairV K H) xs start ∧ okPl bs start ∧ BdsOk bs ∧ Ranks bs start ks R rk ∧ start ∈ R ∧ SqL K H ha (hs.map V.int) ∧ hs.length ≤ 1000 ∧ courseOk bs R rk start hs ∧
  ∀ t sl H', Same H H' → H' t = some (.tup [.ref sl, .bl (courseF bs R rk start hs).2]) → RowsPl K H' sl (courseF bs R rk start hs).1 → Q (.ref t) H'
theorem ok_courseL {f : Addr} {fd : FuncData} (F : C8.Def K mg "course" s_course f fd) (b : Binds K fd ["boards", "standing", "hand"] []) (T : Gb mg) (c_checked_boards : C8.Cal P w K mg base 2 "checked_boards" (sp_checked_boards K) []) (c_checked_standing : C8.Cal P w K mg base 2 "checked_standing" (sp_checked_standingT K) []) (c_fall_rows : C8.Cal P w K mg base 5 "fall_rows" (sp_fall_rows K w) []) (c_open_choices : C8.Cal P w K mg base 1 "open_choices" (sp_open_choices K) []) : C8.Cal P w K mg base 6 "course" (sp_courseL K) [] := by
  refine C8.cal0 F b .nil sc_course (fun vs H Q E h => ?_) (fun cdv A outer s H vs Q E hr h => ?_)
  · obtain ⟨ba, a, ha, xs, bs, start, ks, R, rk, hs, rfl, _⟩ := h
    rfl
  · obtain ⟨ba, a, ha, xs, bs, start, ks, R, rk, hs, rfl, hB, hxa, hxs, hok, hbs, RK, hin, hha, hhl, hco, q⟩ := h
    refine ⟨_, (pss_cons (ps_set (i := 3) sc_course.nd rfl (Or.inl rfl) (C8.pe_c c_checked_boards hr (by decide) (by rfl) (pa_cons (pv 0) pa_nil)))
(pss_cons (ps_set (i := 4) sc_course.nd rfl (Or.inl rfl) (C8.pe_c c_checked_standing hr (by decide) (by rfl) (pa_cons (pv 3) (pa_cons (pv 1) pa_nil))))
(pss_cons (ps_set (i := 5) sc_course.nd rfl (Or.inl rfl) (C8.pe_c c_fall_rows hr (by decide) (by rfl) (pa_cons (pv 3) (pa_cons (pv 4) pa_nil))))
(pss_cons (ps_set (i := 6) sc_course.nd rfl (Or.inl rfl) (pe_lst (pa_cons (pv 4) pa_nil)))
(pss_cons (ps_for PassesOwn.never rfl (pi_listK K rfl (pv 2)) (pg_name (i := 7) sc_course.nd rfl (Or.inl rfl))
(pss_cons (ps_set (i := 8) sc_course.nd rfl (Or.inl rfl) (C8.pe_c c_open_choices hr (by decide) (by rfl) (pa_cons (pv 4) pa_nil)))
(pss_cons (ps_if (pt_cmpR (op_notInK K rfl) (pv 7) (pv 8) rfl)
(pss_one ps_never)
pss_nil)
(pss_cons (ps_set (i := 9) sc_course.nd rfl (Or.inl rfl) (pe_ix (ix_tupK K rfl) (pe_ix (ix_tupK K rfl) (pe_ix (ix_dNK (K := K) (w := w) rfl rfl (Nat.lt_of_le_of_lt (Nat.add_le_add_left (by decide) _) hr.un)) (pv 5) (pv 4) (fun _ _ => rfl)) pe_int (fun _ _ => rfl)) (pe_bm PySem.F.plainAttrs_list PySem.F.slot_list_index PySem.F.type_list_index mt_index (pv 8) (pa_cons (pv 7) pa_nil)) (fun _ _ => rfl)))
(pss_cons (ps_if (pt_cmpR op_isN (pv 9) pe_non (nomark _))
(pss_one (ps_ret (pe_tup (pa_cons (pv 6) (pa_cons pe_bl pa_nil)))))
pss_nil)
(pss_cons (ps_expr (pe_bm PySem.F.plainAttrs_list PySem.F.slot_list_append PySem.F.type_list_append mt_append (pv 6) (pa_cons (pv 9) pa_nil)))
(pss_one (ps_set (i := 4) sc_course.nd rfl (Or.inl rfl) (pv 9)))))))))
(pss_one (ps_ret (pe_tup (pa_cons (pv 6) (pa_cons pe_bl pa_nil)))))))))), ?_⟩
    have n2 := hbs.n2
    refine ⟨_, rfl, ba, bs, rfl, hB, hbs, fun l1 H1 s1 hB1 => ?_⟩
    refine ⟨_, rfl, _, rfl, l1, a, xs, bs, start, rfl, hB1, s1.tup hxa, L2.Paired.mapP hxs (fun _ _ => PairV.mono s1), hok, by omega, fun v H2 s2 hv => ?_⟩
    refine ⟨_, rfl, _, rfl, l1, v, bs, start, ks, R, rk, rfl, hB1.mono s2, hv, hbs, hok, RK, hin, fun rd L f H3 s3 hrd dl hrows hL => ?_⟩
    have s03 := (s1.trans s2).trans s3
    have hv3 := hv.mono s3
    refine ⟨_, rfl, by show 1 ≤ sizeLine; decide, fun sl hsl => ?_⟩
    have s4 := same_new (o := .lst [v]) (Same.refl H3) hsl
    refine ⟨_, rfl, ha, rfl, ⟨_, Same.seq (s03.trans s4) hha⟩, for_it (walk_list (xs := hs.map V.int)) (fun j σ H' => Same H3 H' ∧ ∃ pre p v4 v7 v8 v9, p ∈ L ∧ RowsPl K H' sl (pre ++ [p]) ∧ PlV K H' v4 p ∧ pre.length = j ∧ (courseF bs R rk start hs).1 = pre ++ (courseF bs R rk p (hs.drop j)).1 ∧ (courseF bs R rk start hs).2 = (courseF bs R rk p (hs.drop j)).2 ∧ courseOk bs R rk p (hs.drop j) ∧ σ = [some (.ref ba), some (.ref a), some (.ref ha), some (.ref l1), some v4, some (.ref rd), some (.ref sl), v7, v8, v9])
      ⟨s4, [], start, v, _, _, _, hL.start, ⟨[v], upd_same, .cons (hv3.mono s4) .nil⟩, hv3.mono s4, rfl, rfl, rfl, hco, rfl⟩ (fun j σ H' _ h => Same.seq (s03.trans h.1) hha) ?_ ?_⟩
    · rintro j x σ H5 H5' hj ⟨s5, pre, p, v4, v7, v8, v9, hpL, ⟨vs, hvs, hvp⟩, hpv, hpre, e1, e2, hco5, rfl⟩ ⟨rfl, hx⟩
      obtain ⟨c, hc, rfl⟩ := at_map hx
      have hdrop : hs.drop j = c :: hs.drop (j + 1) := (List.drop_eq_getElem_cons (List.getElem?_eq_some_iff.mp hc).1).trans (by rw [(List.getElem?_eq_some_iff.mp hc).2])
      rw [hdrop] at e1 e2 hco5
      obtain ⟨hca, hnext⟩ := hco5
      have hpo := RK.pls p (hL.sub p hpL).1
      have hpl := okPl_len hpo
      refine ⟨_, rfl, _, p, rfl, hpv, by omega, fun oc H6 s6 hoc hocl => ?_⟩
      have hpv6 := hpv.mono s6
      obtain ⟨xa, xxs, rfl, hxa6, hxp⟩ := id hpv6
      have s36 := s5.trans s6
      have dl6 := dl.same s36
      refine ⟨_, rfl, _, rfl, oc, _, rfl, .inl (SqL.of hocl), rfl, ints_flat _, _, rfl, ?_⟩
      rw [inV_ints, decide_eq_true hca]
      refine iteF ?_
      obtain ⟨t, aa, axs, ef, h1, h2, h3⟩ := (hrows p hpL).tups s36.tups
      have hidx : (ableI p).idxOf c < (ableI p).length := List.idxOf_lt_length_of_mem hca
      have lrow : (rowF bs p).length = (ableI p).length := List.length_map _
      have lpk : (picksF bs R rk p).length = (rowF bs p).length := List.length_map _
      obtain ⟨ans, hans⟩ := at_ex (l := picksF bs R rk p) (i := (ableI p).idxOf c) (by omega)
      obtain ⟨av, hav, hansv⟩ := paired_at2 h3 hans
      refine ⟨_, rfl, _, rfl, dl6.get hpL (plV_key hpv6) (pk_depth _) ?_⟩
      rw [ef]
      refine ⟨t, _, 1, .ref aa, rfl, rfl, h1, rfl, ?_⟩
      refine ⟨_, rfl, .inl ⟨rfl, _, SqL.of hocl⟩, _, rfl, oc, _, .int c, (ableI p).idxOf c, .int c, rfl, rfl, SqL.of hocl, rfl, ints_flat _, ?_, ?_, ?_, ?_⟩
      · rw [List.getElem?_map, List.getElem?_eq_getElem hidx, List.getElem_idxOf hidx]; rfl
      · show (c == c) = true
        exact beq_self_eq_true c
      · intro m' z hm' hz
        obtain ⟨c', hc', rfl⟩ := at_map hz
        show (c' == c) = false
        have hne := List.not_of_lt_findIdx (p := (· == c)) (xs := ableI p) (i := m') hm'
        have : (ableI p)[m']? = some ((ableI p)[m']'(Nat.lt_trans hm' hidx)) := List.getElem?_eq_getElem _
        rw [this] at hc'
        cases hc'
        simpa using hne
      refine ⟨aa, axs, _, av, rfl, rfl, h2, atI_nat hav, ?_⟩
      have hvs6 := s6 _ _ hvs
      have hvp6 : Paired (PlV K H6) vs (pre ++ [p]) := L2.Paired.mapP hvp fun _ _ => PlV.mono s6
      refine ⟨_, rfl, rfl, _, rfl, ?_⟩
      cases ans with
      | none =>
        have e : av = .non := hansv
        subst e
        refine ifT rfl ?_
        refine ⟨_, rfl, by show 2 ≤ sizeLine; decide, fun t2 ht2 => ?_⟩
        have s7 := same_new (o := .tup [.ref sl, .bl true]) (Same.refl H6) ht2
        rw [courseF_end hans] at e1 e2
        refine q t2 sl _ ((s03.trans s36).trans s7) ?_ ?_
        · rw [e2]; exact upd_same
        · rw [e1]; exact ⟨vs, s7 _ _ hvs6, L2.Paired.mapP hvp6 fun _ _ => PlV.mono s7⟩
      | some q' =>
        have hansv : PlV K H6 av q' := hansv
        obtain ⟨ya, yxs, rfl, hya, hyp⟩ := id hansv
        refine ifF (fun z => nomatch z) ?_
        have lvs := hvp6.length
        rw [List.length_append, List.length_singleton] at lvs
        rw [List.length_map] at hj
        refine ⟨_, rfl, .inl ⟨rfl, _, SqL.of hvs6⟩, _, rfl, sl, vs, _, rfl, rfl, hvs6, size_lt (by omega), ?_⟩
        have t7 : Tup K H6 (upd H6 sl (.lst (vs ++ [.ref ya]))) := tup_lst hvs6
        rw [courseF_go hans] at e1 e2
        refine ⟨_, rfl, same_mut s36 hsl, pre ++ [p], q', _, _, _, _, hL.closed p hpL q' (List.mem_of_getElem? hans), ⟨_, upd_same, Paired.snoc (L2.Paired.mapP hvp6 fun _ _ => PlV.tups t7) (hansv.tups t7)⟩, hansv.tups t7, by rw [List.length_append, hpre]; rfl, ?_, e2, hnext q' hans, rfl⟩
        rw [e1, List.append_assoc]
        rfl
    · rintro σ H5 ⟨s5, pre, p, v4, v7, v8, v9, hpL, hrp, hpv, hpre, e1, e2, hco5, rfl⟩
      have hd0 : hs.drop (hs.map V.int).length = [] := by rw [List.length_map, List.drop_length]
      rw [hd0] at e1 e2
      refine ⟨_, rfl, by show 2 ≤ sizeLine; decide, fun t2 ht2 => ?_⟩
      have s7 := same_new (o := .tup [.ref sl, .bl false]) (Same.refl H5) ht2
      refine q t2 sl _ ((s03.trans s5).trans s7) ?_ ?_
      · rw [e2]; exact upd_same
      · rw [e1]; exact hrp.mono s7
def sp_courseT (K : PySem.W.Frag) : Sp := fun vs H Q _ => ∃ (ba a ha : Addr) (xs : List V) (bs : List Bd) (start : Pl) (ks R : List Pl) (rk : Pl → Nat) (hs : List Int), vs = [.ref ba, .ref a, .ref ha] ∧ BdsAt K H ba bs ∧ SqT K H a xs ∧ Paired (PairV K H) xs start ∧ okPl bs start ∧ BdsOk bs ∧ Ranks bs start ks R rk ∧ start ∈ R ∧ SqT K H ha (hs.map V.int) ∧ hs.length ≤ 1000 ∧ courseOk bs R rk start hs ∧
  ∀ t sl H', Same H H' → H' t = some (.tup [.ref sl, .bl (courseF bs R rk start hs).2]) → RowsPl K H' sl (courseF bs R rk start hs).1 → Q (.ref t) H'
theorem ok_courseT {f : Addr} {fd : FuncData} (F : C8.Def K mg "course" s_course f fd) (b : Binds K fd ["boards", "standing", "hand"] []) (T : Gb mg) (c_checked_boards : C8.Cal P w K mg base 2 "checked_boards" (sp_checked_boards K) []) (c_checked_standing : C8.Cal P w K mg base 2 "checked_standing" (sp_checked_standingT K) []) (c_fall_rows : C8.Cal P w K mg base 5 "fall_rows" (sp_fall_rows K w) []) (c_open_choices : C8.Cal P w K mg base 1 "open_choices" (sp_open_choices K) []) : C8.Cal P w K mg base 6 "course" (sp_courseT K) [] := by
  refine C8.cal0 F b .nil sc_course (fun vs H Q E h => ?_) (fun cdv A outer s H vs Q E hr h => ?_)
  · obtain ⟨ba, a, ha, xs, bs, start, ks, R, rk, hs, rfl, _⟩ := h
    rfl
  · obtain ⟨ba, a, ha, xs, bs, start, ks, R, rk, hs, rfl, hB, hxa, hxs, hok, hbs, RK, hin, hha, hhl, hco, q⟩ := h
    refine ⟨_, (pss_cons (ps_set (i := 3) sc_course.nd rfl (Or.inl rfl) (C8.pe_c c_checked_boards hr (by decide) (by rfl) (pa_cons (pv 0) pa_nil)))
(pss_cons (ps_set (i := 4) sc_course.nd rfl (Or.inl rfl) (C8.pe_c c_checked_standing hr (by decide) (by rfl) (pa_cons (pv 3) (pa_cons (pv 1) pa_nil))))
(pss_cons (ps_set (i := 5) sc_course.nd rfl (Or.inl rfl) (C8.pe_c c_fall_rows hr (by decide) (by rfl) (pa_cons (pv 3) (pa_cons (pv 4) pa_nil))))
(pss_cons (ps_set (i := 6) sc_course.nd rfl (Or.inl rfl) (pe_lst (pa_cons (pv 4) pa_nil)))
(pss_cons (ps_for PassesOwn.never rfl (pi_tupK K rfl (pv 2)) (pg_name (i := 7) sc_course.nd rfl (Or.inl rfl))
(pss_cons (ps_set (i := 8) sc_course.nd rfl (Or.inl rfl) (C8.pe_c c_open_choices hr (by decide) (by rfl) (pa_cons (pv 4) pa_nil)))
(pss_cons (ps_if (pt_cmpR (op_notInK K rfl) (pv 7) (pv 8) rfl)
(pss_one ps_never)
pss_nil)
(pss_cons (ps_set (i := 9) sc_course.nd rfl (Or.inl rfl) (pe_ix (ix_tupK K rfl) (pe_ix (ix_tupK K rfl) (pe_ix (ix_dNK (K := K) (w := w) rfl rfl (Nat.lt_of_le_of_lt (Nat.add_le_add_left (by decide) _) hr.un)) (pv 5) (pv 4) (fun _ _ => rfl)) pe_int (fun _ _ => rfl)) (pe_bm PySem.F.plainAttrs_list PySem.F.slot_list_index PySem.F.type_list_index mt_index (pv 8) (pa_cons (pv 7) pa_nil)) (fun _ _ => rfl)))
(pss_cons (ps_if (pt_cmpR op_isN (pv 9) pe_non (nomark _))
(pss_one (ps_ret (pe_tup (pa_cons (pv 6) (pa_cons pe_bl pa_nil)))))
pss_nil)
(pss_cons (ps_expr (pe_bm PySem.F.plainAttrs_list PySem.F.slot_list_append PySem.F.type_list_append mt_append (pv 6) (pa_cons (pv 9) pa_nil)))
(pss_one (ps_set (i := 4) sc_course.nd rfl (Or.inl rfl) (pv 9)))))))))
(pss_one (ps_ret (pe_tup (pa_cons (pv 6) (pa_cons pe_bl pa_nil)))))))))), ?_⟩
    have n2 := hbs.n2
    refine ⟨_, rfl, ba, bs, rfl, hB, hbs, fun l1 H1 s1 hB1 => ?_⟩
    refine ⟨_, rfl, _, rfl, l1, a, xs, bs, start, rfl, hB1, s1.tup hxa, L2.Paired.mapP hxs (fun _ _ => PairV.mono s1), hok, by omega, fun v H2 s2 hv => ?_⟩
    refine ⟨_, rfl, _, rfl, l1, v, bs, start, ks, R, rk, rfl, hB1.mono s2, hv, hbs, hok, RK, hin, fun rd L f H3 s3 hrd dl hrows hL => ?_⟩
    have s03 := (s1.trans s2).trans s3
    have hv3 := hv.mono s3
    refine ⟨_, rfl, by show 1 ≤ sizeLine; decide, fun sl hsl => ?_⟩
    have s4 := same_new (o := .lst [v]) (Same.refl H3) hsl
    refine ⟨_, rfl, ha, rfl, ⟨_, Same.tup (s03.trans s4) hha⟩, for_it (walk_tup (xs := hs.map V.int)) (fun j σ H' => Same H3 H' ∧ ∃ pre p v4 v7 v8 v9, p ∈ L ∧ RowsPl K H' sl (pre ++ [p]) ∧ PlV K H' v4 p ∧ pre.length = j ∧ (courseF bs R rk start hs).1 = pre ++ (courseF bs R rk p (hs.drop j)).1 ∧ (courseF bs R rk start hs).2 = (courseF bs R rk p (hs.drop j)).2 ∧ courseOk bs R rk p (hs.drop j) ∧ σ = [some (.ref ba), some (.ref a), some (.ref ha), some (.ref l1), some v4, some (.ref rd), some (.ref sl), v7, v8, v9])
      ⟨s4, [], start, v, _, _, _, hL.start, ⟨[v], upd_same, .cons (hv3.mono s4) .nil⟩, hv3.mono s4, rfl, rfl, rfl, hco, rfl⟩ (fun j σ H' _ h => Same.tup (s03.trans h.1) hha) ?_ ?_⟩
    · rintro j x σ H5 H5' hj ⟨s5, pre, p, v4, v7, v8, v9, hpL, ⟨vs, hvs, hvp⟩, hpv, hpre, e1, e2, hco5, rfl⟩ ⟨rfl, hx⟩
      obtain ⟨c, hc, rfl⟩ := at_map hx
      have hdrop : hs.drop j = c :: hs.drop (j + 1) := (List.drop_eq_getElem_cons (List.getElem?_eq_some_iff.mp hc).1).trans (by rw [(List.getElem?_eq_some_iff.mp hc).2])
      rw [hdrop] at e1 e2 hco5
      obtain ⟨hca, hnext⟩ := hco5
      have hpo := RK.pls p (hL.sub p hpL).1
      have hpl := okPl_len hpo
      refine ⟨_, rfl, _, p, rfl, hpv, by omega, fun oc H6 s6 hoc hocl => ?_⟩
      have hpv6 := hpv.mono s6
      obtain ⟨xa, xxs, rfl, hxa6, hxp⟩ := id hpv6
      have s36 := s5.trans s6
      have dl6 := dl.same s36
      refine ⟨_, rfl, _, rfl, oc, _, rfl, .inl (SqL.of hocl), rfl, ints_flat _, _, rfl, ?_⟩
      rw [inV_ints, decide_eq_true hca]
      refine iteF ?_
      obtain ⟨t, aa, axs, ef, h1, h2, h3⟩ := (hrows p hpL).tups s36.tups
      have hidx : (ableI p).idxOf c < (ableI p).length := List.idxOf_lt_length_of_mem hca
      have lrow : (rowF bs p).length = (ableI p).length := List.length_map _
      have lpk : (picksF bs R rk p).length = (rowF bs p).length := List.length_map _
      obtain ⟨ans, hans⟩ := at_ex (l := picksF bs R rk p) (i := (ableI p).idxOf c) (by omega)
      obtain ⟨av, hav, hansv⟩ := paired_at2 h3 hans
      refine ⟨_, rfl, _, rfl, dl6.get hpL (plV_key hpv6) (pk_depth _) ?_⟩
      rw [ef]
      refine ⟨t, _, 1, .ref aa, rfl, rfl, h1, rfl, ?_⟩
      refine ⟨_, rfl, .inl ⟨rfl, _, SqL.of hocl⟩, _, rfl, oc, _, .int c, (ableI p).idxOf c, .int c, rfl, rfl, SqL.of hocl, rfl, ints_flat _, ?_, ?_, ?_, ?_⟩
      · rw [List.getElem?_map, List.getElem?_eq_getElem hidx, List.getElem_idxOf hidx]; rfl
      · show (c == c) = true
        exact beq_self_eq_true c
      · intro m' z hm' hz
        obtain ⟨c', hc', rfl⟩ := at_map hz
        show (c' == c) = false
        have hne := List.not_of_lt_findIdx (p := (· == c)) (xs := ableI p) (i := m') hm'
        have : (ableI p)[m']? = some ((ableI p)[m']'(Nat.lt_trans hm' hidx)) := List.getElem?_eq_getElem _
        rw [this] at hc'
        cases hc'
        simpa using hne
      refine ⟨aa, axs, _, av, rfl, rfl, h2, atI_nat hav, ?_⟩
      have hvs6 := s6 _ _ hvs
      have hvp6 : Paired (PlV K H6) vs (pre ++ [p]) := L2.Paired.mapP hvp fun _ _ => PlV.mono s6
      refine ⟨_, rfl, rfl, _, rfl, ?_⟩
      cases ans with
      | none =>
        have e : av = .non := hansv
        subst e
        refine ifT rfl ?_
        refine ⟨_, rfl, by show 2 ≤ sizeLine; decide, fun t2 ht2 => ?_⟩
        have s7 := same_new (o := .tup [.ref sl, .bl true]) (Same.refl H6) ht2
        rw [courseF_end hans] at e1 e2
        refine q t2 sl _ ((s03.trans s36).trans s7) ?_ ?_
        · rw [e2]; exact upd_same
        · rw [e1]; exact ⟨vs, s7 _ _ hvs6, L2.Paired.mapP hvp6 fun _ _ => PlV.mono s7⟩
      | some q' =>
        have hansv : PlV K H6 av q' := hansv
        obtain ⟨ya, yxs, rfl, hya, hyp⟩ := id hansv
        refine ifF (fun z => nomatch z) ?_
        have lvs := hvp6.length
        rw [List.length_append, List.length_singleton] at lvs
        rw [List.length_map] at hj
        refine ⟨_, rfl, .inl ⟨rfl, _, SqL.of hvs6⟩, _, rfl, sl, vs, _, rfl, rfl, hvs6, size_lt (by omega), ?_⟩
        have t7 : Tup K H6 (upd H6 sl (.lst (vs ++ [.ref ya]))) := tup_lst hvs6
        rw [courseF_go hans] at e1 e2
        refine ⟨_, rfl, same_mut s36 hsl, pre ++ [p], q', _, _, _, _, hL.closed p hpL q' (List.mem_of_getElem? hans), ⟨_, upd_same, Paired.snoc (L2.Paired.mapP hvp6 fun _ _ => PlV.tups t7) (hansv.tups t7)⟩, hansv.tups t7, by rw [List.length_append, hpre]; rfl, ?_, e2, hnext q' hans, rfl⟩
        rw [e1, List.append_assoc]
        rfl
    · rintro σ H5 ⟨s5, pre, p, v4, v7, v8, v9, hpL, hrp, hpv, hpre, e1, e2, hco5, rfl⟩
      have hd0 : hs.drop (hs.map V.int).length = [] := by rw [List.length_map, List.drop_length]
      rw [hd0] at e1 e2
      refine ⟨_, rfl, by show 2 ≤ sizeLine; decide, fun t2 ht2 => ?_⟩
      have s7 := same_new (o := .tup [.ref sl, .bl false]) (Same.refl H5) ht2
      refine q t2 sl _ ((s03.trans s5).trans s7) ?_ ?_
      · rw [e2]; exact upd_same
      · rw [e1]; exact hrp.mono s7
end
end My
namespace My
open PySem L2
/-! ### japanese(1, L), and its honesty -/
def rowN (L : Nat) : List Nat := (List.range 10).map fun t => if t ≤ L then 0 else 1
theorem rowN_at {L t : Nat} (h : t < 10) : (rowN L)[t]? = some (if t ≤ L then 0 else 1) := by
  unfold rowN
  rw [List.getElem?_map, List.getElem?_range h]
  rfl
theorem rowN_len (L : Nat) : (rowN L).length = 10 := by unfold rowN; rw [List.length_map, List.length_range]
theorem rowN_le {L n : Nat} (h : n ∈ rowN L) : n ≤ 1 := by
  unfold rowN at h
  obtain ⟨t, _, rfl⟩ := List.mem_map.mp h
  split <;> omega
/-- the table of good pairs for one state -/
def tb (x y : Nat) : Bool := decide (x < 1) || decide (y = 1)
def TblAt (K : PySem.W.Frag) (H : Hp) (ta : Addr) : Prop := ∃ a b, H ta = some (.lst [.ref a, .ref b]) ∧ H a = some (.lst [.bl (tb 0 0), .bl (tb 0 1)]) ∧ H b = some (.lst [.bl (tb 1 0), .bl (tb 1 1)])
theorem TblAt.mono {K : PySem.W.Frag} {H H' : Hp} {ta : Addr} (s : Same H H') (h : TblAt K H ta) : TblAt K H' ta := let ⟨a, b, e1, e2, e3⟩ := h; ⟨a, b, s _ _ e1, s _ _ e2, s _ _ e3⟩
theorem TblAt.get {K : PySem.W.Frag} {H : Hp} {ta : Addr} (h : TblAt K H ta) {x : Nat} (hx : x ≤ 1) : ∃ xs a ys, H ta = some (.lst xs) ∧ xs[x]? = some (.ref a) ∧ H a = some (.lst ys) ∧ ∀ y, y ≤ 1 → ys[y]? = some (.bl (tb x y)) := by
  obtain ⟨a, b, e1, e2, e3⟩ := h
  have two : ∀ n : Nat, n ≤ 1 → n = 0 ∨ n = 1 := fun n h => by omega
  rcases two x hx with rfl | rfl
  · exact ⟨_, a, _, e1, rfl, e2, fun y hy => by rcases two y hy with rfl | rfl <;> rfl⟩
  · exact ⟨_, b, _, e1, rfl, e3, fun y hy => by rcases two y hy with rfl | rfl <;> rfl⟩
section
variable {P : Program} {w : World} {K : PySem.W.Frag} {mg : Str → Option Value} {base : Heap}
abbrev s_check_bounds : Stmt := top 64
abbrev N_check_bounds : List Str := ["one", "two"]
theorem sc_check_bounds : FnScope N_check_bounds ["one", "two"] (C8.fnScope s_check_bounds) := C8.fnScope_by (by decide +kernel)
def sp_check_bounds : Sp := fun vs H Q _ => ∃ L : Nat, vs = [.int 1, nV L] ∧ 1 ≤ L ∧ L ≤ 60 ∧ Q .non H
theorem ok_check_bounds {f : Addr} {fd : FuncData} (F : C8.Def K mg "check_bounds" s_check_bounds f fd) (b : Binds K fd ["one", "two"] []) (T : Gb mg) : C8.Cal P w K mg base 1 "check_bounds" sp_check_bounds [] := by
  refine C8.cal0 F b .nil sc_check_bounds (fun vs H Q E h => ?_) (fun cdv A outer s H vs Q E hr h => ?_)
  · obtain ⟨L, rfl, _⟩ := h
    rfl
  · obtain ⟨L, rfl, h1, h2, q⟩ := h
    refine ⟨_, (pss_one (ps_if (PW.pt (pw_or (pt_cmpR op_lt (pe_callB (call_min2 rfl) (by rfl) T.min (by decide +kernel) (pa_cons (pv 0) (pa_cons (pv 1) pa_nil))) pe_int (nomark _)) (pw_or1 (pt_cmpR op_gt (pe_callB (call_max2 rfl) (by rfl) T.max (by decide +kernel) (pa_cons (pv 0) (pa_cons (pv 1) pa_nil))) (C8.pe_gc (by rfl) T.MOST_LENGTH) (nomark _)))))
(pss_one ps_never)
pss_nil)), ?_⟩
    refine ⟨_, rfl, _, rfl, _, _, rfl, _, _, rfl, rfl, _, rfl, ?_⟩
    refine ifF (by split <;> omega) ?_
    refine ⟨_, rfl, _, rfl, _, _, rfl, _, _, rfl, rfl, _, rfl, ?_⟩
    refine ifF (by split <;> omega) ?_
    exact q
abbrev s_check_states : Stmt := top 65
abbrev N_check_states : List Str := ["many"]
theorem sc_check_states : FnScope N_check_states ["many"] (C8.fnScope s_check_states) := C8.fnScope_by (by decide +kernel)
def sp_check_states : Sp := fun vs H Q _ => vs = [.int 1] ∧ Q .non H
theorem ok_check_states {f : Addr} {fd : FuncData} (F : C8.Def K mg "check_states" s_check_states f fd) (b : Binds K fd ["many"] []) (T : Gb mg) : C8.Cal P w K mg base 1 "check_states" sp_check_states [] := by
  refine C8.cal0 F b .nil sc_check_states (fun vs H Q E h => ?_) (fun cdv A outer s H vs Q E hr h => ?_)
  · obtain ⟨rfl, _⟩ := h
    rfl
  · obtain ⟨rfl, q⟩ := h
    refine ⟨_, (pss_one (ps_if (pt_cmpR op_gt (pv 0) (C8.pe_gc (by rfl) T.MOST_STATES) (nomark _))
(pss_one ps_never)
pss_nil)), ?_⟩
    refine ⟨_, rfl, _, _, rfl, rfl, _, rfl, ?_⟩
    refine ifF (by omega) ?_
    exact q
abbrev s_periods_used : Stmt := top 66
abbrev N_periods_used : List Str := ["time", "length"]
theorem sc_periods_used : FnScope N_periods_used ["time", "length"] (C8.fnScope s_periods_used) := C8.fnScope_by (by decide +kernel)
def sp_periods_used : Sp := fun vs H Q _ => ∃ t L : Nat, vs = [nV t, nV L] ∧ 1 ≤ L ∧ L ≤ 60 ∧ Q (.int (if t ≤ L then 0 else ((t : Int) - 1) / (L : Int))) H
theorem ok_periods_used {f : Addr} {fd : FuncData} (F : C8.Def K mg "periods_used" s_periods_used f fd) (b : Binds K fd ["time", "length"] []) : C8.Cal P w K mg base 1 "periods_used" sp_periods_used [] := by
  refine C8.cal0 F b .nil sc_periods_used (fun vs H Q E h => ?_) (fun cdv A outer s H vs Q E hr h => ?_)
  · obtain ⟨t, L, rfl, _⟩ := h
    rfl
  · obtain ⟨t, L, rfl, h1, h2, q⟩ := h
    refine ⟨_, (pss_cons (ps_if (pt_cmpR op_le (pv 0) (pv 1) (nomark _))
(pss_one (ps_ret pe_int))
pss_nil)
(pss_one (ps_ret (pe_op op_fdiv (pe_op op_sub (pv 0) pe_int) (pv 1))))), ?_⟩
    refine ⟨_, rfl, _, rfl, _, _, rfl, rfl, _, rfl, ?_⟩
    by_cases e : t ≤ L
    · rw [if_pos e] at q
      exact ifT (Int.ofNat_le.mpr e) q
    · rw [if_neg e] at q
      refine ifF (fun z => e (Int.ofNat_le.mp z)) ?_
      exact ⟨_, rfl, _, _, rfl, rfl, _, rfl, _, _, rfl, rfl, ⟨by omega, by omega⟩, q⟩
theorem jap_at {t L : Nat} (h1 : 1 ≤ L) : (if 0 + (if t ≤ L then 0 else ((t : Int) - 1) / (L : Int)) < 1 then 0 + (if t ≤ L then 0 else ((t : Int) - 1) / (L : Int)) else 1) = ((if t ≤ L then 0 else 1 : Nat) : Int) := by
  by_cases e : t ≤ L
  · rw [if_pos e, if_pos e]; rfl
  · rw [if_neg e, if_neg e]
    have : 1 ≤ ((t : Int) - 1) / (L : Int) := by
      rw [Int.le_ediv_iff_mul_le (by omega)]
      omega
    rw [if_neg (by omega)]
    rfl
abbrev s_japanese : Stmt := top 67
abbrev N_japanese : List Str := ["periods", "length", "state", "time"]
theorem sc_japanese : FnScope N_japanese ["periods", "length"] (C8.fnScope s_japanese) := C8.fnScope_by (by decide +kernel)
def sp_japanese : Sp := fun vs H Q _ => ∃ L : Nat, vs = [.int 1, nV L] ∧ 1 ≤ L ∧ L ≤ 60 ∧ ∀ l r H', Same H H' → H l = none → H' l = some (.lst [.ref r]) → H' r = some (.lst ((rowN L).map nV)) → Q (.ref l) H'
theorem ok_japanese {f : Addr} {fd : FuncData} (F : C8.Def K mg "japanese" s_japanese f fd) (b : Binds K fd ["periods", "length"] []) (T : Gb mg) (c_check_bounds : C8.Cal P w K mg base 1 "check_bounds" sp_check_bounds []) (c_check_states : C8.Cal P w K mg base 1 "check_states" sp_check_states []) (c_periods_used : C8.Cal P w K mg base 1 "periods_used" sp_periods_used []) : C8.Cal P w K mg base 2 "japanese" sp_japanese [] := by
  refine C8.cal0 F b .nil sc_japanese (fun vs H Q E h => ?_) (fun cdv A outer s H vs Q E hr h => ?_)
  · obtain ⟨L, rfl, _⟩ := h
    rfl
  · obtain ⟨L, rfl, h1, hL60, q⟩ := h
    refine ⟨_, (pss_cons (ps_expr (C8.pe_c c_check_bounds hr (by decide) (by rfl) (pa_cons (pv 0) (pa_cons (pv 1) pa_nil))))
(pss_cons (ps_expr (C8.pe_c c_check_states hr (by decide) (by rfl) (pa_cons (pv 0) pa_nil)))
(pss_one (ps_ret (pe_lc (own := [("state", 2)]) rfl sc_japanese.nd (pi_range1 (by rfl) T.range (pa_cons (pv 0) pa_nil)) (blkOk_by (N := N_japanese) (sc := C8.fnScope s_japanese) (by decide +kernel)) (fun _ _ _ _ _ => (pg_name (i := 2) sc_japanese.nd rfl (Or.inr rfl))) (fun _ _ _ _ _ => pts_nil) (fun _ _ _ _ _ => (pe_lc (own := [("time", 3)]) rfl sc_japanese.nd (pi_range1 (by rfl) T.range (pa_cons (C8.pe_gc (by rfl) T.TIMES) pa_nil)) (blkOk_by (N := N_japanese) (sc := { kind := .function, names := [(Str.ofString ".0", .local), (Str.ofString "state", .cell), (Str.ofString "range", .globalImplicit), (Str.ofString "TIMES", .globalImplicit), (Str.ofString "length", .cell), (Str.ofString "periods", .cell)], isGenerator := false, isCoroutine := false }) (by decide +kernel)) (fun _ _ _ _ _ => (pg_name (i := 3) sc_japanese.nd rfl (Or.inl rfl))) (fun _ _ _ _ _ => pts_nil) (fun _ _ _ _ _ => (pe_callB (call_min2 rfl) (by rfl) T.min (by decide +kernel) (pa_cons (pv 0) (pa_cons (pe_op op_add (pv 2) (C8.pe_c c_periods_used hr (by decide) (by rfl) (pa_cons (pv 3) (pa_cons (pv 1) pa_nil)))) pa_nil))))))))))), ?_⟩
    refine ⟨_, rfl, _, rfl, L, rfl, h1, hL60, ?_⟩
    refine ⟨_, rfl, rfl, ?_⟩
    refine ⟨_, rfl, 1, rfl, by decide, by decide, fun D hD => lc_it (walk_range (lo := 0) (n := 1)) (fun j H' => Same H H' ∧ ((j = 0 ∧ H' D = some (.lst [])) ∨ (j = 1 ∧ ∃ r, H' D = some (.lst [.ref r]) ∧ H' r = some (.lst ((rowN L).map nV)))))
      ⟨same_new (Same.refl _) hD, .inl ⟨rfl, upd_same⟩⟩ (fun _ _ _ _ => trivial) ?_ ?_⟩
    · rintro j x H1 H1' hj ⟨s1, hh⟩ ⟨rfl, rfl⟩
      have j0 : j = 0 := by omega
      subst j0
      rcases hh with ⟨_, hD1⟩ | ⟨e, _⟩
      · refine ⟨rfl, yes_go ?_⟩
        refine ⟨10, rfl, by decide, by decide, fun D2 hD2 => lc_it (walk_range (lo := 0) (n := 10)) (fun t H' => Same H1' H' ∧ H' D2 = some (.lst (((List.range t).map fun t => if t ≤ L then 0 else 1 : List Nat).map nV)))
          ⟨same_new (Same.refl _) hD2, upd_same⟩ (fun _ _ _ _ => trivial) ?_ ?_⟩
        · rintro t x H2 H2' ht ⟨s2, h2⟩ ⟨rfl, rfl⟩
          refine ⟨rfl, yes_go ?_⟩
          refine ⟨_, rfl, _, rfl, _, rfl, _, rfl, t, L, by show [V.int (0 + (t : Int)), nV L] = [nV t, nV L]; rw [Int.zero_add], h1, hL60, ?_⟩
          refine ⟨_, _, rfl, rfl, _, _, rfl, ?_⟩
          refine ⟨_, h2, size_lt (by rw [List.length_map, List.length_map, List.length_range]; omega), same_mut s2 hD2, ?_⟩
          rw [List.range_succ, List.map_append, List.map_append]
          have e := jap_at (t := t) h1
          show upd _ _ _ D2 = some (.lst (_ ++ [V.int ((if t ≤ L then 0 else 1 : Nat) : Int)]))
          rw [← e]
          exact upd_same
        · rintro H2 ⟨s2, h2⟩
          have hD3 := s2 _ _ hD1
          have n2 : D2 ≠ D := fun z => by rw [z, hD1] at hD2; cases hD2
          exact ⟨[], hD3, size_lt (by decide), same_mut (s1.trans s2) hD, .inr ⟨rfl, D2, upd_same, (upd_ne n2).trans h2⟩⟩
      · cases e
    · rintro H1 ⟨s1, hh⟩
      rcases hh with ⟨e, _⟩ | ⟨_, r, h3, h4⟩
      · cases e
      · exact q D r H1 s1 hD h3 h4
end
end My
namespace My
open PySem L2
/-! ### the book's checks, for one state -/
def RowAt (K : PySem.W.Frag) (H : Hp) (ra : Addr) (L : Nat) : Prop := H ra = some (.lst ((rowN L).map nV))
theorem row_at {L t : Nat} (h : t < 10) : ((rowN L).map nV)[t]? = some (nV (if t ≤ L then 0 else 1)) := nV_at (rowN_at h)
theorem row_le (t L : Nat) : (if t ≤ L then 0 else 1 : Nat) ≤ 1 := by split <;> omega
section
variable {P : Program} {w : World} {K : PySem.W.Frag} {mg : Str → Option Value} {base : Heap}
abbrev s_checked_amount : Stmt := top 45
abbrev N_checked_amount : List Str := ["amount"]
theorem sc_checked_amount : FnScope N_checked_amount ["amount"] (C8.fnScope s_checked_amount) := C8.fnScope_by (by decide +kernel)
def sp_checked_amount : Sp := fun vs H Q _ => ∃ n : Nat, vs = [nV n] ∧ n ≤ 1000000 ∧ Q (nV n) H
theorem ok_checked_amount {f : Addr} {fd : FuncData} (F : C8.Def K mg "checked_amount" s_checked_amount f fd) (b : Binds K fd ["amount"] []) (T : Gb mg) : C8.Cal P w K mg base 1 "checked_amount" sp_checked_amount [] := by
  refine C8.cal0 F b .nil sc_checked_amount (fun vs H Q E h => ?_) (fun cdv A outer s H vs Q E hr h => ?_)
  · obtain ⟨n, rfl, _⟩ := h
    rfl
  · obtain ⟨n, rfl, hn, q⟩ := h
    refine ⟨_, (pss_cons (ps_if (PW.pt (pw_or (pt_cmpR op_lt (pv 0) pe_int (nomark _)) (pw_or1 (pt_cmpR op_gt (pv 0) (C8.pe_gc (by rfl) T.MOST) (nomark _)))))
(pss_one ps_never)
pss_nil)
(pss_one (ps_ret (pv 0)))), ?_⟩
    refine ⟨_, rfl, _, _, rfl, rfl, _, rfl, ?_⟩
    refine ifF (by omega) ?_
    refine ⟨_, rfl, _, _, rfl, rfl, _, rfl, ?_⟩
    refine ifF (fun z => ?_) ?_
    · have h1 : (10 : Int) ^ 30 < (n : Int) := z
      have h2 : (1000000 : Int) ≤ 10 ^ 30 := by decide
      omega
    · exact ⟨_, rfl, q⟩
abbrev s_keeps_good : Stmt := top 54
abbrev N_keeps_good : List Str := ["table", "one", "two", "time"]
theorem sc_keeps_good : FnScope N_keeps_good ["table", "one", "two"] (C8.fnScope s_keeps_good) := C8.fnScope_by (by decide +kernel)
def sp_keeps_good (K : PySem.W.Frag) : Sp := fun vs H Q _ => ∃ (ta ra : Addr) (L : Nat), vs = [.ref ta, .ref ra, .ref ra] ∧ TblAt K H ta ∧ RowAt K H ra L ∧ ∀ H', Same H H' → Q (.bl true) H'
theorem ok_keeps_good {f : Addr} {fd : FuncData} (F : C8.Def K mg "keeps_good" s_keeps_good f fd) (b : Binds K fd ["table", "one", "two"] []) (T : Gb mg) : C8.Cal P w K mg base 1 "keeps_good" (sp_keeps_good K) [] := by
  refine C8.cal0 F b .nil sc_keeps_good (fun vs H Q E h => ?_) (fun cdv A outer s H vs Q E hr h => ?_)
  · obtain ⟨ta, ra, L, rfl, _⟩ := h
    rfl
  · obtain ⟨ta, ra, L, rfl, hT, hR, q⟩ := h
    refine ⟨_, (pss_one (ps_ret (pe_callB (cr_all rfl) (by rfl) T.all (by decide +kernel) (pa_cons (pe_lc (own := [("time", 3)]) rfl sc_keeps_good.nd (pi_range1 (by rfl) T.range (pa_cons (C8.pe_gc (by rfl) T.TIMES) pa_nil)) (blkOk_by (N := N_keeps_good) (sc := C8.fnScope s_keeps_good) (by decide +kernel)) (fun _ _ _ _ _ => (pg_name (i := 3) sc_keeps_good.nd rfl (Or.inl rfl))) (fun _ _ _ _ _ => pts_nil) (fun _ _ _ _ _ => (pe_ix (ix_listK K rfl) (pe_ix (ix_listK K rfl) (pv 0) (pe_ix (ix_listK K rfl) (pv 1) (pv 3) (fun _ _ => rfl)) (fun _ _ => rfl)) (pe_ix (ix_listK K rfl) (pv 2) (pv 3) (fun _ _ => rfl)) (fun _ _ => rfl)))) pa_nil)))), ?_⟩
    refine ⟨10, rfl, by decide, by decide, fun D hD => lc_it (walk_range (lo := 0) (n := 10)) (fun j H' => Same H H' ∧ H' D = some (.lst ((List.replicate j true).map V.bl)))
      ⟨same_new (Same.refl _) hD, upd_same⟩ (fun _ _ _ _ => trivial) ?_ ?_⟩
    · rintro j x H1 H1' hj ⟨s1, h1⟩ ⟨rfl, rfl⟩
      refine ⟨rfl, yes_go ?_⟩
      have hx := row_le j L
      obtain ⟨xs, a, ys, e1, e2, e3, e4⟩ := (hT.mono s1).get hx
      have hR1 := s1 _ _ hR
      have ej : (0 : Int) + (j : Int) = (j : Int) := Int.zero_add _
      show (_ : Prop)
      refine ⟨_, rfl, _, rfl, _, rfl, ra, _, _, _, rfl, rfl, SqL.of hR1, (by rw [ej]; exact atI_nat (row_at hj)), ta, xs, _, _, rfl, rfl, SqL.of e1, atI_nat e2, _, rfl, _, rfl, ra, _, _, _, rfl, rfl, SqL.of hR1, (by rw [ej]; exact atI_nat (row_at hj)), a, ys, _, _, rfl, rfl, SqL.of e3, atI_nat (e4 _ hx), ?_⟩
      have etb : tb (if j ≤ L then 0 else 1) (if j ≤ L then 0 else 1) = true := by split <;> rfl
      rw [etb]
      refine ⟨_, h1, size_lt (by rw [List.length_map, List.length_replicate]; omega), same_mut s1 hD, ?_⟩
      rw [List.replicate_succ', List.map_append]
      exact upd_same
    · rintro H1 ⟨s1, h1⟩
      refine ⟨D, _, rfl, SqL.of h1, ?_⟩
      have e : ((List.replicate 10 true).all id) = true := rfl
      rw [e]
      exact q H1 s1
abbrev s_good_pairs : Stmt := top 55
abbrev N_good_pairs : List Str := ["rows", "flag", "left", "right", "table", "changed"]
theorem sc_good_pairs : FnScope N_good_pairs ["rows"] (C8.fnScope s_good_pairs) := C8.fnScope_by (by decide +kernel)
def sp_good_pairs (K : PySem.W.Frag) : Sp := fun vs H Q _ => ∃ (rs ra : Addr) (L : Nat), vs = [.ref rs] ∧ H rs = some (.lst [.ref ra]) ∧ RowAt K H ra L ∧ ∀ ta H', Same H H' → TblAt K H' ta → Q (.ref ta) H'
theorem ok_good_pairs {f : Addr} {fd : FuncData} (F : C8.Def K mg "good_pairs" s_good_pairs f fd) (b : Binds K fd ["rows"] []) (T : Gb mg) (c_keeps_good : C8.Cal P w K mg base 1 "keeps_good" (sp_keeps_good K) []) : C8.Cal P w K mg base 2 "good_pairs" (sp_good_pairs K) [] := by
  refine C8.cal0 F b .nil sc_good_pairs (fun vs H Q E h => ?_) (fun cdv A outer s H vs Q E hr h => ?_)
  · obtain ⟨rs, ra, L, rfl, _⟩ := h
    rfl
  · obtain ⟨rs, ra, L, rfl, hrs, hR, q⟩ := h
    refine ⟨_, (pss_cons (ps_set (i := 1) sc_good_pairs.nd rfl (Or.inr rfl) (pe_callB (call_lenK K rfl) (by rfl) T.len PySem.boot_len (pa_cons (pv 0) pa_nil)))
(pss_cons (ps_setLc (i := 4) (own := [("left", 2)]) rfl sc_good_pairs.nd rfl rfl (sw_true rfl rfl rfl (by decide +kernel)) (pi_range1 (by rfl) T.range (pa_cons (pe_op op_add (pv 1) pe_int) pa_nil)) (blkOk_by (N := N_good_pairs) (sc := C8.fnScope s_good_pairs) (by decide +kernel)) (fun _ _ _ _ _ => (pg_name (i := 2) sc_good_pairs.nd rfl (Or.inr rfl))) (fun _ _ _ _ _ => pts_nil) (fun _ _ _ _ _ => (pe_lc (own := [("right", 3)]) rfl sc_good_pairs.nd (pi_range1 (by rfl) T.range (pa_cons (pe_op op_add (pv 1) pe_int) pa_nil)) (blkOk_by (N := N_good_pairs) (sc := { kind := .function, names := [(Str.ofString ".0", .local), (Str.ofString "left", .cell), (Str.ofString "range", .globalImplicit), (Str.ofString "flag", .cell)], isGenerator := false, isCoroutine := false }) (by decide +kernel)) (fun _ _ _ _ _ => (pg_name (i := 3) sc_good_pairs.nd rfl (Or.inl rfl))) (fun _ _ _ _ _ => pts_nil) (fun _ _ _ _ _ => (pe_or (pe_cmpR op_lt (pv 2) (pv 1) (nomark _)) (pe_one (pe_cmpR op_eq (pv 3) (pv 1) (nomark _))))))))
(pss_cons (ps_set (i := 5) sc_good_pairs.nd rfl (Or.inl rfl) pe_bl)
(pss_cons (ps_while PassesOwn.never (pt_val (pv 5))
(pss_cons (ps_set (i := 5) sc_good_pairs.nd rfl (Or.inl rfl) pe_bl)
(pss_one (ps_for PassesOwn.never rfl (pi_range1 (by rfl) T.range (pa_cons (pv 1) pa_nil)) (pg_name (i := 2) sc_good_pairs.nd rfl (Or.inl rfl))
(pss_one (ps_for PassesOwn.never rfl (pi_range1 (by rfl) T.range (pa_cons (pv 1) pa_nil)) (pg_name (i := 3) sc_good_pairs.nd rfl (Or.inl rfl))
(pss_one (ps_if (PW.pt (pw_and (pt_val (pe_ix (ix_listK K rfl) (pe_ix (ix_listK K rfl) (pv 4) (pv 2) (fun _ _ => rfl)) (pv 3) (fun _ _ => rfl))) (pw_and1 (pt_not (pt_val (C8.pe_c c_keeps_good hr (by decide) (by rfl) (pa_cons (pv 4) (pa_cons (pe_ix (ix_listK K rfl) (pv 0) (pv 2) (fun _ _ => rfl)) (pa_cons (pe_ix (ix_listK K rfl) (pv 0) (pv 3) (fun _ _ => rfl)) pa_nil)))))))))
(pss_cons ps_never (pss_one ps_never))
pss_nil))))))))
(pss_one (ps_ret (pv 4))))))), ?_⟩
    refine ⟨_, rfl, rs, _, rfl, .inl (SqL.of hrs), ?_⟩
    refine ⟨_, rfl, _, _, rfl, rfl, 2, rfl, by decide, by decide, fun D hD => lc_it (walk_range (lo := 0) (n := 2)) (fun j H' => Same H H' ∧ ∃ xs, H' D = some (.lst xs) ∧ xs.length = j ∧ ∀ i, i < j → ∃ a, xs[i]? = some (.ref a) ∧ H' a = some (.lst [.bl (tb i 0), .bl (tb i 1)]))
      ⟨same_new (Same.refl _) hD, [], upd_same, rfl, fun i hi => by omega⟩ (fun _ _ _ _ => trivial) ?_ ?_⟩
    · rintro j x H1 H1' hj ⟨s1, xs, hx, hxl, hxa⟩ ⟨rfl, rfl⟩
      refine ⟨rfl, yes_go ?_⟩
      refine ⟨_, rfl, _, _, rfl, rfl, 2, rfl, by decide, by decide, fun D2 hD2 => lc_it (walk_range (lo := 0) (n := 2)) (fun t H' => Same H1' H' ∧ H' D2 = some (.lst ((List.range t).map fun y => .bl (tb j y))))
        ⟨same_new (Same.refl _) hD2, upd_same⟩ (fun _ _ _ _ => trivial) ?_ ?_⟩
      · rintro t x H2 H2' ht ⟨s2, h2⟩ ⟨rfl, rfl⟩
        refine ⟨rfl, yes_go ?_⟩
        refine ⟨_, rfl, _, rfl, _, _, rfl, rfl, _, rfl, ?_⟩
        have fin : upd H2' D2 (.lst (((List.range t).map fun y => V.bl (tb j y)) ++ [V.bl (tb j t)])) D2 = some (.lst ((List.range (t + 1)).map fun y => .bl (tb j y))) := by
          rw [List.range_succ, List.map_append]
          exact upd_same
        have lt : ((List.range t).map fun y => V.bl (tb j y)).length < sizeLine := size_lt (by rw [List.length_map, List.length_range]; omega)
        by_cases e : (0 : Int) + (j : Int) < 1
        · refine ifT e ?_
          have e2 : V.bl true = V.bl (tb j t) := by unfold tb; rw [decide_eq_true (show j < 1 by omega)]; rfl
          rw [e2]
          exact ⟨_, h2, lt, same_mut s2 hD2, fin⟩
        · refine ifF e ?_
          refine ⟨_, rfl, _, rfl, rfl, ?_⟩
          have e2 : V.bl (decide (V.int (0 + (t : Int)) = V.int (([V.ref ra] : List V).length : Nat))) = V.bl (tb j t) := by
            unfold tb
            rw [decide_eq_false (show ¬ j < 1 by omega), Bool.false_or]
            congr 1
            refine decide_eq_decide.mpr ?_
            constructor
            · intro z; have := V.int.inj z; simp at this; omega
            · intro z; rw [z]; rfl
          show ∃ acc, _
          refine ⟨_, h2, lt, same_mut s2 hD2, ?_⟩
          refine Eq.trans ?_ fin
          exact congrArg (fun z => upd H2' D2 (.lst (((List.range t).map fun y => V.bl (tb j y)) ++ [z])) D2) e2
      · rintro H2 ⟨s2, h2⟩
        have hx2 := s2 _ _ hx
        have n2 : D2 ≠ D := fun z => by rw [z, hx] at hD2; cases hD2
        refine ⟨xs, hx2, size_lt (by omega), same_mut (s1.trans s2) hD, _, upd_same, by rw [List.length_append, hxl]; rfl, fun i hi => ?_⟩
        by_cases e : i = j
        · subst e
          refine ⟨D2, ?_, (upd_ne n2).trans h2⟩
          rw [List.getElem?_append_right (by omega), hxl, Nat.sub_self]
          rfl
        · obtain ⟨a, ha1, ha2⟩ := hxa i (by omega)
          have na : a ≠ D := fun z => by
            rw [z, hx] at ha2
            have ha2 := HO.lst.inj (Option.some.inj ha2)
            have h0 : xs = [.bl (tb i 0), .bl (tb i 1)] := ha2
            rw [h0] at hxl
            have : (2 : Nat) = j := hxl
            omega
          exact ⟨a, by rw [List.getElem?_append_left (by omega)]; exact ha1, (upd_ne na).trans (s2 _ _ ha2)⟩
    · rintro H1 ⟨s1, xs, hx, hxl, hxa⟩
      have hT : TblAt K H1 D := by
        obtain ⟨a, ha1, ha2⟩ := hxa 0 (by decide)
        obtain ⟨b', hb1, hb2⟩ := hxa 1 (by decide)
        refine ⟨a, b', ?_, ha2, hb2⟩
        match xs, hxl, ha1, hb1 with
        | [_, _], _, rfl, rfl => exact hx
      have hr1 := s1 _ _ hrs
      have hR1 : RowAt K H1 ra L := s1 _ _ hR
      refine ⟨fun m σ H' => Same H1 H' ∧ ∃ v2 v3, σ = [some (.ref rs), some (.int 1), v2, v3, some (.ref D), some (.bl (decide (m = 1)))] ∧ m ≤ 1, ⟨1, Same.refl _, _, _, rfl, Nat.le_refl _⟩, ?_⟩
      rintro m σ H2 ⟨s2, v2, v3, rfl, hm⟩
      refine ⟨_, rfl, _, rfl, ?_⟩
      by_cases e : m = 1
      · subst e
        refine iteT ?_
        refine ⟨fun σ' H' => Same H1 H' ∧ ∃ v2 v3, σ' = [some (.ref rs), some (.int 1), v2, v3, some (.ref D), some (.bl false)], fun σ' H' ⟨s', v2, v3, e⟩ => ⟨0, by decide, s', v2, v3, e, by decide⟩, ?_⟩
        refine ⟨_, rfl, 1, rfl, by decide, by decide, for_it (walk_range (lo := 0) (n := 1)) (fun j σ' H' => Same H1 H' ∧ ∃ v2 v3, σ' = [some (.ref rs), some (.int 1), v2, v3, some (.ref D), some (.bl false)])
          ⟨s2, _, _, rfl⟩ (fun _ _ _ _ _ => trivial) ?_ ?_⟩
        · rintro j x σ3 H3 H3' hj ⟨s3, v2', v3', rfl⟩ ⟨rfl, rfl⟩
          have j0 : j = 0 := by omega
          subst j0
          refine ⟨_, rfl, 1, rfl, by decide, by decide, for_it (walk_range (lo := 0) (n := 1)) (fun j σ' H' => Same H1 H' ∧ ∃ v3, σ' = [some (.ref rs), some (.int 1), some (.int 0), v3, some (.ref D), some (.bl false)])
            ⟨s3, _, rfl⟩ (fun _ _ _ _ _ => trivial) ?_ ?_⟩
          · rintro t x σ4 H4 H4' ht ⟨s4, v3'', rfl⟩ ⟨rfl, rfl⟩
            have t0 : t = 0 := by omega
            subst t0
            obtain ⟨ys, a, zs, e1, e2, e3, e4⟩ := (hT.mono s4).get (x := 0) (by decide)
            have hr4 := s4 _ _ hr1
            have hR4 := s4 _ _ hR1
            refine ⟨_, rfl, _, rfl, D, ys, ((0 : Nat) : Int), _, rfl, rfl, SqL.of e1, atI_nat e2, _, rfl, a, zs, ((0 : Nat) : Int), _, rfl, rfl, SqL.of e3, atI_nat (e4 0 (by decide)), _, rfl, ?_⟩
            refine iteT ?_
            refine ⟨_, rfl, _, rfl, _, rfl, rs, _, ((0 : Nat) : Int), _, rfl, rfl, SqL.of hr4, atI_nat rfl, _, rfl, _, rfl, rs, _, ((0 : Nat) : Int), _, rfl, rfl, SqL.of hr4, atI_nat rfl, D, ra, L, rfl, hT.mono s4, hR4, fun H5 s5 => ?_⟩
            refine ⟨_, rfl, ?_⟩
            refine iteF ?_
            exact ⟨s4.trans s5, _, rfl⟩
          · rintro σ4 H4 ⟨s4, v3'', rfl⟩
            exact ⟨s4, _, _, rfl⟩
        · rintro σ3 H3 ⟨s3, v2', v3', rfl⟩
          exact ⟨s3, _, _, rfl⟩
      · rw [decide_eq_false e]
        refine iteF ?_
        exact ⟨_, rfl, q D H2 (s1.trans s2) (hT.mono s2)⟩
abbrev s_is_honest : Stmt := top 56
abbrev N_is_honest : List Str := ["rows", "table", "row", "time"]
theorem sc_is_honest : FnScope N_is_honest ["rows"] (C8.fnScope s_is_honest) := C8.fnScope_by (by decide +kernel)
def sp_is_honest (K : PySem.W.Frag) : Sp := fun vs H Q _ => ∃ (rs ra : Addr) (L : Nat), vs = [.ref rs] ∧ H rs = some (.lst [.ref ra]) ∧ RowAt K H ra L ∧ ∀ H', Same H H' → Q (.bl true) H'
theorem ok_is_honest {f : Addr} {fd : FuncData} (F : C8.Def K mg "is_honest" s_is_honest f fd) (b : Binds K fd ["rows"] []) (T : Gb mg) (c_good_pairs : C8.Cal P w K mg base 2 "good_pairs" (sp_good_pairs K) []) : C8.Cal P w K mg base 3 "is_honest" (sp_is_honest K) [] := by
  refine C8.cal0 F b .nil sc_is_honest (fun vs H Q E h => ?_) (fun cdv A outer s H vs Q E hr h => ?_)
  · obtain ⟨rs, ra, L, rfl, _⟩ := h
    rfl
  · obtain ⟨rs, ra, L, rfl, hrs, hR, q⟩ := h
    refine ⟨_, (pss_cons (ps_set (i := 1) sc_is_honest.nd rfl (Or.inl rfl) (C8.pe_c c_good_pairs hr (by decide) (by rfl) (pa_cons (pv 0) pa_nil)))
(pss_cons (ps_for PassesOwn.never rfl (pi_listK K rfl (pv 0)) (pg_name (i := 2) sc_is_honest.nd rfl (Or.inl rfl))
(pss_one (ps_for PassesOwn.never rfl (pi_range1 (by rfl) T.range (pa_cons (pe_op op_sub (C8.pe_gc (by rfl) T.TIMES) pe_int) pa_nil)) (pg_name (i := 3) sc_is_honest.nd rfl (Or.inl rfl))
(pss_one (ps_if (pt_not (pt_val (pe_ix (ix_listK K rfl) (pe_ix (ix_listK K rfl) (pv 1) (pe_ix (ix_listK K rfl) (pv 2) (pv 3) (fun _ _ => rfl)) (fun _ _ => rfl)) (pe_ix (ix_listK K rfl) (pv 2) (pe_op op_add (pv 3) pe_int) (fun _ _ => rfl)) (fun _ _ => rfl))))
(pss_one (ps_ret pe_bl))
pss_nil)))))
(pss_one (ps_ret pe_bl)))), ?_⟩
    refine ⟨_, rfl, rs, ra, L, rfl, hrs, hR, fun ta H1 s1 hT => ?_⟩
    have hr1 := s1 _ _ hrs
    have hR1 := s1 _ _ hR
    refine ⟨_, rfl, rs, rfl, ⟨_, SqL.of hr1⟩, for_it (walk_list (xs := [V.ref ra])) (fun j σ' H' => Same H1 H' ∧ ∃ v2 v3, σ' = [some (.ref rs), some (.ref ta), v2, v3])
      ⟨Same.refl _, _, _, rfl⟩ (fun _ _ _ _ h => SqL.of (h.1 _ _ hr1)) ?_ ?_⟩
    · rintro j x σ2 H2 H2' hj ⟨s2, v2, v3, rfl⟩ ⟨rfl, hx⟩
      have hj : j < 1 := hj
      have j0 : j = 0 := by omega
      subst j0
      obtain rfl : V.ref ra = x := Option.some.inj hx
      refine ⟨_, _, rfl, rfl, 9, rfl, by decide, by decide, for_it (walk_range (lo := 0) (n := 9)) (fun j σ' H' => Same H1 H' ∧ ∃ v3, σ' = [some (.ref rs), some (.ref ta), some (.ref ra), v3])
        ⟨s2, _, rfl⟩ (fun _ _ _ _ _ => trivial) ?_ ?_⟩
      · rintro t x σ3 H3 H3' ht ⟨s3, v3', rfl⟩ ⟨rfl, rfl⟩
        have hR3 := s3 _ _ hR1
        obtain ⟨ys, a, zs, e1, e2, e3, e4⟩ := (hT.mono s3).get (row_le t L)
        have et : (0 : Int) + (t : Int) = (t : Int) := Int.zero_add _
        have et1 : (0 : Int) + (t : Int) + 1 = ((t + 1 : Nat) : Int) := by omega
        refine ⟨_, rfl, _, rfl, _, rfl, ra, _, _, _, rfl, rfl, SqL.of hR3, (by rw [et]; exact atI_nat (row_at (by omega))), ta, ys, _, _, rfl, rfl, SqL.of e1, atI_nat e2, _, rfl, _, rfl, _, _, rfl, rfl, ra, _, _, _, rfl, rfl, SqL.of hR3, (by rw [et1]; exact atI_nat (row_at (by omega))), a, zs, _, _, rfl, rfl, SqL.of e3, atI_nat (e4 _ (row_le (t + 1) L)), _, rfl, ?_⟩
        have etb : tb (if t ≤ L then 0 else 1) (if t + 1 ≤ L then 0 else 1) = true := by
          by_cases e : t ≤ L
          · rw [if_pos e]; rfl
          · rw [if_neg e, if_neg (by omega)]; rfl
        rw [etb]
        refine iteF ?_
        exact ⟨s3, _, rfl⟩
      · rintro σ3 H3 ⟨s3, v3', rfl⟩
        exact ⟨s3, _, _, rfl⟩
    · rintro σ2 H2 ⟨s2, v2, v3, rfl⟩
      exact q H2 (s1.trans s2)
abbrev s_stages_fit : Stmt := top 57
abbrev N_stages_fit : List Str := ["stages", "moves", "gain"]
theorem sc_stages_fit : FnScope N_stages_fit ["stages"] (C8.fnScope s_stages_fit) := C8.fnScope_by (by decide +kernel)
def sp_stages_fit (K : PySem.W.Frag) : Sp := fun vs H Q _ => ∃ a : Addr, vs = [.ref a] ∧ H a = some (.lst []) ∧ ∀ H', Same H H' → Q (.bl true) H'
theorem ok_stages_fit {f : Addr} {fd : FuncData} (F : C8.Def K mg "stages_fit" s_stages_fit f fd) (b : Binds K fd ["stages"] []) (T : Gb mg) : C8.Cal P w K mg base 1 "stages_fit" (sp_stages_fit K) [] := by
  refine C8.cal0 F b .nil sc_stages_fit (fun vs H Q E h => ?_) (fun cdv A outer s H vs Q E hr h => ?_)
  · obtain ⟨a, rfl, _⟩ := h
    rfl
  · obtain ⟨a, rfl, ha, q⟩ := h
    refine ⟨_, (pss_cons (ps_if (pt_cmpR op_gt (pe_callB (call_lenK K rfl) (by rfl) T.len PySem.boot_len (pa_cons (pv 0) pa_nil)) (C8.pe_gc (by rfl) T.MOST_STAGES) (nomark _))
(pss_one (ps_ret pe_bl))
pss_nil)
(pss_cons (ps_for PassesOwn.never rfl (pi_listK K rfl (pv 0)) (pg_tup (by rfl) (pgs_cons (pg_name (i := 1) sc_stages_fit.nd rfl (Or.inl rfl)) (pgs_cons (pg_name (i := 2) sc_stages_fit.nd rfl (Or.inl rfl)) pgs_nil)))
(pss_one ps_never))
(pss_one (ps_ret pe_bl)))), ?_⟩
    refine ⟨_, rfl, a, _, rfl, .inl (SqL.of ha), _, _, rfl, rfl, _, rfl, ?_⟩
    refine ifF (by decide) ?_
    refine ⟨_, rfl, a, rfl, ⟨_, SqL.of ha⟩, for_it (walk_list (xs := [])) (fun j σ' H' => Same H H') (Same.refl _) (fun _ _ _ _ h => SqL.of (h _ _ ha)) (fun j x σ' H1 H1' hj => absurd hj (Nat.not_lt_zero _)) (fun σ' H1 s1 => q H1 s1)⟩
abbrev s_overtime_fits : Stmt := top 58
abbrev N_overtime_fits : List Str := ["rows", "row"]
theorem sc_overtime_fits : FnScope N_overtime_fits ["rows"] (C8.fnScope s_overtime_fits) := C8.fnScope_by (by decide +kernel)
theorem row_ints (L : Nat) : (rowN L).map nV = ((rowN L).map fun (n : Nat) => (n : Int)).map V.int := by rw [List.map_map]; rfl
def sp_overtime_fits (K : PySem.W.Frag) : Sp := fun vs H Q _ => ∃ (rs ra : Addr) (L : Nat), vs = [.ref rs] ∧ H rs = some (.lst [.ref ra]) ∧ RowAt K H ra L ∧ ∀ H', Same H H' → Q (.bl true) H'
theorem ok_overtime_fits {f : Addr} {fd : FuncData} (F : C8.Def K mg "overtime_fits" s_overtime_fits f fd) (b : Binds K fd ["rows"] []) (T : Gb mg) (c_is_honest : C8.Cal P w K mg base 3 "is_honest" (sp_is_honest K) []) : C8.Cal P w K mg base 4 "overtime_fits" (sp_overtime_fits K) [] := by
  refine C8.cal0 F b .nil sc_overtime_fits (fun vs H Q E h => ?_) (fun cdv A outer s H vs Q E hr h => ?_)
  · obtain ⟨rs, ra, L, rfl, _⟩ := h
    rfl
  · obtain ⟨rs, ra, L, rfl, hrs, hR, q⟩ := h
    refine ⟨_, (pss_cons (ps_if (pt_cmpR op_gt (pe_callB (call_lenK K rfl) (by rfl) T.len PySem.boot_len (pa_cons (pv 0) pa_nil)) (C8.pe_gc (by rfl) T.MOST_STATES) (nomark _))
(pss_one (ps_ret pe_bl))
pss_nil)
(pss_cons (ps_for PassesOwn.never rfl (pi_listK K rfl (pv 0)) (pg_name (i := 1) sc_overtime_fits.nd rfl (Or.inl rfl))
(pss_one (ps_if (PW.pt (pw_or (pt_cmpR op_ne (pe_callB (call_lenK K rfl) (by rfl) T.len PySem.boot_len (pa_cons (pv 1) pa_nil)) (C8.pe_gc (by rfl) T.TIMES) (nomark _)) (pw_or (pt_cmpR op_lt (pe_callB (cr_min rfl) (by rfl) T.min (by decide +kernel) (pa_cons (pv 1) pa_nil)) pe_int (nomark _)) (pw_or1 (pt_cmpR op_gt (pe_callB (cr_max rfl) (by rfl) T.max (by decide +kernel) (pa_cons (pv 1) pa_nil)) (pe_callB (call_lenK K rfl) (by rfl) T.len PySem.boot_len (pa_cons (pv 0) pa_nil)) (nomark _))))))
(pss_one (ps_ret pe_bl))
pss_nil)))
(pss_one (ps_ret (C8.pe_c c_is_honest hr (by decide) (by rfl) (pa_cons (pv 0) pa_nil)))))), ?_⟩
    refine ⟨_, rfl, rs, _, rfl, .inl (SqL.of hrs), _, _, rfl, rfl, _, rfl, ?_⟩
    refine ifF (by show ¬ ((12 : Int) < ((1 : Nat) : Int)); decide) ?_
    refine ⟨_, rfl, rs, rfl, ⟨_, SqL.of hrs⟩, for_it (walk_list (xs := [V.ref ra])) (fun j σ' H' => H' = H ∧ ∃ v1, σ' = [some (.ref rs), v1]) ⟨rfl, _, rfl⟩ (fun _ _ _ _ h => by rw [h.1]; exact SqL.of hrs) ?_ ?_⟩
    · rintro j x σ' H1 H1' hj ⟨rfl, v1, rfl⟩ ⟨rfl, hx⟩
      have hj : j < 1 := hj
      have j0 : j = 0 := by omega
      subst j0
      obtain rfl : V.ref ra = x := Option.some.inj hx
      have hlen : ((rowN L).map nV).length = 10 := by rw [List.length_map, rowN_len]
      refine ⟨_, rfl, ra, _, rfl, .inl (SqL.of hR), rfl, _, rfl, ?_⟩
      rw [hlen]
      refine iteF ?_
      have hR2 := hR
      unfold RowAt at hR2
      rw [row_ints] at hR2
      have hpos : 0 < ((rowN L).map fun (n : Nat) => (n : Int)).length := by rw [List.length_map, rowN_len]; decide
      refine ⟨_, rfl, ra, _, rfl, SqL.of hR2, hpos, fun m hm hle => ?_⟩
      obtain ⟨n, hn, rfl⟩ := List.mem_map.mp hm
      refine ⟨_, _, rfl, rfl, _, rfl, ?_⟩
      refine ifF (by omega) ?_
      refine ⟨_, rfl, ra, _, rfl, SqL.of hR2, hpos, fun m hm hle => ?_⟩
      obtain ⟨n', hn', rfl⟩ := List.mem_map.mp hm
      have := rowN_le hn'
      refine ⟨_, rfl, rs, _, rfl, .inl (SqL.of hrs), _, _, rfl, rfl, _, rfl, ?_⟩
      refine ifF (by show ¬ ((n' : Int) > ((1 : Nat) : Int)); omega) ?_
      exact ⟨rfl, _, rfl⟩
    · rintro σ' H1 ⟨rfl, v1, rfl⟩
      exact ⟨_, rfl, rs, ra, L, rfl, hrs, hR, fun H' s' => q H' s'⟩
end
end My
namespace My
open PySem L2
/-! ### Book, Clock -/
/-- all but the addresses X is as it was, and tuples stand -/
structure Off (K : PySem.W.Frag) (X : List Addr) (H H' : Hp) : Prop where
  same : ∀ a o, a ∉ X → H a = some o → H' a = some o
  tup : Tup K H H'
theorem Off.of {K : PySem.W.Frag} {X : List Addr} {H H' : Hp} (s : Same H H') : Off K X H H' := ⟨fun a o _ e => s a o e, s.tups⟩
theorem Off.trans {K : PySem.W.Frag} {X : List Addr} {H H' H'' : Hp} (s : Off K X H H') (t : Off K X H' H'') : Off K X H H'' := ⟨fun a o n e => t.same a o n (s.same a o n e), s.tup.trans t.tup⟩
theorem Off.more {K : PySem.W.Frag} {X Y : List Addr} {H H' : Hp} (s : Off K X H H') (h : ∀ a ∈ X, a ∈ Y) : Off K Y H H' := ⟨fun a o n e => s.same a o (fun z => n (h a z)) e, s.tup⟩
theorem tup_ins {K : PySem.W.Frag} {H : Hp} {p C dx : Addr} {fs : List (Str × V)} {o : HO} (h : H p = some (.ins C dx fs)) : Tup K H (upd H p o) := fun a xs q => by
  by_cases z : a = p
  · subst z
    rcases q with (q | ⟨o, q⟩) | q
    · rw [h] at q; cases q
    · rw [h] at q; cases q
    · exact .inr q
  · rcases q with (q | ⟨o, q⟩) | q
    · exact .inl (.inl ((upd_ne z).trans q))
    · exact .inl (.inr ⟨o, (upd_ne z).trans q⟩)
    · exact .inr q
theorem Off.ins {K : PySem.W.Frag} {H : Hp} {p C dx : Addr} {fs : List (Str × V)} {o : HO} (h : H p = some (.ins C dx fs)) : Off K [p] H (upd H p o) := ⟨fun a u n e => (upd_ne (fun z => n (List.mem_singleton.mpr z))).trans e, tup_ins h⟩
theorem putF_len {f : Str} {v w : V} : ∀ {fs : List (Str × V)}, fs.lookup f = some w → (putF f v fs).length = fs.length
  | [], h => by cases h
  | (g, x) :: r, h => by
    show (if g = f then (g, v) :: r else (g, x) :: putF f v r : List (Str × V)).length = _
    by_cases e : g = f
    · rw [if_pos e]; rfl
    · rw [if_neg e, List.length_cons, List.length_cons, putF_len (fs := r) (w := w)]
      rw [List.lookup_cons] at h
      have : (f == g) = false := beq_eq_false_iff_ne.mpr (Ne.symm e)
      rw [this] at h
      exact h
structure ClsB (K : PySem.W.Frag) (C : Addr) : Prop where
  cl : Cls K C
  nKind : NoAttr K C "kind"
  nAllowance : NoAttr K C "allowance"
  nStages : NoAttr K C "stages"
  nOvertime : NoAttr K C "overtime"
def bf (k a s o : V) : List (Str × V) := putF "overtime" o (putF "stages" s (putF "allowance" a (putF "kind" k [])))
theorem bf_stages (k a s o : V) : (bf k a s o).lookup ("stages" : Str) = some s := by
  unfold bf
  rw [lookup_putF, if_neg (by decide +kernel), lookup_putF, if_pos rfl]
theorem bf_overtime (k a s o : V) : (bf k a s o).lookup ("overtime" : Str) = some o := by
  unfold bf
  rw [lookup_putF, if_pos rfl]
theorem bf_kind (k a s o : V) : (bf k a s o).lookup ("kind" : Str) = some k := by
  unfold bf
  rw [lookup_putF, if_neg (by decide +kernel), lookup_putF, if_neg (by decide +kernel), lookup_putF, if_neg (by decide +kernel), lookup_putF, if_pos rfl]
theorem bf_no (k a s o : V) {x : Str} (h1 : ¬ x = "overtime") (h2 : ¬ x = "stages") (h3 : ¬ x = "allowance") (h4 : ¬ x = "kind") : (bf k a s o).lookup x = none := by
  unfold bf
  rw [lookup_putF, if_neg h1, lookup_putF, if_neg h2, lookup_putF, if_neg h3, lookup_putF, if_neg h4]
  rfl
/-- a Book of one period of L at p -/
structure BookAt (K : PySem.W.Frag) (C : Addr) (H : Hp) (p : Addr) (L : Nat) : Prop where
  ex : ∃ (dx a1 a2 a3 : Addr), H p = some (.ins C dx (bf (.str "plain") (.int 0) (.ref a1) (.ref a2))) ∧ SqT K H a1 [] ∧ SqT K H a2 [.ref a3] ∧ SqT K H a3 ((rowN L).map nV)
theorem BookAt.off {K : PySem.W.Frag} {C : Addr} {H H' : Hp} {p : Addr} {L : Nat} {X : List Addr} (s : Off K X H H') (n : p ∉ X) (h : BookAt K C H p L) : BookAt K C H' p L := by
  obtain ⟨dx, a1, a2, a3, e, h1, h2, h3⟩ := h.ex
  exact ⟨dx, a1, a2, a3, s.same _ _ n e, s.tup _ _ h1, s.tup _ _ h2, s.tup _ _ h3⟩
theorem BookAt.mono {K : PySem.W.Frag} {C : Addr} {H H' : Hp} {p : Addr} {L : Nat} (s : Same H H') (h : BookAt K C H p L) : BookAt K C H' p L := h.off (X := []) (Off.of s) (fun z => nomatch z)
structure Gk (K : PySem.W.Frag) (mg : Str → Option Value) : Prop where
  BOOK_KINDS : ∃ a : Addr, mg "BOOK_KINDS" = some (.ref a) ∧ ∀ H, SqT K H a [.str "plain", .str "delay", .str "bonus"]
section
variable {P : Program} {w : World} {K : PySem.W.Frag} {mg : Str → Option Value} {base : Heap}
abbrev s_Book_init : Stmt := inClass (top 59) 0
abbrev N_Book_init : List Str := ["self", "kind", "allowance", "stages", "overtime", "stage", "row"]
theorem sc_Book_init : FnScope N_Book_init ["self", "kind", "allowance", "stages", "overtime"] (C8.fnScope s_Book_init) := C8.fnScope_by (by decide +kernel)
def sp_Book (K : PySem.W.Frag) (C : Addr) : Sp := fun vs H Q _ => ∃ (p dx sa rs ra : Addr) (L : Nat), vs = [.ref p, .str "plain", .int 0, .ref sa, .ref rs] ∧ H p = some (.ins C dx []) ∧ H sa = some (.lst []) ∧ H rs = some (.lst [.ref ra]) ∧ RowAt K H ra L ∧
  ∀ H', Off K [p] H H' → BookAt K C H' p L → Q .non H'
theorem ok_Book_init {C f : Addr} {fd : FuncData} (F : C8.Fun K "__init__" "Book.__init__" s_Book_init f fd) (b : Binds K fd ["self", "kind", "allowance", "stages", "overtime"] []) (cb : ClsB K C) (M : Mk K C f) (hmC : mg "Book" = some (.ref C)) (T : Gb mg) (Tk : Gk K mg)
    (c_stages_fit : C8.Cal P w K mg base 1 "stages_fit" (sp_stages_fit K) []) (c_overtime_fits : C8.Cal P w K mg base 4 "overtime_fits" (sp_overtime_fits K) []) : C8.Mak P w K mg base 5 "Book" C (sp_Book K C) [] := by
  obtain ⟨bk, hbk, hbkT⟩ := Tk.BOOK_KINDS
  refine C8.mak0 M hmC F b .nil sc_Book_init (fun vs H Q E h => ?_) (fun cdv A outer s H vs Q E hr h => ?_)
  · obtain ⟨p, dx, sa, rs, ra, L, rfl, _⟩ := h
    rfl
  · obtain ⟨p, dx, sa, rs, ra, L, rfl, hp, hsa, hrs, hR, q⟩ := h
    refine ⟨_, (pss_cons (ps_if (pt_cmpR (op_notInK K rfl) (pv 1) (C8.pe_gc (v := .ref bk) (by rfl) ⟨_, hbk, rfl⟩) rfl)
(pss_one ps_never)
pss_nil)
(pss_cons (ps_if (PW.pt (pw_or (pt_cmpR op_lt (pv 2) pe_int (nomark _)) (pw_or (pt_cmpR op_gt (pv 2) (C8.pe_gc (by rfl) T.MOST_ALLOWANCE) (nomark _)) (pw_or1 (PW.pt (pw_and (pt_cmpR op_eq (pv 1) pe_str (nomark _)) (pw_and1 (pt_cmpR op_gt (pv 2) pe_int (nomark _)))))))))
(pss_one ps_never)
pss_nil)
(pss_cons (ps_if (pt_not (pt_val (C8.pe_c c_stages_fit hr (by decide) (by rfl) (pa_cons (pv 3) pa_nil))))
(pss_one ps_never)
pss_nil)
(pss_cons (ps_if (pt_not (pt_val (C8.pe_c c_overtime_fits hr (by decide) (by rfl) (pa_cons (pv 4) pa_nil))))
(pss_one ps_never)
pss_nil)
(pss_cons (ps_fld (pv 0) (pv 1) rfl)
(pss_cons (ps_fld (pv 0) (pv 2) rfl)
(pss_cons (ps_fld (pv 0) (pe_callTy (call_tupK K rfl) (by rfl) T.tuple (by decide +kernel) (pa_cons (pe_lc (own := [("stage", 5)]) rfl sc_Book_init.nd (pi_listK K rfl (pv 3)) (blkOk_by (N := N_Book_init) (sc := C8.fnScope s_Book_init) (by decide +kernel)) (fun _ _ _ _ _ => (pg_name (i := 5) sc_Book_init.nd rfl (Or.inl rfl))) (fun _ _ _ _ _ => pts_nil) (fun _ _ _ _ _ => (pe_callTy (call_tupK K rfl) (by rfl) T.tuple (by decide +kernel) (pa_cons (pv 5) pa_nil)))) pa_nil)) rfl)
(pss_one (ps_fld (pv 0) (pe_callTy (call_tupK K rfl) (by rfl) T.tuple (by decide +kernel) (pa_cons (pe_lc (own := [("row", 6)]) rfl sc_Book_init.nd (pi_listK K rfl (pv 4)) (blkOk_by (N := N_Book_init) (sc := C8.fnScope s_Book_init) (by decide +kernel)) (fun _ _ _ _ _ => (pg_name (i := 6) sc_Book_init.nd rfl (Or.inl rfl))) (fun _ _ _ _ _ => pts_nil) (fun _ _ _ _ _ => (pe_callTy (call_tupK K rfl) (by rfl) T.tuple (by decide +kernel) (pa_cons (pv 6) pa_nil)))) pa_nil)) rfl))))))))), ?_⟩
    refine ⟨_, rfl, bk, _, rfl, .inr (hbkT H), rfl, rfl, _, rfl, ?_⟩
    refine iteF ?_
    refine ⟨_, rfl, _, _, rfl, rfl, _, rfl, ?_⟩
    refine ifF (by decide) ?_
    refine ⟨_, rfl, _, _, rfl, rfl, _, rfl, ?_⟩
    refine ifF (by decide) ?_
    refine ⟨_, rfl, rfl, _, rfl, ?_⟩
    refine ifT rfl ?_
    refine ⟨_, rfl, _, _, rfl, rfl, _, rfl, ?_⟩
    refine ifF (by decide) ?_
    refine ⟨_, rfl, sa, rfl, hsa, fun H1 s1 => ⟨_, rfl, ?_⟩⟩
    refine iteF ?_
    refine ⟨_, rfl, rs, ra, L, rfl, s1 _ _ hrs, s1 _ _ hR, fun H2 s2 => ⟨_, rfl, ?_⟩⟩
    refine iteF ?_
    have s02 := s1.trans s2
    have hp2 := s02 _ _ hp
    refine ⟨_, rfl, _, rfl, p, C, dx, [], rfl, hp2, cb.cl, cb.nKind, by decide, ?_⟩
    refine ⟨_, rfl, _, rfl, p, C, dx, _, rfl, upd_same, cb.cl, cb.nAllowance, by show 1 < 1000; decide, ?_⟩
    have o4 : Off K [p] H2 (upd (upd H2 p (.ins C dx (putF "kind" (.str "plain") []))) p (.ins C dx (putF "allowance" (.int 0) (putF "kind" (.str "plain") [])))) := (Off.ins hp2).trans (Off.ins upd_same)
    have o4 : Off K [p] H _ := (Off.of s02).trans o4
    have hp4 : upd (upd H2 p (.ins C dx (putF "kind" (.str "plain") []))) p (.ins C dx (putF "allowance" (.int 0) (putF "kind" (.str "plain") []))) p = some (.ins C dx (putF "allowance" (.int 0) (putF "kind" (.str "plain") []))) := upd_same
    generalize upd (upd H2 p (.ins C dx (putF "kind" (.str "plain") []))) p (.ins C dx (putF "allowance" (.int 0) (putF "kind" (.str "plain") []))) = H4 at o4 hp4 ⊢
    have off : ∀ {a : Addr} {xs : List V}, H a = some (.lst xs) → a ∉ [p] := fun {a xs} e z => by
      rw [List.mem_singleton] at z
      subst z
      rw [hp] at e
      cases e
    have hsa4 := o4.same _ _ (off hsa) hsa
    have hrs4 := o4.same _ _ (off hrs) hrs
    have hR4 : H4 ra = some (.lst ((rowN L).map nV)) := o4.same _ _ (off hR) hR
    refine ⟨_, rfl, sa, rfl, ⟨_, SqL.of hsa4⟩, fun D hD => lc_it (walk_list (xs := [])) (fun j H' => Same H4 H' ∧ H' D = some (.lst [])) ⟨same_new (Same.refl _) hD, upd_same⟩ (fun j H' _ h => SqL.of (h.1 _ _ hsa4)) (fun j x H5 H5' hj => absurd hj (Nat.not_lt_zero _)) ?_⟩
    rintro H5 ⟨s5, hD5⟩
    refine ⟨D, _, rfl, .inl ⟨SqL.of hD5, fun t1 ht1 => ?_⟩⟩
    have s6 := s5.trans (same_new (o := .tup []) (Same.refl H5) ht1)
    have ht16 : upd H5 t1 (.tup []) t1 = some (.tup []) := upd_same
    generalize upd H5 t1 (.tup []) = H6 at s6 ht16 ⊢
    have hp6 := s6 _ _ hp4
    refine ⟨_, rfl, p, C, dx, _, rfl, hp6, cb.cl, cb.nStages, by show 2 < 1000; decide, ?_⟩
    have o7 := (o4.trans (Off.of s6)).trans (Off.ins (o := .ins C dx (putF "stages" (.ref t1) (putF "allowance" (.int 0) (putF "kind" (.str "plain") [])))) hp6)
    have ht17 : SqT K (upd H6 p (.ins C dx (putF "stages" (.ref t1) (putF "allowance" (.int 0) (putF "kind" (.str "plain") []))))) t1 [] := tup_ins hp6 _ _ (SqT.of ht16)
    have hp7 : upd H6 p (.ins C dx (putF "stages" (.ref t1) (putF "allowance" (.int 0) (putF "kind" (.str "plain") [])))) p = some (.ins C dx (putF "stages" (.ref t1) (putF "allowance" (.int 0) (putF "kind" (.str "plain") [])))) := upd_same
    generalize upd H6 p (.ins C dx (putF "stages" (.ref t1) (putF "allowance" (.int 0) (putF "kind" (.str "plain") [])))) = H7 at o7 ht17 hp7 ⊢
    have hrs7 := o7.same _ _ (off hrs) hrs
    have hR7 : H7 ra = some (.lst ((rowN L).map nV)) := o7.same _ _ (off hR) hR
    refine ⟨_, rfl, rs, rfl, ⟨_, SqL.of hrs7⟩, fun D2 hD2 => lc_it (walk_list (xs := [V.ref ra])) (fun j H' => Same H7 H' ∧ ∃ acc, H' D2 = some (.lst acc) ∧ acc.length = j ∧ (j = 1 → ∃ t3, acc = [.ref t3] ∧ SqT K H' t3 ((rowN L).map nV))) ⟨same_new (Same.refl _) hD2, [], upd_same, rfl, fun z => by cases z⟩ (fun j H' _ h => SqL.of (h.1 _ _ hrs7)) ?_ ?_⟩
    · rintro j x H8 H8' hj ⟨s8, acc, ha, hal, _⟩ ⟨rfl, hx⟩
      have hj : j < 1 := hj
      have j0 : j = 0 := by omega
      subst j0
      obtain rfl : V.ref ra = x := Option.some.inj hx
      have e : acc = [] := List.length_eq_zero_iff.mp hal
      subst e
      refine ⟨rfl, yes_go ?_⟩
      refine ⟨_, rfl, ra, _, rfl, .inl ⟨SqL.of (s8 _ _ hR7), fun t3 ht3 => ?_⟩⟩
      have s9 := same_new (o := .tup ((rowN L).map nV)) (Same.refl H8') ht3
      have ha9 := s9 _ _ ha
      have ht39 : upd H8' t3 (.tup ((rowN L).map nV)) t3 = some (.tup ((rowN L).map nV)) := upd_same
      refine ⟨[], ha9, size_lt (by decide), same_mut (s8.trans s9) hD2, _, upd_same, rfl, fun _ => ⟨t3, rfl, tup_lst ha9 _ _ (SqT.of ht39)⟩⟩
    · rintro H8 ⟨s8, acc, ha, hal, h1⟩
      obtain ⟨t3, rfl, ht3⟩ := h1 rfl
      refine ⟨D2, _, rfl, .inl ⟨SqL.of ha, fun t2 ht2 => ?_⟩⟩
      have s9 := same_new (o := .tup [.ref t3]) (Same.refl H8) ht2
      have ht29 : upd H8 t2 (.tup [.ref t3]) t2 = some (.tup [.ref t3]) := upd_same
      have hp9 := (s8.trans s9) _ _ hp7
      have ht39 := s9.tup ht3
      have ht19 := (s8.trans s9).tup ht17
      have o9 := o7.trans (Off.of (s8.trans s9))
      generalize upd H8 t2 (.tup [.ref t3]) = H9 at s9 ht29 hp9 ht39 ht19 o9 ⊢
      refine ⟨_, rfl, p, C, dx, _, rfl, hp9, cb.cl, cb.nOvertime, by show 3 < 1000; decide, ?_⟩
      have t10 : Tup K H9 (upd H9 p (.ins C dx (putF "overtime" (.ref t2) (putF "stages" (.ref t1) (putF "allowance" (.int 0) (putF "kind" (.str "plain") [])))))) := tup_ins hp9
      exact q _ (o9.trans (Off.ins hp9)) ⟨dx, t1, t2, t3, upd_same, t10 _ _ ht19, t10 _ _ (SqT.of ht29), t10 _ _ ht39⟩
abbrev s_Book_stage_phase : Stmt := inClass (top 59) 2
abbrev N_Book_stage_phase : List Str := ["self", "stage"]
theorem sc_Book_stage_phase : FnScope N_Book_stage_phase ["self", "stage"] (C8.fnScope s_Book_stage_phase) := C8.fnScope_by (by decide +kernel)
def sp_stage_phase (K : PySem.W.Frag) (C : Addr) : Sp := fun vs H Q _ => ∃ (p : Addr) (L : Nat), vs = [.ref p, .int 0] ∧ BookAt K C H p L ∧ ∀ t H', Same H H' → H t = none → H' t = some (.tup [.int 0, .int 0]) → Q (.ref t) H'
theorem ok_stage_phase {C f : Addr} {fd : FuncData} (F : C8.Fun K "stage_phase" "Book.stage_phase" s_Book_stage_phase f fd) (b : Binds K fd ["self", "stage"] []) (cb : ClsB K C) (me : Meth K C "stage_phase" f) (T : Gb mg) : C8.Met P w K mg base 1 C "stage_phase" (sp_stage_phase K C) [] := by
  refine C8.met0 cb.cl me F b sc_Book_stage_phase (fun vs H Q E h => ?_) (fun cdv A outer s H vs Q E hr h => ?_)
  · obtain ⟨p, L, rfl, _⟩ := h
    rfl
  · obtain ⟨p, L, rfl, hB, q⟩ := h
    obtain ⟨dx, a1, a2, a3, hp, h1, h2, h3⟩ := hB.ex
    refine ⟨_, (pss_cons (ps_if (pt_cmpR op_lt (pv 1) (pe_callB (call_lenK K rfl) (by rfl) T.len PySem.boot_len (pa_cons (pe_fldK K rfl (pv 0) rfl) pa_nil)) (nomark _))
(pss_one ps_never)
pss_nil)
(pss_one (ps_ret (pe_tup (pa_cons (pv 1) (pa_cons pe_int pa_nil)))))), ?_⟩
    refine ⟨_, rfl, _, rfl, p, C, dx, _, _, rfl, hp, cb.cl, cb.nStages, bf_stages _ _ _ _, a1, _, rfl, .inr h1, _, _, rfl, rfl, _, rfl, ?_⟩
    refine ifF (by decide) ?_
    refine ⟨_, rfl, by show 2 ≤ sizeLine; decide, fun t ht => ?_⟩
    exact q t _ (same_new (Same.refl _) ht) ht upd_same
abbrev s_Book_opening : Stmt := inClass (top 59) 3
abbrev N_Book_opening : List Str := ["self"]
theorem sc_Book_opening : FnScope N_Book_opening ["self"] (C8.fnScope s_Book_opening) := C8.fnScope_by (by decide +kernel)
def sp_opening (K : PySem.W.Frag) (C : Addr) : Sp := fun vs H Q _ => ∃ (p : Addr) (L : Nat), vs = [.ref p] ∧ BookAt K C H p L ∧ ∀ t H', Same H H' → H t = none → H' t = some (.tup [.int 0, .int 0]) → Q (.ref t) H'
theorem ok_opening {C f : Addr} {fd : FuncData} (F : C8.Fun K "opening" "Book.opening" s_Book_opening f fd) (b : Binds K fd ["self"] []) (cb : ClsB K C) (me : Meth K C "opening" f) (m_stage_phase : C8.Met P w K mg base 1 C "stage_phase" (sp_stage_phase K C) []) : C8.Met P w K mg base 2 C "opening" (sp_opening K C) [] := by
  refine C8.met0 cb.cl me F b sc_Book_opening (fun vs H Q E h => ?_) (fun cdv A outer s H vs Q E hr h => ?_)
  · obtain ⟨p, L, rfl, _⟩ := h
    rfl
  · obtain ⟨p, L, rfl, hB, q⟩ := h
    obtain ⟨dx, a1, a2, a3, hp, h1, h2, h3⟩ := id hB.ex
    refine ⟨_, (pss_one (ps_ret (C8.pe_mt m_stage_phase hr (by decide) (pv 0) (pa_cons pe_int pa_nil)))), ?_⟩
    exact ⟨_, rfl, p, dx, _, rfl, hp, bf_no _ _ _ _ (by decide +kernel) (by decide +kernel) (by decide +kernel) (by decide +kernel), p, L, rfl, hB, fun t H' s1 ht e => q t H' s1 ht e⟩
abbrev s_Book_phases : Stmt := inClass (top 59) 4
abbrev N_Book_phases : List Str := ["self", "found", "stage", "done", "state"]
theorem sc_Book_phases : FnScope N_Book_phases ["self"] (C8.fnScope s_Book_phases) := C8.fnScope_by (by decide +kernel)
def sp_phases (K : PySem.W.Frag) (C : Addr) : Sp := fun vs H Q _ => ∃ (p : Addr) (L : Nat), vs = [.ref p] ∧ BookAt K C H p L ∧ ∀ l t1 t2 H', Same H H' → H' l = some (.lst [.ref t1, .ref t2]) → SqT K H' t1 [.int 0, .int 0] → SqT K H' t2 [.int (-1), .int 0] → Q (.ref l) H'
theorem ok_phases {C f : Addr} {fd : FuncData} (F : C8.Fun K "phases" "Book.phases" s_Book_phases f fd) (b : Binds K fd ["self"] []) (cb : ClsB K C) (me : Meth K C "phases" f) (T : Gb mg) : C8.Met P w K mg base 1 C "phases" (sp_phases K C) [] := by
  refine C8.met0 cb.cl me F b sc_Book_phases (fun vs H Q E h => ?_) (fun cdv A outer s H vs Q E hr h => ?_)
  · obtain ⟨p, L, rfl, _⟩ := h
    rfl
  · obtain ⟨p, L, rfl, hB, q⟩ := h
    obtain ⟨dx, a1, a2, a3, hp, h1, h2, h3⟩ := id hB.ex
    refine ⟨_, (pss_cons (ps_set (i := 1) sc_Book_phases.nd rfl (Or.inl rfl) (pe_lst pa_nil))
(pss_cons (ps_for PassesOwn.never rfl (pi_range1 (by rfl) T.range (pa_cons (pe_callB (call_lenK K rfl) (by rfl) T.len PySem.boot_len (pa_cons (pe_fldK K rfl (pv 0) rfl) pa_nil)) pa_nil)) (pg_name (i := 2) sc_Book_phases.nd rfl (Or.inl rfl))
(pss_one ps_never))
(pss_cons (ps_expr (pe_bm PySem.F.plainAttrs_list PySem.F.slot_list_append PySem.F.type_list_append mt_append (pv 1) (pa_cons (pe_tup (pa_cons (pe_callB (call_lenK K rfl) (by rfl) T.len PySem.boot_len (pa_cons (pe_fldK K rfl (pv 0) rfl) pa_nil)) (pa_cons pe_int pa_nil))) pa_nil)))
(pss_cons (ps_for PassesOwn.never rfl (pi_range1 (by rfl) T.range (pa_cons (pe_callB (call_lenK K rfl) (by rfl) T.len PySem.boot_len (pa_cons (pe_fldK K rfl (pv 0) rfl) pa_nil)) pa_nil)) (pg_name (i := 4) sc_Book_phases.nd rfl (Or.inl rfl))
(pss_one (ps_expr (pe_bm PySem.F.plainAttrs_list PySem.F.slot_list_append PySem.F.type_list_append mt_append (pv 1) (pa_cons (pe_tup (pa_cons (pe_un un_neg pe_int) (pa_cons (pv 4) pa_nil))) pa_nil)))))
(pss_one (ps_ret (pv 1))))))), ?_⟩
    refine ⟨by show 0 ≤ sizeLine; decide, fun l hl => ?_⟩
    have s1 := same_new (o := .lst []) (Same.refl H) hl
    have hl1 : upd H l (.lst []) l = some (.lst []) := upd_same
    generalize upd H l (.lst []) = H1 at s1 hl1 ⊢
    have hp1 := s1 _ _ hp
    refine ⟨_, rfl, p, C, dx, _, _, rfl, hp1, cb.cl, cb.nStages, bf_stages _ _ _ _, a1, _, rfl, .inr (s1.tup h1), 0, rfl, by decide, by decide, for_it (walk_range (lo := 0) (n := 0)) (fun j σ' H' => H' = H1 ∧ σ' = [some (.ref p), some (.ref l), none, none, none]) ⟨rfl, rfl⟩ (fun _ _ _ _ _ => trivial) (fun j x σ' H2 H2' hj => absurd hj (Nat.not_lt_zero _)) ?_⟩
    rintro σ' H2 ⟨rfl, rfl⟩
    refine ⟨_, rfl, .inl ⟨rfl, _, SqL.of hl1⟩, _, rfl, p, C, dx, _, _, rfl, hp1, cb.cl, cb.nStages, bf_stages _ _ _ _, a1, _, rfl, .inr (s1.tup h1), by show 2 ≤ sizeLine; decide, fun t1 ht1 => ?_⟩
    have s3 := s1.trans (same_new (o := .tup [.int 0, .int 0]) (Same.refl H2) ht1)
    have hl3 : upd H2 t1 (.tup [.int 0, .int 0]) l = some (.lst []) := same_new (Same.refl H2) ht1 _ _ hl1
    have ht3 : upd H2 t1 (.tup [.int 0, .int 0]) t1 = some (.tup [.int 0, .int 0]) := upd_same
    show (_ : Prop)
    refine ⟨l, [], _, rfl, rfl, hl3, size_lt (by decide), ?_⟩
    generalize upd H2 t1 (.tup [.int 0, .int 0]) = H3 at s3 hl3 ht3 ⊢
    have s4 : Same H (upd H3 l (.lst ([] ++ [.ref t1]))) := same_mut s3 hl
    have hl4 : upd H3 l (.lst ([] ++ [V.ref t1])) l = some (.lst [.ref t1]) := upd_same
    have ht4 : SqT K (upd H3 l (.lst ([] ++ [.ref t1]))) t1 [.int 0, .int 0] := tup_lst hl3 _ _ (SqT.of ht3)
    generalize upd H3 l (.lst ([] ++ [.ref t1])) = H4 at s4 hl4 ht4 ⊢
    have hp4 := s4 _ _ hp
    refine ⟨_, rfl, p, C, dx, _, _, rfl, hp4, cb.cl, cb.nOvertime, bf_overtime _ _ _ _, a2, _, rfl, .inr (s4.tup h2), 1, rfl, by decide, by decide, for_it (walk_range (lo := 0) (n := 1)) (fun j σ' H' => Same H H' ∧ SqT K H' t1 [.int 0, .int 0] ∧ ((j = 0 ∧ H' l = some (.lst [.ref t1])) ∨ (j = 1 ∧ ∃ t2, H' l = some (.lst [.ref t1, .ref t2]) ∧ SqT K H' t2 [.int (-1), .int 0])) ∧ ∃ v4, σ' = [some (.ref p), some (.ref l), none, none, v4]) ⟨s4, ht4, .inl ⟨rfl, hl4⟩, _, rfl⟩ (fun _ _ _ _ _ => trivial) ?_ ?_⟩
    · rintro j x σ' H5 H5' hj ⟨s5, ht5, hh, v4, rfl⟩ ⟨rfl, rfl⟩
      have j0 : j = 0 := by omega
      subst j0
      rcases hh with ⟨_, hl5⟩ | ⟨e, _⟩
      · refine ⟨_, rfl, .inl ⟨rfl, _, SqL.of hl5⟩, _, rfl, _, rfl, by show 2 ≤ sizeLine; decide, fun t2 ht2 => ?_⟩
        have s6 := s5.trans (same_new (o := .tup [.int (-1), .int 0]) (Same.refl H5') ht2)
        have hl6 : upd H5' t2 (.tup [.int (-1), .int 0]) l = some (.lst [.ref t1]) := same_new (Same.refl H5') ht2 _ _ hl5
        have ht6 : upd H5' t2 (.tup [.int (-1), .int 0]) t2 = some (.tup [.int (-1), .int 0]) := upd_same
        have ht16 := (same_new (o := .tup [.int (-1), .int 0]) (Same.refl H5') ht2).tup ht5
        show (_ : Prop)
        refine ⟨l, [.ref t1], .ref t2, rfl, rfl, hl6, size_lt (by show 1 < 100000; decide), ?_⟩
        exact ⟨same_mut s6 hl, tup_lst hl6 _ _ ht16, .inr ⟨rfl, t2, upd_same, tup_lst hl6 _ _ (SqT.of ht6)⟩, _, rfl⟩
      · cases e
    · rintro σ' H5 ⟨s5, ht5, hh, v4, rfl⟩
      rcases hh with ⟨e, _⟩ | ⟨_, t2, hl5, ht25⟩
      · cases e
      · exact ⟨_, rfl, q l t1 t2 H5 s5 hl5 ht5 ht25⟩
abbrev s_Book_overtime_step : Stmt := inClass (top 59) 6
abbrev N_Book_overtime_step : List Str := ["self", "state", "time"]
theorem sc_Book_overtime_step : FnScope N_Book_overtime_step ["self", "state", "time"] (C8.fnScope s_Book_overtime_step) := C8.fnScope_by (by decide +kernel)
def sp_overtime_step (K : PySem.W.Frag) (C : Addr) : Sp := fun vs H Q _ => ∃ (p : Addr) (L u : Nat), vs = [.ref p, .int 0, nV u] ∧ BookAt K C H p L ∧ L ≤ 9 ∧ u ≤ 1000000 ∧ Q (if u ≤ L then .int 0 else .non) H
theorem ok_overtime_step {C f : Addr} {fd : FuncData} (F : C8.Fun K "overtime_step" "Book.overtime_step" s_Book_overtime_step f fd) (b : Binds K fd ["self", "state", "time"] []) (cb : ClsB K C) (me : Meth K C "overtime_step" f) (T : Gb mg) (c_checked_amount : C8.Cal P w K mg base 1 "checked_amount" sp_checked_amount []) : C8.Met P w K mg base 2 C "overtime_step" (sp_overtime_step K C) [] := by
  refine C8.met0 cb.cl me F b sc_Book_overtime_step (fun vs H Q E h => ?_) (fun cdv A outer s H vs Q E hr h => ?_)
  · obtain ⟨p, L, u, rfl, _⟩ := h
    rfl
  · obtain ⟨p, L, u, rfl, hB, hL, hu, q⟩ := h
    obtain ⟨dx, a1, a2, a3, hp, h1, h2, h3⟩ := id hB.ex
    refine ⟨_, (pss_cons (ps_if (PW.pt (pw_or (pt_cmpR op_lt (pv 1) pe_int (nomark _)) (pw_or1 (pt_cmpR op_ge (pv 1) (pe_callB (call_lenK K rfl) (by rfl) T.len PySem.boot_len (pa_cons (pe_fldK K rfl (pv 0) rfl) pa_nil)) (nomark _)))))
(pss_one ps_never)
pss_nil)
(pss_cons (ps_expr (C8.pe_c c_checked_amount hr (by decide) (by rfl) (pa_cons (pv 2) pa_nil)))
(pss_cons (ps_if (PW.pt (pw_or (pt_cmpR op_ge (pv 2) (C8.pe_gc (by rfl) T.TIMES) (nomark _)) (pw_or1 (pt_cmpR op_eq (pe_ix (ix_tupK K rfl) (pe_ix (ix_tupK K rfl) (pe_fldK K rfl (pv 0) rfl) (pv 1) (fun _ _ => rfl)) (pv 2) (fun _ _ => rfl)) (pe_callB (call_lenK K rfl) (by rfl) T.len PySem.boot_len (pa_cons (pe_fldK K rfl (pv 0) rfl) pa_nil)) (nomark _)))))
(pss_one (ps_ret pe_non))
pss_nil)
(pss_one (ps_ret (pe_ix (ix_tupK K rfl) (pe_ix (ix_tupK K rfl) (pe_fldK K rfl (pv 0) rfl) (pv 1) (fun _ _ => rfl)) (pv 2) (fun _ _ => rfl))))))), ?_⟩
    refine ⟨_, rfl, _, _, rfl, rfl, _, rfl, ?_⟩
    refine ifF (by decide) ?_
    refine ⟨_, rfl, _, rfl, p, C, dx, _, _, rfl, hp, cb.cl, cb.nOvertime, bf_overtime _ _ _ _, a2, _, rfl, .inr h2, _, _, rfl, rfl, _, rfl, ?_⟩
    refine ifF (by show ¬ ((0 : Int) ≥ ((1 : Nat) : Int)); decide) ?_
    refine ⟨_, rfl, u, rfl, hu, ?_⟩
    refine ⟨_, rfl, _, _, rfl, rfl, _, rfl, ?_⟩
    by_cases e : (u : Int) ≥ 10
    · refine ifT e ?_
      rw [if_neg (by omega)] at q
      exact q
    · refine ifF e ?_
      have hat := row_at (L := L) (t := u) (by omega)
      refine ⟨_, rfl, p, C, dx, _, _, rfl, hp, cb.cl, cb.nOvertime, bf_overtime _ _ _ _, _, rfl, a2, _, ((0 : Nat) : Int), _, rfl, rfl, h2, atI_nat rfl, _, rfl, a3, _, _, _, rfl, rfl, h3, atI_nat hat, _, rfl, p, C, dx, _, _, rfl, hp, cb.cl, cb.nOvertime, bf_overtime _ _ _ _, a2, _, rfl, .inr h2, rfl, _, rfl, ?_⟩
      by_cases eL : u ≤ L
      · rw [if_pos eL] at q hat ⊢
        refine ifF (by show ¬ V.int ((0 : Nat) : Int) = V.int ((1 : Nat) : Int); intro z; have := V.int.inj z; omega) ?_
        exact ⟨_, rfl, p, C, dx, _, _, rfl, hp, cb.cl, cb.nOvertime, bf_overtime _ _ _ _, _, rfl, a2, _, ((0 : Nat) : Int), _, rfl, rfl, h2, atI_nat rfl, _, rfl, a3, _, _, _, rfl, rfl, h3, atI_nat hat, q⟩
      · rw [if_neg eL] at q ⊢
        exact ifT (by show V.int ((1 : Nat) : Int) = V.int ((1 : Nat) : Int); rfl) q
end
end My
namespace My
open PySem L2 ClX
/-! ### Clock -/
structure ClsC (K : PySem.W.Frag) (C : Addr) : Prop where
  cl : Cls K C
  nBook : NoAttr K C "book"
  nPhase : NoAttr K C "phase"
  nLeft : NoAttr K C "left"
structure FalC (K : PySem.W.Frag) (mg : Str → Option Value) (C : Addr) : Prop where
  ex : ∃ (mc u : Value) (fa : Addr), mg "Clock" = some (.ref C) ∧ CRead K C mc ∧ CVal K C mc "FALLEN" (.ref fa) u ∧ ∀ H, SqT K H fa [.int (-2), .int 0]
/-- a Clock in the one period of L, at p; x: the stage's number in its phase -/
structure ClkAt (K : PySem.W.Frag) (C CB : Addr) (H : Hp) (p : Addr) (L : Nat) (x : Int) : Prop where
  ex : ∃ (dx : Addr) (fs : List (Str × V)) (ba pa : Addr), H p = some (.ins C dx fs) ∧ fs.lookup ("book" : Str) = some (.ref ba) ∧ fs.lookup ("phase" : Str) = some (.ref pa) ∧ fs.lookup ("left" : Str) = some (.int 0) ∧
    (∀ m : Str, m ≠ "book" → m ≠ "phase" → m ≠ "left" → fs.lookup m = none) ∧ fs.length ≤ 3 ∧ BookAt K CB H ba L ∧ SqT K H pa [.int x, .int 0]
def IsClk (H : Hp) (a : Addr) : Prop := ∃ C dx fs v, H a = some (.ins C dx fs) ∧ fs.lookup ("book" : Str) = some v
theorem ClkAt.is {K : PySem.W.Frag} {C CB : Addr} {H : Hp} {p : Addr} {L : Nat} {x : Int} (h : ClkAt K C CB H p L x) : IsClk H p := by
  obtain ⟨dx, fs, ba, pa, e, h1, _⟩ := h.ex
  exact ⟨C, dx, fs, _, e, h1⟩
theorem BookAt.not_clk {K : PySem.W.Frag} {C : Addr} {H : Hp} {p a : Addr} {L : Nat} (h : BookAt K C H p L) (i : IsClk H a) : p ≠ a := fun z => by
  obtain ⟨dx, a1, a2, a3, e, _⟩ := h.ex
  obtain ⟨C', dx', fs, v, e', h'⟩ := i
  rw [z, e'] at e
  cases e
  rw [bf_no _ _ _ _ (by decide +kernel) (by decide +kernel) (by decide +kernel) (by decide +kernel)] at h'
  cases h'
theorem ClkAt.off {K : PySem.W.Frag} {C CB : Addr} {H H' : Hp} {p : Addr} {L : Nat} {x : Int} {X : List Addr} (s : Off K X H H') (n : p ∉ X) (hX : ∀ a ∈ X, IsClk H a) (h : ClkAt K C CB H p L x) : ClkAt K C CB H' p L x := by
  obtain ⟨dx, fs, ba, pa, e, h1, h2, h3, h4, h5, h6, h7⟩ := h.ex
  exact ⟨dx, fs, ba, pa, s.same _ _ n e, h1, h2, h3, h4, h5, h6.off s (fun z => h6.not_clk (hX _ z) rfl), s.tup _ _ h7⟩
theorem ClkAt.mono {K : PySem.W.Frag} {C CB : Addr} {H H' : Hp} {p : Addr} {L : Nat} {x : Int} (s : Same H H') (h : ClkAt K C CB H p L x) : ClkAt K C CB H' p L x := h.off (X := []) (Off.of s) (fun z => nomatch z) fun a ha => nomatch ha
section
variable {P : Program} {w : World} {K : PySem.W.Frag} {mg : Str → Option Value} {base : Heap}
abbrev s_Clock_init : Stmt := inClass (top 61) 1
abbrev N_Clock_init : List Str := ["self", "book", "main", "phase", "begun"]
theorem sc_Clock_init : FnScope N_Clock_init ["self", "book", "main", "phase"] (C8.fnScope s_Clock_init) := C8.fnScope_by (by decide +kernel)
def sp_ClockN (K : PySem.W.Frag) (C CB : Addr) : Sp := fun vs H Q _ => ∃ (p dx ba : Addr) (L : Nat) , vs = [.ref p, .ref ba, .int 0, .non] ∧ H p = some (.ins C dx []) ∧ BookAt K CB H ba L ∧  ∀ H', Off K [p] H H' → ClkAt K C CB H' p L 0 → Q .non H'
theorem fn_Clock_initN {C CB f : Addr} {fd : FuncData} (F : C8.Fun K "__init__" "Clock.__init__" s_Clock_init f fd) (cc : ClsC K C) (T : Gb mg) (c_checked_amount : C8.Cal P w K mg base 1 "checked_amount" sp_checked_amount [])
    (m_opening : C8.Met P w K mg base 2 CB "opening" (sp_opening K CB) []) (m_phases : C8.Met P w K mg base 1 CB "phases" (sp_phases K CB) []) : FnOk P w K mg base C8.CX0 3 f fd ["self", "book", "main", "phase"] (sp_ClockN K C CB) := by
  refine C8.fn0 F sc_Clock_init (fun vs H Q E h => ?_) (fun cdv A outer s H vs Q E hr h => ?_)
  · obtain ⟨p, dx, ba, L, rfl, _⟩ := h
    rfl
  · obtain ⟨p, dx, ba, L, rfl, hp, hB, q⟩ := h
    refine ⟨_, (pss_cons (ps_expr (C8.pe_c c_checked_amount hr (by decide) (by rfl) (pa_cons (pv 2) pa_nil)))
(pss_cons (ps_set (i := 4) sc_Clock_init.nd rfl (Or.inl rfl) (pe_ifExp (pt_cmpR op_isN (pv 3) pe_non (nomark _)) (C8.pe_mt0 m_opening hr (by decide) (pv 1)) (pe_callTy (call_tupK K rfl) (by rfl) T.tuple (by decide +kernel) (pa_cons (pv 3) pa_nil))))
(pss_cons (ps_if (pt_cmpR (op_notInD (Nat.lt_of_le_of_lt (Nat.add_le_add_left (by decide) _) hr.un)) (pv 4) (C8.pe_mt0 m_phases hr (by decide) (pv 1)) rfl)
(pss_one ps_never)
pss_nil)
(pss_cons (ps_fld (pv 0) (pv 1) rfl)
(pss_cons (ps_fld (pv 0) (pv 4) rfl)
(pss_one (ps_fld (pv 0) (pe_ifExp (pt_cmpR op_ge (pe_ix (ix_tupK K rfl) (pv 4) pe_int (fun _ _ => rfl)) pe_int (nomark _)) (pv 2) pe_int) rfl))))))), ?_⟩
    obtain ⟨bdx, b1, b2, b3, hbp, hb1, hb2, hb3⟩ := id hB.ex
    refine ⟨_, rfl, 0, rfl, by decide, ?_⟩
    refine ⟨_, rfl, rfl, _, rfl, ?_⟩
    refine ifT rfl ?_
    refine ⟨_, rfl, ba, bdx, _, rfl, hbp, bf_no _ _ _ _ (by decide +kernel) (by decide +kernel) (by decide +kernel) (by decide +kernel), ba, L, rfl, hB, fun pa H1 s1 hpan hpa => ?_⟩
    have hpa : SqT K H1 pa [.int 0, .int 0] := SqT.of hpa
    refine ⟨_, rfl, _, rfl, ba, bdx, _, rfl, s1 _ _ hbp, bf_no _ _ _ _ (by decide +kernel) (by decide +kernel) (by decide +kernel) (by decide +kernel), ba, L, rfl, hB.mono s1, fun l t1 t2 H2 s2 hl ht1 ht2 => ?_⟩
    refine ⟨.tuple [.int 0, .int 0], [.tuple [.int 0, .int 0], .tuple [.int (-1), .int 0]], .tup (s2.tup hpa) (.cons (.int _) (.cons (.int _) .nil)), .lst (SqL.of hl) (.cons (.tup ht1 (.cons (.int _) (.cons (.int _) .nil))) (.cons (.tup ht2 (.cons (.int _) (.cons (.int _) .nil))) .nil)), by decide +kernel, by decide +kernel, _, rfl, ?_⟩
    refine (show ∀ (A B : Prop), B → if (!(([.tuple [.int 0, .int 0], .tuple [.int (-1), .int 0]] : List PyData).any fun z => PyData.eqv z (.tuple [.int 0, .int 0]))) = true then A else B from fun A B h => (if_neg (by decide +kernel)).mpr h) _ _ ?_
    have s02 := s1.trans s2
    have hp2 := s02 _ _ hp
    have hpa2 := s2.tup hpa
    refine ⟨_, rfl, _, rfl, p, C, dx, [], rfl, hp2, cc.cl, cc.nBook, by decide, ?_⟩
    refine ⟨_, rfl, _, rfl, p, C, dx, _, rfl, upd_same, cc.cl, cc.nPhase, by show 1 < 1000; decide, ?_⟩
    have o4 : Off K [p] H2 (upd (upd H2 p (.ins C dx (putF "book" (.ref ba) []))) p (.ins C dx (putF "phase" (.ref pa) (putF "book" (.ref ba) [])))) := (Off.ins hp2).trans (Off.ins upd_same)
    have o4 : Off K [p] H _ := (Off.of s02).trans o4
    have hpa4 := (Off.ins (K := K) (o := .ins C dx (putF "book" (.ref ba) [])) hp2).tup _ _ hpa2
    have hpa5 := (Off.ins (K := K) (o := .ins C dx (putF "phase" (.ref pa) (putF "book" (.ref ba) []))) upd_same).tup _ _ hpa4
    have hp4 : upd (upd H2 p (.ins C dx (putF "book" (.ref ba) []))) p (.ins C dx (putF "phase" (.ref pa) (putF "book" (.ref ba) []))) p = some (.ins C dx (putF "phase" (.ref pa) (putF "book" (.ref ba) []))) := upd_same
    generalize upd (upd H2 p (.ins C dx (putF "book" (.ref ba) []))) p (.ins C dx (putF "phase" (.ref pa) (putF "book" (.ref ba) []))) = H4 at o4 hpa5 hp4 ⊢
    refine ⟨_, rfl, pa, _, 0, .int 0, rfl, rfl, hpa5, rfl, _, _, rfl, rfl, _, rfl, ?_⟩
    refine ifT (by decide) ?_
    have o6 := o4.trans (Off.ins (o := .ins C dx (putF "left" (.int 0) (putF "phase" (.ref pa) (putF "book" (.ref ba) [])))) hp4)
    have nb : ba ≠ p := fun z => by
      rw [z, hp] at hbp
      cases hbp
    refine ⟨_, rfl, _, rfl, p, C, dx, _, rfl, hp4, cc.cl, cc.nLeft, by show 2 < 1000; decide, ?_⟩
    refine q _ o6 ⟨dx, putF "left" (.int 0) (putF "phase" (.ref pa) (putF "book" (.ref ba) [])), ba, pa, upd_same, ?_, ?_, ?_, fun m n1 n2 n3 => ?_, by show 3 ≤ 3; decide, hB.off o6 (fun z => nb (List.mem_singleton.mp z)), tup_ins hp4 _ _ hpa5⟩
    · rw [lookup_putF, if_neg (by decide +kernel), lookup_putF, if_neg (by decide +kernel), lookup_putF, if_pos rfl]
    · rw [lookup_putF, if_neg (by decide +kernel), lookup_putF, if_pos rfl]
    · rw [lookup_putF, if_pos rfl]
    · rw [lookup_putF, if_neg n3, lookup_putF, if_neg n2, lookup_putF, if_neg n1]
      rfl
def sp_ClockK (K : PySem.W.Frag) (C CB : Addr) : Sp := fun vs H Q _ => ∃ (p dx ba : Addr) (L : Nat) (pa : Addr), vs = [.ref p, .ref ba, .int 0, .ref pa] ∧ H p = some (.ins C dx []) ∧ BookAt K CB H ba L ∧ SqT K H pa [.int (-1), .int 0] ∧ ∀ H', Off K [p] H H' → ClkAt K C CB H' p L (-1) → Q .non H'
theorem fn_Clock_initK {C CB f : Addr} {fd : FuncData} (F : C8.Fun K "__init__" "Clock.__init__" s_Clock_init f fd) (cc : ClsC K C) (T : Gb mg) (c_checked_amount : C8.Cal P w K mg base 1 "checked_amount" sp_checked_amount [])
    (m_opening : C8.Met P w K mg base 2 CB "opening" (sp_opening K CB) []) (m_phases : C8.Met P w K mg base 1 CB "phases" (sp_phases K CB) []) : FnOk P w K mg base C8.CX0 3 f fd ["self", "book", "main", "phase"] (sp_ClockK K C CB) := by
  refine C8.fn0 F sc_Clock_init (fun vs H Q E h => ?_) (fun cdv A outer s H vs Q E hr h => ?_)
  · obtain ⟨p, dx, ba, L, pa, rfl, _⟩ := h
    rfl
  · obtain ⟨p, dx, ba, L, pa, rfl, hp, hB, hpa, q⟩ := h
    refine ⟨_, (pss_cons (ps_expr (C8.pe_c c_checked_amount hr (by decide) (by rfl) (pa_cons (pv 2) pa_nil)))
(pss_cons (ps_set (i := 4) sc_Clock_init.nd rfl (Or.inl rfl) (pe_ifExp (pt_cmpR op_isN (pv 3) pe_non (nomark _)) (C8.pe_mt0 m_opening hr (by decide) (pv 1)) (pe_callTy (call_tupK K rfl) (by rfl) T.tuple (by decide +kernel) (pa_cons (pv 3) pa_nil))))
(pss_cons (ps_if (pt_cmpR (op_notInD (Nat.lt_of_le_of_lt (Nat.add_le_add_left (by decide) _) hr.un)) (pv 4) (C8.pe_mt0 m_phases hr (by decide) (pv 1)) rfl)
(pss_one ps_never)
pss_nil)
(pss_cons (ps_fld (pv 0) (pv 1) rfl)
(pss_cons (ps_fld (pv 0) (pv 4) rfl)
(pss_one (ps_fld (pv 0) (pe_ifExp (pt_cmpR op_ge (pe_ix (ix_tupK K rfl) (pv 4) pe_int (fun _ _ => rfl)) pe_int (nomark _)) (pv 2) pe_int) rfl))))))), ?_⟩
    obtain ⟨bdx, b1, b2, b3, hbp, hb1, hb2, hb3⟩ := id hB.ex
    refine ⟨_, rfl, 0, rfl, by decide, ?_⟩
    refine ⟨_, rfl, rfl, _, rfl, ?_⟩
    refine ifF (fun z => nomatch z) ?_
    refine ⟨_, rfl, pa, _, rfl, .inr ⟨hpa, ?_⟩⟩
    have s1 := Same.refl H
    refine ⟨_, rfl, _, rfl, ba, bdx, _, rfl, s1 _ _ hbp, bf_no _ _ _ _ (by decide +kernel) (by decide +kernel) (by decide +kernel) (by decide +kernel), ba, L, rfl, hB.mono s1, fun l t1 t2 H2 s2 hl ht1 ht2 => ?_⟩
    refine ⟨.tuple [.int (-1), .int 0], [.tuple [.int 0, .int 0], .tuple [.int (-1), .int 0]], .tup (s2.tup hpa) (.cons (.int _) (.cons (.int _) .nil)), .lst (SqL.of hl) (.cons (.tup ht1 (.cons (.int _) (.cons (.int _) .nil))) (.cons (.tup ht2 (.cons (.int _) (.cons (.int _) .nil))) .nil)), by decide +kernel, by decide +kernel, _, rfl, ?_⟩
    refine (show ∀ (A B : Prop), B → if (!(([.tuple [.int 0, .int 0], .tuple [.int (-1), .int 0]] : List PyData).any fun z => PyData.eqv z (.tuple [.int (-1), .int 0]))) = true then A else B from fun A B h => (if_neg (by decide +kernel)).mpr h) _ _ ?_
    have s02 := s1.trans s2
    have hp2 := s02 _ _ hp
    have hpa2 := s2.tup hpa
    refine ⟨_, rfl, _, rfl, p, C, dx, [], rfl, hp2, cc.cl, cc.nBook, by decide, ?_⟩
    refine ⟨_, rfl, _, rfl, p, C, dx, _, rfl, upd_same, cc.cl, cc.nPhase, by show 1 < 1000; decide, ?_⟩
    have o4 : Off K [p] H2 (upd (upd H2 p (.ins C dx (putF "book" (.ref ba) []))) p (.ins C dx (putF "phase" (.ref pa) (putF "book" (.ref ba) [])))) := (Off.ins hp2).trans (Off.ins upd_same)
    have o4 : Off K [p] H _ := (Off.of s02).trans o4
    have hpa4 := (Off.ins (K := K) (o := .ins C dx (putF "book" (.ref ba) [])) hp2).tup _ _ hpa2
    have hpa5 := (Off.ins (K := K) (o := .ins C dx (putF "phase" (.ref pa) (putF "book" (.ref ba) []))) upd_same).tup _ _ hpa4
    have hp4 : upd (upd H2 p (.ins C dx (putF "book" (.ref ba) []))) p (.ins C dx (putF "phase" (.ref pa) (putF "book" (.ref ba) []))) p = some (.ins C dx (putF "phase" (.ref pa) (putF "book" (.ref ba) []))) := upd_same
    generalize upd (upd H2 p (.ins C dx (putF "book" (.ref ba) []))) p (.ins C dx (putF "phase" (.ref pa) (putF "book" (.ref ba) []))) = H4 at o4 hpa5 hp4 ⊢
    refine ⟨_, rfl, pa, _, 0, .int (-1), rfl, rfl, hpa5, rfl, _, _, rfl, rfl, _, rfl, ?_⟩
    refine ifF (by decide) ?_
    have o6 := o4.trans (Off.ins (o := .ins C dx (putF "left" (.int 0) (putF "phase" (.ref pa) (putF "book" (.ref ba) [])))) hp4)
    have nb : ba ≠ p := fun z => by
      rw [z, hp] at hbp
      cases hbp
    refine ⟨_, rfl, p, C, dx, _, rfl, hp4, cc.cl, cc.nLeft, by show 2 < 1000; decide, ?_⟩
    refine q _ o6 ⟨dx, putF "left" (.int 0) (putF "phase" (.ref pa) (putF "book" (.ref ba) [])), ba, pa, upd_same, ?_, ?_, ?_, fun m n1 n2 n3 => ?_, by show 3 ≤ 3; decide, hB.off o6 (fun z => nb (List.mem_singleton.mp z)), tup_ins hp4 _ _ hpa5⟩
    · rw [lookup_putF, if_neg (by decide +kernel), lookup_putF, if_neg (by decide +kernel), lookup_putF, if_pos rfl]
    · rw [lookup_putF, if_neg (by decide +kernel), lookup_putF, if_pos rfl]
    · rw [lookup_putF, if_pos rfl]
    · rw [lookup_putF, if_neg n3, lookup_putF, if_neg n2, lookup_putF, if_neg n1]
      rfl
abbrev s_Clock_fallen : Stmt := inClass (top 61) 2
abbrev N_Clock_fallen : List Str := ["self"]
theorem sc_Clock_fallen : FnScope N_Clock_fallen ["self"] (C8.fnScope s_Clock_fallen) := C8.fnScope_by (by decide +kernel)
def sp_fallen (K : PySem.W.Frag) (C CB : Addr) : Sp := fun vs H Q _ => ∃ (p : Addr) (L : Nat) (x : Int), vs = [.ref p] ∧ ClkAt K C CB H p L x ∧ (x = -1 ∧ Q (.bl false) H ∨ x = -2 ∧ Q (.bl true) H)
theorem fn_fallen {C CB f : Addr} {fd : FuncData} (F : C8.Fun K "fallen" "Clock.fallen" s_Clock_fallen f fd) (cc : ClsC K C) (fc : FalC K mg C) : FnOk P w K mg base C8.CX0 1 f fd ["self"] (sp_fallen K C CB) := by
  obtain ⟨mc, u, fa, hmg, hcr, hcv, hfa⟩ := fc.ex
  refine C8.fn0 F sc_Clock_fallen (fun vs H Q E h => ?_) (fun cdv A outer s H vs Q E hr h => ?_)
  · obtain ⟨p, L, x, rfl, _⟩ := h
    rfl
  · obtain ⟨p, L, x, rfl, hC, q⟩ := h
    obtain ⟨dx, fs, ba, pa, e, h1, h2, h3, h4, h5, h6, h7⟩ := id hC.ex
    refine ⟨_, (pss_one (ps_ret (pe_cmpR (op_eqD (Nat.lt_of_le_of_lt (Nat.add_le_add_left (by decide) _) hr.un)) (pe_fldK K rfl (pv 0) rfl) (pe_cval (C8.pe_gc (v := .ref C) (by rfl) ⟨_, hmg, rfl⟩)) (nomark _)))), ?_⟩
    refine ⟨_, rfl, p, C, dx, _, _, rfl, e, cc.cl, cc.nPhase, h2, C, mc, _, u, rfl, hcr, hcv, .tuple [.int x, .int 0], .tuple [.int (-2), .int 0], .tup h7 (.cons (.int _) (.cons (.int _) .nil)), .tup (hfa _) (.cons (.int _) (.cons (.int _) .nil)), ?_, by decide +kernel, ?_⟩
    · rcases q with ⟨rfl, _⟩ | ⟨rfl, _⟩ <;> decide +kernel
    · rcases q with ⟨rfl, q⟩ | ⟨rfl, q⟩
      · have e : PyData.eqv (.tuple [.int (-1), .int 0]) (.tuple [.int (-2), .int 0]) = false := by decide +kernel
        rw [e]
        exact q
      · have e : PyData.eqv (.tuple [.int (-2), .int 0]) (.tuple [.int (-2), .int 0]) = true := by decide +kernel
        rw [e]
        exact q
abbrev s_Clock_go_on : Stmt := inClass (top 61) 3
abbrev N_Clock_go_on : List Str := ["self", "state"]
theorem sc_Clock_go_on : FnScope N_Clock_go_on ["self", "state"] (C8.fnScope s_Clock_go_on) := C8.fnScope_by (by decide +kernel)
def sp_go_on (K : PySem.W.Frag) (C CB : Addr) : Sp := fun vs H Q _ => ∃ (p : Addr) (v : V) (L : Nat) (x : Int), vs = [.ref p, v] ∧ ClkAt K C CB H p L x ∧
  ((v = .non ∧ ∀ H', Off K [p] H H' → ClkAt K C CB H' p L (-2) → Q (.bl false) H') ∨ (v = .int 0 ∧ ∀ H', Off K [p] H H' → ClkAt K C CB H' p L (-1) → Q (.bl true) H'))
theorem ClkAt.put {C CB : Addr} {H : Hp} {p dx ba pa pa' : Addr} {fs : List (Str × V)} {L : Nat} {x : Int} (e : H p = some (.ins C dx fs)) (h1 : fs.lookup ("book" : Str) = some (.ref ba)) (h2 : fs.lookup ("phase" : Str) = some (.ref pa)) (h3 : fs.lookup ("left" : Str) = some (.int 0))
    (h4 : ∀ m : Str, m ≠ "book" → m ≠ "phase" → m ≠ "left" → fs.lookup m = none) (h5 : fs.length ≤ 3) (h6 : BookAt K CB H ba L) (h7 : SqT K H pa' [.int x, .int 0]) : ClkAt K C CB (upd H p (.ins C dx (putF "phase" (.ref pa') fs))) p L x := by
  have nb : ba ≠ p := h6.not_clk ⟨C, dx, fs, _, e, h1⟩
  refine ⟨dx, _, ba, pa', upd_same, ?_, ?_, ?_, fun m n1 n2 n3 => ?_, ?_, h6.off (Off.ins e) (fun z => nb (List.mem_singleton.mp z)), tup_ins e _ _ h7⟩
  · rw [lookup_putF, if_neg (by decide +kernel)]; exact h1
  · rw [lookup_putF, if_pos rfl]
  · rw [lookup_putF, if_neg (by decide +kernel)]; exact h3
  · rw [lookup_putF, if_neg n2]; exact h4 m n1 n2 n3
  · rw [putF_len h2]; exact h5
theorem ok_go_on {C CB f : Addr} {fd : FuncData} (F : C8.Fun K "go_on" "Clock.go_on" s_Clock_go_on f fd) (b : Binds K fd ["self", "state"] []) (cc : ClsC K C) (me : Meth K C "go_on" f) (fc : FalC K mg C) : C8.Met P w K mg base 1 C "go_on" (sp_go_on K C CB) [] := by
  obtain ⟨mc, u, fa, hmg, hcr, hcv, hfa⟩ := fc.ex
  refine C8.met0 cc.cl me F b sc_Clock_go_on (fun vs H Q E h => ?_) (fun cdv A outer s H vs Q E hr h => ?_)
  · obtain ⟨p, v, L, x, rfl, _⟩ := h
    rfl
  · obtain ⟨p, v, L, x, rfl, hC, q⟩ := h
    obtain ⟨dx, fs, ba, pa, e, h1, h2, h3, h4, h5, h6, h7⟩ := id hC.ex
    refine ⟨_, (pss_cons (ps_fld (pv 0) pe_int rfl)
(pss_cons (ps_if (pt_cmpR op_isN (pv 1) pe_non (nomark _))
(pss_cons (ps_fld (pv 0) (pe_cval (C8.pe_gc (v := .ref C) (by rfl) ⟨_, hmg, rfl⟩)) rfl)
(pss_one (ps_ret pe_bl)))
pss_nil)
(pss_cons (ps_fld (pv 0) (pe_tup (pa_cons (pe_un un_neg pe_int) (pa_cons (pv 1) pa_nil))) rfl)
(pss_one (ps_ret pe_bl))))), ?_⟩
    refine ⟨_, rfl, p, C, dx, _, rfl, e, cc.cl, cc.nLeft, by omega, ?_⟩
    have o1 : Off K [p] H (upd H p (.ins C dx (putF "left" (.int 0) fs))) := Off.ins e
    have nb : ba ≠ p := h6.not_clk hC.is
    have e1 : upd H p (.ins C dx (putF "left" (.int 0) fs)) p = some (.ins C dx (putF "left" (.int 0) fs)) := upd_same
    have k1 : (putF "left" (V.int 0) fs).lookup ("book" : Str) = some (.ref ba) := by rw [lookup_putF, if_neg (by decide +kernel)]; exact h1
    have k2 : (putF "left" (V.int 0) fs).lookup ("phase" : Str) = some (.ref pa) := by rw [lookup_putF, if_neg (by decide +kernel)]; exact h2
    have k3 : (putF "left" (V.int 0) fs).lookup ("left" : Str) = some (.int 0) := by rw [lookup_putF, if_pos rfl]
    have k4 : ∀ m : Str, m ≠ "book" → m ≠ "phase" → m ≠ "left" → (putF "left" (V.int 0) fs).lookup m = none := fun m n1 n2 n3 => by rw [lookup_putF, if_neg n3]; exact h4 m n1 n2 n3
    have k5 : (putF "left" (V.int 0) fs).length ≤ 3 := by rw [putF_len h3]; exact h5
    have k6 := h6.off o1 (fun z => nb (List.mem_singleton.mp z))
    generalize putF "left" (V.int 0) fs = fs1 at o1 e1 k1 k2 k3 k4 k5 k6 ⊢
    generalize upd H p (.ins C dx fs1) = H1 at o1 e1 k6 ⊢
    refine ⟨_, rfl, rfl, _, rfl, ?_⟩
    rcases q with ⟨rfl, q⟩ | ⟨rfl, q⟩
    · refine ifT rfl ?_
      refine ⟨C, mc, _, u, rfl, hcr, hcv, _, rfl, p, C, dx, _, rfl, e1, cc.cl, cc.nPhase, by omega, ?_⟩
      exact q _ (o1.trans (Off.ins e1)) (ClkAt.put e1 k1 k2 k3 k4 k5 k6 (hfa _))
    · refine ifF (fun z => nomatch z) ?_
      refine ⟨_, rfl, _, rfl, by show 2 ≤ sizeLine; decide, fun t ht => ?_⟩
      have s2 := same_new (o := .tup [.int (-1), .int 0]) (Same.refl H1) ht
      have ht2 : upd H1 t (.tup [.int (-1), .int 0]) t = some (.tup [.int (-1), .int 0]) := upd_same
      have e2 := s2 _ _ e1
      have k62 := k6.mono s2
      show (_ : Prop)
      refine ⟨_, rfl, p, C, dx, fs1, rfl, e2, cc.cl, cc.nPhase, by omega, ?_⟩
      exact q _ ((o1.trans (Off.of s2)).trans (Off.ins e2)) (ClkAt.put e2 k1 k2 k3 k4 k5 k62 (SqT.of ht2))
abbrev s_Clock_overtime_after : Stmt := inClass (top 61) 4
abbrev N_Clock_overtime_after : List Str := ["self", "used", "state"]
theorem sc_Clock_overtime_after : FnScope N_Clock_overtime_after ["self", "used"] (C8.fnScope s_Clock_overtime_after) := C8.fnScope_by (by decide +kernel)
def sp_overtime_after (K : PySem.W.Frag) (C CB : Addr) : Sp := fun vs H Q _ => ∃ (p : Addr) (L u : Nat), vs = [.ref p, nV u] ∧ ClkAt K C CB H p L (-1) ∧ L ≤ 9 ∧ u ≤ 1000000 ∧ Q (if u ≤ L then .int 0 else .non) H
theorem ok_overtime_after {C CB f : Addr} {fd : FuncData} (F : C8.Fun K "overtime_after" "Clock.overtime_after" s_Clock_overtime_after f fd) (b : Binds K fd ["self", "used"] []) (cc : ClsC K C) (cb : ClsB K CB) (me : Meth K C "overtime_after" f) (T : Gb mg) (m_overtime_step : C8.Met P w K mg base 2 CB "overtime_step" (sp_overtime_step K CB) []) : C8.Met P w K mg base 3 C "overtime_after" (sp_overtime_after K C CB) [] := by
  refine C8.met0 cc.cl me F b sc_Clock_overtime_after (fun vs H Q E h => ?_) (fun cdv A outer s H vs Q E hr h => ?_)
  · obtain ⟨p, L, u, rfl, _⟩ := h
    rfl
  · obtain ⟨p, L, u, rfl, hC, hL, hu, q⟩ := h
    obtain ⟨dx, fs, ba, pa, e, h1, h2, h3, h4, h5, h6, h7⟩ := id hC.ex
    obtain ⟨bdx, b1, b2, b3, hbp, hb1, hb2, hb3⟩ := id h6.ex
    refine ⟨_, (pss_cons (ps_if (pt_cmpR op_eq (pe_callB (call_lenK K rfl) (by rfl) T.len PySem.boot_len (pa_cons (pe_fldK K rfl (pe_fldK K rfl (pv 0) rfl) rfl) pa_nil)) pe_int (nomark _))
(pss_one (ps_ret pe_non))
pss_nil)
(pss_cons (ps_set (i := 2) sc_Clock_overtime_after.nd rfl (Or.inl rfl) (pe_ifExp (pt_cmpR op_ge (pe_ix (ix_tupK K rfl) (pe_fldK K rfl (pv 0) rfl) pe_int (fun _ _ => rfl)) pe_int (nomark _)) pe_int (pe_ix (ix_tupK K rfl) (pe_fldK K rfl (pv 0) rfl) pe_int (fun _ _ => rfl))))
(pss_one (ps_ret (C8.pe_mt m_overtime_step hr (by decide) (pe_fldK K rfl (pv 0) rfl) (pa_cons (pv 2) (pa_cons (pv 1) pa_nil))))))), ?_⟩
    refine ⟨_, rfl, p, C, dx, _, _, rfl, e, cc.cl, cc.nBook, h1, ba, CB, bdx, _, _, rfl, hbp, cb.cl, cb.nOvertime, bf_overtime _ _ _ _, b2, _, rfl, .inr hb2, rfl, _, rfl, ?_⟩
    refine ifF (by show ¬ V.int ((1 : Nat) : Int) = V.int 0; intro z; have := V.int.inj z; omega) ?_
    refine ⟨_, rfl, p, C, dx, _, _, rfl, e, cc.cl, cc.nPhase, h2, pa, _, 0, _, rfl, rfl, h7, rfl, _, _, rfl, rfl, _, rfl, ?_⟩
    refine ifF (by decide) ?_
    refine ⟨_, rfl, p, C, dx, _, _, rfl, e, cc.cl, cc.nPhase, h2, pa, _, 1, _, rfl, rfl, h7, rfl, ?_⟩
    exact ⟨_, rfl, p, C, dx, _, _, rfl, e, cc.cl, cc.nBook, h1, ba, bdx, _, rfl, hbp, bf_no _ _ _ _ (by decide +kernel) (by decide +kernel) (by decide +kernel) (by decide +kernel), _, rfl, _, rfl, ba, L, u, rfl, h6, hL, hu, q⟩
abbrev s_Clock_spend : Stmt := inClass (top 61) 5
abbrev N_Clock_spend : List Str := ["self", "used", "need", "drop", "after", "gain"]
theorem sc_Clock_spend : FnScope N_Clock_spend ["self", "used"] (C8.fnScope s_Clock_spend) := C8.fnScope_by (by decide +kernel)
def sp_spend (K : PySem.W.Frag) (C CB : Addr) : Sp := fun vs H Q _ => ∃ (p : Addr) (L u : Nat), vs = [.ref p, nV u] ∧ ClkAt K C CB H p L (-1) ∧ L ≤ 9 ∧ u ≤ 1000000 ∧
  ∀ H', Off K [p] H H' → ClkAt K C CB H' p L (if u ≤ L then -1 else -2) → Q (.bl (decide (u ≤ L))) H'
theorem ok_spend {C CB f fp pp : Addr} {fd fdp : FuncData} (F : C8.Fun K "spend" "Clock.spend" s_Clock_spend f fd) (b : Binds K fd ["self", "used"] []) (cc : ClsC K C) (me : Meth K C "spend" f) (T : Gb mg) (c_checked_amount : C8.Cal P w K mg base 1 "checked_amount" sp_checked_amount [])
    (Fp : FnOk P w K mg base C8.CX0 1 fp fdp ["self"] (sp_fallen K C CB)) (hpr : PropOf K C "fallen" pp fp) (bp : Binds K fdp ["self"] [])
    (m_go_on : C8.Met P w K mg base 1 C "go_on" (sp_go_on K C CB) []) (m_overtime_after : C8.Met P w K mg base 3 C "overtime_after" (sp_overtime_after K C CB) []) : C8.Met P w K mg base 4 C "spend" (sp_spend K C CB) [] := by
  refine C8.met0 cc.cl me F b sc_Clock_spend (fun vs H Q E h => ?_) (fun cdv A outer s H vs Q E hr h => ?_)
  · obtain ⟨p, L, u, rfl, _⟩ := h
    rfl
  · obtain ⟨p, L, u, rfl, hC, hL, hu, q⟩ := h
    obtain ⟨dx, fs, ba, pa, e, h1, h2, h3, h4, h5, h6, h7⟩ := id hC.ex
    refine ⟨_, (pss_cons (ps_expr (C8.pe_c c_checked_amount hr (by decide) (by rfl) (pa_cons (pv 1) pa_nil)))
(pss_cons (ps_if (pt_val (pe_prop (E := C8.E0) (pv 0) cc.cl hpr Fp (hr.mono (by decide)) bp .nil C8.pass0 rfl))
(pss_one ps_never)
pss_nil)
(pss_cons (ps_if (pt_cmpR op_ge (pe_ix (ix_tupK K rfl) (pe_fldK K rfl (pv 0) rfl) pe_int (fun _ _ => rfl)) pe_int (nomark _))
(pss_cons ps_never (pss_one ps_never))
pss_nil)
(pss_one (ps_ret (C8.pe_mt m_go_on hr (by decide) (pv 0) (pa_cons (C8.pe_mt m_overtime_after hr (by decide) (pv 0) (pa_cons (pv 1) pa_nil)) pa_nil))))))), ?_⟩
    refine ⟨_, rfl, u, rfl, hu, ?_⟩
    refine ⟨_, rfl, p, dx, fs, rfl, e, p, L, -1, rfl, hC, .inl ⟨rfl, _, rfl, ?_⟩⟩
    refine iteF ?_
    refine ⟨_, rfl, p, C, dx, _, _, rfl, e, cc.cl, cc.nPhase, h2, pa, _, 0, _, rfl, rfl, h7, rfl, _, _, rfl, rfl, _, rfl, ?_⟩
    refine ifF (by decide) ?_
    refine ⟨_, rfl, p, dx, fs, rfl, e, h4 _ (by decide +kernel) (by decide +kernel) (by decide +kernel), _, rfl, p, dx, fs, rfl, e, h4 _ (by decide +kernel) (by decide +kernel) (by decide +kernel), _, rfl, p, L, u, rfl, hC, hL, hu, ?_⟩
    refine ⟨p, _, L, -1, rfl, hC, ?_⟩
    by_cases eL : u ≤ L
    · refine .inr ⟨if_pos eL, fun H' o hC' => ?_⟩
      have := q H' o (by rw [if_pos eL]; exact hC')
      rw [decide_eq_true eL] at this
      exact this
    · refine .inl ⟨if_neg eL, fun H' o hC' => ?_⟩
      have := q H' o (by rw [if_neg eL]; exact hC')
      rw [decide_eq_false eL] at this
      exact this
abbrev s_Clock_standing : Stmt := inClass (top 61) 8
abbrev N_Clock_standing : List Str := ["self"]
theorem sc_Clock_standing : FnScope N_Clock_standing ["self"] (C8.fnScope s_Clock_standing) := C8.fnScope_by (by decide +kernel)
def sp_standing (K : PySem.W.Frag) (C CB : Addr) : Sp := fun vs H Q _ => ∃ (p : Addr) (L : Nat) (x : Int), vs = [.ref p] ∧ ClkAt K C CB H p L x ∧ ∀ t pa H', Same H H' → H' t = some (.tup [.ref pa, .int 0]) → SqT K H' pa [.int x, .int 0] → Q (.ref t) H'
theorem ok_standing {C CB f : Addr} {fd : FuncData} (F : C8.Fun K "standing" "Clock.standing" s_Clock_standing f fd) (b : Binds K fd ["self"] []) (cc : ClsC K C) (me : Meth K C "standing" f) : C8.Met P w K mg base 1 C "standing" (sp_standing K C CB) [] := by
  refine C8.met0 cc.cl me F b sc_Clock_standing (fun vs H Q E h => ?_) (fun cdv A outer s H vs Q E hr h => ?_)
  · obtain ⟨p, L, x, rfl, _⟩ := h
    rfl
  · obtain ⟨p, L, x, rfl, hC, q⟩ := h
    obtain ⟨dx, fs, ba, pa, e, h1, h2, h3, h4, h5, h6, h7⟩ := id hC.ex
    refine ⟨_, (pss_one (ps_ret (pe_tup (pa_cons (pe_fldK K rfl (pv 0) rfl) (pa_cons (pe_fldK K rfl (pv 0) rfl) pa_nil))))), ?_⟩
    refine ⟨_, rfl, p, C, dx, _, _, rfl, e, cc.cl, cc.nPhase, h2, _, rfl, p, C, dx, _, _, rfl, e, cc.cl, cc.nLeft, h3, by show 2 ≤ sizeLine; decide, fun t ht => ?_⟩
    have s1 := same_new (o := .tup [.ref pa, .int 0]) (Same.refl H) ht
    exact q t pa _ s1 upd_same (s1.tup h7)
abbrev s_Clock_twin : Stmt := inClass (top 61) 9
abbrev N_Clock_twin : List Str := ["self", "clock"]
theorem sc_Clock_twin : FnScope N_Clock_twin ["self"] (C8.fnScope s_Clock_twin) := C8.fnScope_by (by decide +kernel)
def sp_twin (K : PySem.W.Frag) (C CB : Addr) : Sp := fun vs H Q _ => ∃ (p : Addr) (L : Nat) (x : Int), vs = [.ref p] ∧ ClkAt K C CB H p L x ∧ ∀ t H', Same H H' → H t = none → ClkAt K C CB H' t L x → Q (.ref t) H'
theorem ok_twin {C CB f : Addr} {fd : FuncData} (F : C8.Fun K "twin" "Clock.twin" s_Clock_twin f fd) (b : Binds K fd ["self"] []) (cc : ClsC K C) (me : Meth K C "twin" f) (c_Clock : C8.Mak P w K mg base 3 "Clock" C (sp_ClockN K C CB) [.non]) : C8.Met P w K mg base 5 C "twin" (sp_twin K C CB) [] := by
  refine C8.met0 cc.cl me F b sc_Clock_twin (fun vs H Q E h => ?_) (fun cdv A outer s H vs Q E hr h => ?_)
  · obtain ⟨p, L, x, rfl, _⟩ := h
    rfl
  · obtain ⟨p, L, x, rfl, hC, q⟩ := h
    obtain ⟨dx, fs, ba, pa, e, h1, h2, h3, h4, h5, h6, h7⟩ := id hC.ex
    refine ⟨_, (pss_cons (ps_set (i := 1) sc_Clock_twin.nd rfl (Or.inl rfl) (C8.pe_mk c_Clock hr (by decide) (by rfl) (pa_cons (pe_fldK K rfl (pv 0) rfl) (pa_cons pe_int pa_nil))))
(pss_cons (ps_fld (pv 1) (pe_fldK K rfl (pv 0) rfl) rfl)
(pss_cons (ps_fld (pv 1) (pe_fldK K rfl (pv 0) rfl) rfl)
(pss_one (ps_ret (pv 1)))))), ?_⟩
    refine ⟨_, rfl, p, C, dx, _, _, rfl, e, cc.cl, cc.nBook, h1, fun t dt nt ndt ntd => ?_⟩
    have s1 : Same H (upd H dt (.own t)) := same_new (Same.refl H) ndt
    have ht1 : upd H dt (.own t) t = none := (upd_ne (Ne.symm ntd)).trans nt
    have s2 : Same H (upd (upd H dt (.own t)) t (.ins C dt [])) := same_new s1 ht1
    have ht2 : upd (upd H dt (.own t)) t (.ins C dt []) t = some (.ins C dt []) := upd_same
    generalize upd (upd H dt (.own t)) t (.ins C dt []) = H2 at s2 ht2 ⊢
    refine ⟨t, dt, ba, L, rfl, ht2, h6.mono s2, fun H3 o3 hC3 => ⟨rfl, ?_⟩⟩
    have s3 : Same H H3 := fun a o ha => o3.same a o (fun z => by rw [List.mem_singleton] at z; subst z; rw [nt] at ha; cases ha) (s2 a o ha)
    obtain ⟨dx3, fs3, ba3, pa3, e3, g1, g2, g3, g4, g5, g6, g7⟩ := id hC3.ex
    have ep3 := s3 _ _ e
    refine ⟨_, rfl, p, C, dx, _, _, rfl, ep3, cc.cl, cc.nPhase, h2, _, rfl, t, C, dx3, fs3, rfl, e3, cc.cl, cc.nPhase, by omega, ?_⟩
    have hC4 := ClkAt.put e3 g1 g2 g3 g4 g5 g6 (s3.tup h7)
    have s4 : Same H (upd H3 t (.ins C dx3 (putF "phase" (.ref pa) fs3))) := same_mut s3 nt
    generalize upd H3 t (.ins C dx3 (putF "phase" (.ref pa) fs3)) = H4 at hC4 s4 ⊢
    obtain ⟨dx4, fs4, ba4, pa4, e4, k1, k2, k3, k4, k5, k6, k7⟩ := id hC4.ex
    have ep4 := s4 _ _ e
    refine ⟨_, rfl, p, C, dx, _, _, rfl, ep4, cc.cl, cc.nLeft, h3, _, rfl, t, C, dx4, fs4, rfl, e4, cc.cl, cc.nLeft, by omega, ?_⟩
    have s5 : Same H (upd H4 t (.ins C dx4 (putF "left" (.int 0) fs4))) := same_mut s4 nt
    have nb : ba4 ≠ t := k6.not_clk hC4.is
    refine ⟨_, rfl, q t _ s5 nt ⟨dx4, _, ba4, pa4, upd_same, ?_, ?_, ?_, fun m n1 n2 n3 => ?_, ?_, k6.off (Off.ins e4) (fun z => nb (List.mem_singleton.mp z)), tup_ins e4 _ _ k7⟩⟩
    · rw [lookup_putF, if_neg (by decide +kernel)]; exact k1
    · rw [lookup_putF, if_neg (by decide +kernel)]; exact k2
    · rw [lookup_putF, if_pos rfl]
    · rw [lookup_putF, if_neg n3]; exact k4 m n1 n2 n3
    · rw [putF_len k3]; exact k5
end
end My
namespace My
open PySem L2
section
variable {P : Program} {w : World} {K : PySem.W.Frag} {mg : Str → Option Value} {base : Heap}
abbrev s_law_cell : Stmt := top 69
abbrev N_law_cell : List Str := ["script", "k"]
theorem sc_law_cell : FnScope N_law_cell ["script", "k"] (C8.fnScope s_law_cell) := C8.fnScope_by (by decide +kernel)
def sp_law_cell (K : PySem.W.Frag) : Sp := fun vs H Q _ => ∃ (a : Addr) (ns : List Int) (k : Nat), vs = [.ref a, .int (k : Int)] ∧ SqL K H a (ns.map V.int) ∧ ∀ c : Int, Q (.int c) H
theorem ok_law_cell {f : Addr} {fd : FuncData} (F : C8.Def K mg "_law_cell" s_law_cell f fd) (b : Binds K fd ["script", "k"] []) (T : Gb mg) : C8.Cal P w K mg base 1 "_law_cell" (sp_law_cell K) [] := by
  refine C8.cal0 F b .nil sc_law_cell (fun vs H Q E h => ?_) (fun cdv A outer s H vs Q E hr h => ?_)
  · obtain ⟨a, ns, k, rfl, _⟩ := h
    rfl
  · obtain ⟨a, ns, k, rfl, hL, q⟩ := h
    refine ⟨_, (pss_cons (ps_if (pt_cmpR op_lt (pv 1) (pe_callB (call_lenK K rfl) (by rfl) T.len PySem.boot_len (pa_cons (pv 0) pa_nil)) (nomark _))
(pss_one (ps_ret (pe_ix (ix_listK K rfl) (pv 0) (pv 1) (fun _ _ => rfl))))
pss_nil)
(pss_one (ps_ret pe_int))), ?_⟩
    refine ⟨_, rfl, _, rfl, a, _, rfl, .inl hL, _, _, rfl, rfl, _, rfl, ?_⟩
    refine ite2 (fun hlt => ?_) (fun _ => q 0)
    have hk : k < ns.length := by
      have := of_decide_eq_true hlt
      rw [List.length_map] at this
      omega
    obtain ⟨c, hc⟩ := at_ex hk
    refine ⟨_, rfl, _, rfl, a, _, _, .int c, rfl, rfl, hL, atI_nat ?_, q c⟩
    rw [List.getElem?_map, hc]
    rfl

abbrev s_law_numbers : Stmt := top 70
abbrev N_law_numbers : List Str := ["cell", "salt", "count", "many", "numbers", "rest", "great", "k", "mixed"]
theorem sc_law_numbers : FnScope N_law_numbers ["cell", "salt", "count", "many"] (C8.fnScope s_law_numbers) := C8.fnScope_by (by decide +kernel)
def sp_law_numbers : Sp := fun vs H Q _ => ∃ (c : Int) (salt count many : Nat), vs = [.int c, .int (salt : Int), .int (count : Int), .int (many : Int)] ∧ salt ≤ 1000 ∧ count ≤ 1000 ∧ 0 < many ∧ many < 1000000000 ∧
  ∀ (p : Addr) (ns : List Nat) (H' : Hp), Same H H' → H p = none → H' p = some (.lst (ns.map nV)) → ns.length = count → (∀ n ∈ ns, n < many) → Q (.ref p) H'
theorem ok_law_numbers {f : Addr} {fd : FuncData} (F : C8.Def K mg "_law_numbers" s_law_numbers f fd) (b : Binds K fd ["cell", "salt", "count", "many"] []) (T : Gb mg) : C8.Cal P w K mg base 1 "_law_numbers" sp_law_numbers [] := by
  refine C8.cal0 F b .nil sc_law_numbers (fun vs H Q E h => ?_) (fun cdv A outer s H vs Q E hr h => ?_)
  · obtain ⟨c, a, b, d, rfl, _⟩ := h
    rfl
  · obtain ⟨c, salt, count, many, rfl, h1, h2, h3, h4, q⟩ := h
    refine ⟨_, (pss_cons (ps_set (i := 4) sc_law_numbers.nd rfl (Or.inl rfl) (pe_lst pa_nil))
(pss_cons (ps_set (i := 5) sc_law_numbers.nd rfl (Or.inl rfl) (pe_callB call_abs (by rfl) T.abs (by decide +kernel) (pa_cons (pv 0) pa_nil)))
(pss_cons (ps_set (i := 6) sc_law_numbers.nd rfl (Or.inl rfl) (pe_cmpR op_ge (pv 5) (pe_op op_pow pe_int pe_int) (nomark _)))
(pss_cons (ps_for PassesOwn.never rfl (pi_range1 (by rfl) T.range (pa_cons (pv 2) pa_nil)) (pg_name (i := 7) sc_law_numbers.nd rfl (Or.inl rfl))
(pss_one (ps_if (PW.pt (pw_and (pt_val (pv 6)) (pw_and1 (pt_cmpR op_gt (pv 5) pe_int (nomark _)))))
(pss_cons (ps_expr (pe_bm PySem.F.plainAttrs_list PySem.F.slot_list_append PySem.F.type_list_append mt_append (pv 4) (pa_cons (pe_op op_mod (pe_callTy call_int1 (by rfl) T.int (by decide +kernel) (pa_cons (pv 5) pa_nil)) (pv 3)) pa_nil)))
(pss_one (ps_set (i := 5) sc_law_numbers.nd rfl (Or.inl rfl) (pe_op op_fdiv (pv 5) (pv 3)))))
(pss_cons (ps_set (i := 8) sc_law_numbers.nd rfl (Or.inl rfl) (pe_op op_mod (pe_callTy call_int1 (by rfl) T.int (by decide +kernel) (pa_cons (pe_op op_add (pe_op op_add (pe_op op_add (pe_callB call_abs (by rfl) T.abs (by decide +kernel) (pa_cons (pv 0) pa_nil)) (pe_op op_mul (pv 1) pe_int)) (pe_op op_mul (pv 7) pe_int)) pe_int) pa_nil)) pe_int))
(pss_cons (ps_set (i := 8) sc_law_numbers.nd rfl (Or.inl rfl) (pe_op op_mod (pe_callTy call_int1 (by rfl) T.int (by decide +kernel) (pa_cons (pe_op op_add (pe_op op_mul (pv 8) pe_int) pe_int) pa_nil)) pe_int))
(pss_cons (ps_set (i := 8) sc_law_numbers.nd rfl (Or.inl rfl) (pe_op op_mod (pe_callTy call_int1 (by rfl) T.int (by decide +kernel) (pa_cons (pe_op op_add (pe_op op_add (pe_op op_mul (pv 8) (pv 8)) (pe_op op_mul (pv 8) pe_int)) (pe_op op_mul (pv 7) pe_int)) pa_nil)) pe_int))
(pss_one (ps_expr (pe_bm PySem.F.plainAttrs_list PySem.F.slot_list_append PySem.F.type_list_append mt_append (pv 4) (pa_cons (pe_op op_mod (pe_callTy call_int1 (by rfl) T.int (by decide +kernel) (pa_cons (pe_op op_fdiv (pv 8) pe_int) pa_nil)) (pv 3)) pa_nil))))))))))
(pss_one (ps_ret (pv 4))))))), ?_⟩
    refine ⟨Nat.zero_le _, fun l hl => ?_⟩
    refine ⟨_, rfl, c, rfl, ?_⟩
    refine ⟨_, rfl, _, _, rfl, rfl, ⟨by omega, by omega, by decide⟩, _, _, rfl, rfl, ?_⟩
    refine ⟨_, rfl, (count : Int), rfl, by omega, by omega, for_range (lo := 0) (n := (count : Int).toNat)
      (fun i σ H' => ∃ (ns : List Nat) (r : Int) (gt : Bool) (v7 v8 : Option V), Same H H' ∧ H' l = some (.lst (ns.map nV)) ∧ ns.length = i ∧ (∀ n ∈ ns, n < many) ∧ 0 ≤ r ∧ σ = [some (.int c), some (.int (salt : Int)), some (.int (count : Int)), some (.int (many : Int)), some (.ref l), some (.int r), some (.bl gt), v7, v8])
      ⟨[], _, _, none, none, same_new (Same.refl _) hl, upd_same, rfl, (by intro n hn; cases hn), ?_, rfl⟩ ?_ ?_⟩
    · split <;> omega
    · rintro i σ H1 hi ⟨ns, r, gt, v7, v8, sm, hnl, hlen, hns, hr0, rfl⟩
      have fin : ∀ (x : Int) (H2 : Hp), 0 ≤ x → x < (many : Int) → H2 = upd H1 l (.lst (ns.map nV ++ [.int x])) → ∃ ns' : List Nat, Same H H2 ∧ H2 l = some (.lst (ns'.map nV)) ∧ ns'.length = i + 1 ∧ (∀ n ∈ ns', n < many) := by
        intro x H2 hx0 hx1 e
        subst e
        refine ⟨ns ++ [x.toNat], same_mut sm hl, ?_, by rw [List.length_append, hlen]; rfl, fun n hn => ?_⟩
        · rw [upd_same, List.map_append]
          have : x = (x.toNat : Int) := by omega
          rw [this]
          rfl
        · rcases List.mem_append.mp hn with hn | hn
          · exact hns n hn
          · rw [List.mem_singleton] at hn
            omega
      have hsz : (ns.map nV).length < sizeLine := size_lt (by rw [List.length_map]; omega)
      have hmod : ∀ z : Int, 0 ≤ z % (many : Int) ∧ z % (many : Int) < (many : Int) := fun z => ⟨Int.emod_nonneg _ (by omega), Int.emod_lt_of_pos _ (by omega)⟩
      have small : ∀ H2 : Hp, H2 = H1 → ∀ σ2, σ2 = [some (.int c), some (.int (salt : Int)), some (.int (count : Int)), some (.int (many : Int)), some (.ref l), some (.int r), some (.bl gt), some (.int ((0 : Int) + (i : Int))), v8] → True := fun _ _ _ _ => trivial
      refine ⟨_, rfl, gt, rfl, ?_⟩
      have other : ∀ (D : Ends), (∀ (ns' : List Nat) H2 v8, Same H H2 → H2 l = some (.lst (ns'.map nV)) → ns'.length = i + 1 → (∀ n ∈ ns', n < many) → D.nx [some (.int c), some (.int (salt : Int)), some (.int (count : Int)), some (.int (many : Int)), some (.ref l), some (.int r), some (.bl gt), some (.int ((0 : Int) + (i : Int))), v8] H2) →
          (tSeq (tAsg (tOp (rI (fun _ j => 0 < j) fun i j => .int (i % j)) (tCB (fun xs H Q => (∃ i, xs = [.int i] ∧ Q (.int i) H) ∨ ∃ k, xs = [.bl k] ∧ Q (.int (if k then 1 else 0)) H) (tCons (tOp (rI0 fun i j => .int (i + j)) (tOp (rI0 fun i j => .int (i + j)) (tOp (rI0 fun i j => .int (i + j)) (tCB (fun xs H Q => ∃ i, xs = [.int i] ∧ Q (.int (if i < 0 then -i else i)) H) (tCons (tVar 0) tNil)) (tOp (rI CMul fun i j => .int (i * j)) (tVar 1) (tC (.int 7919)))) (tOp (rI CMul fun i j => .int (i * j)) (tVar 7) (tC (.int 104729)))) (tC (.int 17))) tNil)) (tC (.int 2147483647))) (gName 8))
           (tSeq (tAsg (tOp (rI (fun _ j => 0 < j) fun i j => .int (i % j)) (tCB (fun xs H Q => (∃ i, xs = [.int i] ∧ Q (.int i) H) ∨ ∃ k, xs = [.bl k] ∧ Q (.int (if k then 1 else 0)) H) (tCons (tOp (rI0 fun i j => .int (i + j)) (tOp (rI CMul fun i j => .int (i * j)) (tVar 8) (tC (.int 48271))) (tC (.int 5))) tNil)) (tC (.int 2147483647))) (gName 8))
           (tSeq (tAsg (tOp (rI (fun _ j => 0 < j) fun i j => .int (i % j)) (tCB (fun xs H Q => (∃ i, xs = [.int i] ∧ Q (.int i) H) ∨ ∃ k, xs = [.bl k] ∧ Q (.int (if k then 1 else 0)) H) (tCons (tOp (rI0 fun i j => .int (i + j)) (tOp (rI0 fun i j => .int (i + j)) (tOp (rI CMul fun i j => .int (i * j)) (tVar 8) (tVar 8)) (tOp (rI CMul fun i j => .int (i * j)) (tVar 8) (tC (.int 69621)))) (tOp (rI CMul fun i j => .int (i * j)) (tVar 7) (tC (.int 31)))) tNil)) (tC (.int 2147483629))) (gName 8))
             (tDrop (tBM K "list" rAppend (tVar 4) (tCons (tOp (rI (fun _ j => 0 < j) fun i j => .int (i % j)) (tCB (fun xs H Q => (∃ i, xs = [.int i] ∧ Q (.int i) H) ∨ ∃ k, xs = [.bl k] ∧ Q (.int (if k then 1 else 0)) H) (tCons (tOp (rI CDiv fun i j => .int (i / j)) (tVar 8) (tC (.int 7))) tNil)) (tVar 3)) tNil)))))) D
            [some (.int c), some (.int (salt : Int)), some (.int (count : Int)), some (.int (many : Int)), some (.ref l), some (.int r), some (.bl gt), some (.int ((0 : Int) + (i : Int))), v8] H1 := by
        intro D hD
        refine ⟨_, rfl, c, rfl, _, rfl, _, _, rfl, rfl, .inr ⟨by decide, by decide⟩, _, _, rfl, rfl, _, rfl, _, _, rfl, rfl, .inr ⟨by decide, by decide⟩, _, _, rfl, rfl, _, _, rfl, rfl, .inl ⟨_, rfl, _, _, rfl, rfl, by show (0 : Int) < 2147483647; decide, ?_⟩⟩
        dsimp only
        generalize hm1 : ((if c < 0 then -c else c) + (salt : Int) * 7919 + (0 + (i : Int)) * 104729 + 17) % 2147483647 = m1
        have b1 : 0 ≤ m1 ∧ m1 < 2147483647 := by rw [← hm1]; exact ⟨Int.emod_nonneg _ (by decide), Int.emod_lt_of_pos _ (by decide)⟩
        refine ⟨_, rfl, _, _, rfl, rfl, .inr ⟨by decide, by decide⟩, _, _, rfl, rfl, .inl ⟨_, rfl, _, _, rfl, rfl, by show (0 : Int) < 2147483647; decide, ?_⟩⟩
        dsimp only
        generalize hm2 : (m1 * 48271 + 5) % 2147483647 = m2
        have b2 : 0 ≤ m2 ∧ m2 < 2147483647 := by rw [← hm2]; exact ⟨Int.emod_nonneg _ (by decide), Int.emod_lt_of_pos _ (by decide)⟩
        refine ⟨_, rfl, _, rfl, _, _, rfl, rfl, .inl ⟨by omega, by omega⟩, _, rfl, _, _, rfl, rfl, .inr ⟨by decide, by decide⟩, _, _, rfl, rfl, _, rfl, _, _, rfl, rfl, .inr ⟨by decide, by decide⟩, _, _, rfl, rfl, .inl ⟨_, rfl, _, _, rfl, rfl, by show (0 : Int) < 2147483629; decide, ?_⟩⟩
        dsimp only
        generalize hm3 : (m2 * m2 + m2 * 69621 + (0 + (i : Int)) * 31) % 2147483629 = m3
        refine ⟨_, rfl, .inl ⟨rfl, _, SqL.of hnl⟩, _, rfl, _, _, rfl, rfl, ⟨by decide, by decide⟩, .inl ⟨_, rfl, _, rfl, _, _, rfl, rfl, by show (0 : Int) < (many : Int); omega, l, _, _, rfl, rfl, hnl, hsz, ?_⟩⟩
        obtain ⟨ns', z1, z2, z3, z4⟩ := fin _ _ (hmod (m3 / 7)).1 (hmod (m3 / 7)).2 rfl
        exact hD ns' _ _ z1 z2 z3 z4
      cases gt with
      | false =>
        refine iteF ?_
        refine iteF ?_
        exact other _ fun ns' H2 v8 z1 z2 z3 z4 => ⟨ns', r, false, _, _, z1, z2, z3, z4, hr0, rfl⟩
      | true =>
        refine iteT ?_
        refine ⟨_, rfl, _, _, rfl, rfl, _, rfl, ?_⟩
        refine ite2 (fun hgt => ?_) (fun hgt => ?_)
        · refine ⟨_, rfl, .inl ⟨rfl, _, SqL.of hnl⟩, _, rfl, .inl ⟨_, rfl, _, rfl, _, _, rfl, rfl, by show (0 : Int) < (many : Int); omega, l, _, _, rfl, rfl, hnl, hsz, ?_⟩⟩
          obtain ⟨ns', z1, z2, z3, z4⟩ := fin _ _ (hmod r).1 (hmod r).2 rfl
          refine ⟨_, rfl, _, rfl, _, _, rfl, rfl, ⟨by omega, by omega⟩, ns', _, true, _, _, z1, z2, z3, z4, Int.ediv_nonneg hr0 (by omega), rfl⟩
        · exact other _ fun ns' H2 v8 z1 z2 z3 z4 => ⟨ns', r, true, _, _, z1, z2, z3, z4, hr0, rfl⟩
    · rintro σ H1 ⟨ns, r, gt, v7, v8, sm, hnl, hlen, hns, hr0, rfl⟩
      exact ⟨_, rfl, q l ns H1 sm hl hnl (by omega) hns⟩
abbrev s_law_is : Stmt := top 71
abbrev N_law_is : List Str := ["actual", "expected"]
theorem sc_law_is : FnScope N_law_is ["actual", "expected"] (C8.fnScope s_law_is) := C8.fnScope_by (by decide +kernel)
def sp_law_is : Sp := fun vs H Q _ => ∃ x : Int, vs = [.int x, .int x] ∧ Q (.bl true) H
theorem ok_law_is {f : Addr} {fd : FuncData} (F : C8.Def K mg "_law_is" s_law_is f fd) (b : Binds K fd ["actual", "expected"] []) (T : Gb mg) : C8.Cal P w K mg base 1 "_law_is" sp_law_is [] := by
  refine C8.cal0 F b .nil sc_law_is (fun vs H Q E h => ?_) (fun cdv A outer s H vs Q E hr h => ?_)
  · obtain ⟨x, rfl, _⟩ := h
    rfl
  · obtain ⟨x, rfl, q⟩ := h
    refine ⟨_, (pss_one (ps_ret (pe_and (pe_callB call_isi (by rfl) T.isinstance (by decide +kernel) (pa_cons (pv 0) (pa_cons (pe_bltn (v := .ty "int") (by rfl) T.int (by decide +kernel) rfl) pa_nil))) (pe_and (pe_not (pe_callB call_isi (by rfl) T.isinstance (by decide +kernel) (pa_cons (pv 0) (pa_cons (pe_bltn (v := .ty "bool") (by rfl) T.bool (by decide +kernel) rfl) pa_nil)))) (pe_one (pe_cmpR op_eq (pv 0) (pv 1) (nomark _))))))), ?_⟩
    refine ⟨_, rfl, .int x, .ty "int", .type "int", .type "int", true, rfl, .ty _, .base (.int x), kit_ty (by decide +kernel), true, rfl, ?_⟩
    refine iteT ?_
    refine ⟨_, rfl, .int x, .ty "bool", .type "int", .type "bool", false, rfl, .ty _, .base (.int x), kit_ty (by decide +kernel), false, rfl, true, rfl, ?_⟩
    refine iteT ?_
    refine ⟨_, rfl, _, rfl, rfl, ?_⟩
    rw [decide_eq_true rfl]
    exact q
end
end My
namespace My
open PySem L2
/-! ### the law's weaving, tick by tick: the mathematics -/
abbrev S2 := Nat × Nat
def g1 (b : Bd) (s : S2) : List S2 := if s.1 = 0 ∧ s.2 + 1 ≤ b.limit then [(0, s.2 + 1)] else []
def g3 (b : Bd) (s : S2) : List S2 := if s.1 = 1 ∧ b.soon ≤ s.2 + 1 then [(0, 0)] else []
def g4 (b : Bd) (s : S2) : List S2 := if s.1 = 1 ∧ s.2 + 1 < b.late then [(1, s.2 + 1)] else []
def gS (b : Bd) (s : S2) : List S2 := g1 b s ++ g3 b s ++ g4 b s
def rS (b : Bd) (s : S2) : Bool := decide (s.1 = 0) && decide (b.limit < s.2 + 1)
def wovI (b : Bd) (p : S2) : Nat → List S2 × Bool
  | 0 => ([p], false)
  | j + 1 => ((wovI b p j).1.flatMap (gS b), (wovI b p j).2 || (wovI b p j).1.any (rS b))
def wovF (b : Bd) (p : S2) (c : Bool) (t : Nat) : Bool × List S2 := ((wovI b p t).2, if c = true then (wovI b p t).1.map fun _ => (1, 0) else (wovI b p t).1)
theorem gS_len (b : Bd) (s : S2) : (gS b s).length ≤ 3 := by
  unfold gS g1 g3 g4
  rw [List.length_append, List.length_append]
  split <;> split <;> split <;> simp
theorem wovI_len (b : Bd) (p : S2) : ∀ j, (wovI b p j).1.length ≤ 3 ^ j
  | 0 => Nat.le_refl _
  | j + 1 => by
    have h := flat_len (f := gS b) (n := 3) (l := (wovI b p j).1) fun s _ => gS_len b s
    have h2 := wovI_len b p j
    show ((wovI b p j).1.flatMap (gS b)).length ≤ 3 ^ (j + 1)
    rw [Nat.pow_succ]
    exact Nat.le_trans h (Nat.mul_le_mul_right 3 h2)
/-- a side that sits at the board -/
theorem wovI_hand {b : Bd} {a : Nat} : ∀ {j : Nat}, 1 ≤ j → a ≤ b.limit → wovI b (0, a) j = (if a + j ≤ b.limit then [(0, a + j)] else [], decide (b.limit < a + j))
  | 1, _, h => by
    show (gS b (0, a) ++ [], false || (rS b (0, a) || false)) = _
    unfold gS g1 g3 g4 rS
    by_cases e : a + 1 ≤ b.limit
    · simp [e, Nat.not_lt.mpr e]
    · simp [e, Nat.lt_of_not_le e]
  | j + 2, _, h => by
    have ih := wovI_hand (b := b) (a := a) (j := j + 1) (by omega) h
    show ((wovI b (0, a) (j + 1)).1.flatMap (gS b), (wovI b (0, a) (j + 1)).2 || (wovI b (0, a) (j + 1)).1.any (rS b)) = _
    rw [ih]
    by_cases e : a + (j + 1) ≤ b.limit
    · rw [if_pos e]
      show (gS b (0, a + (j + 1)) ++ [], decide (b.limit < a + (j + 1)) || (rS b (0, a + (j + 1)) || false)) = _
      unfold gS g1 g3 g4 rS
      by_cases e2 : a + (j + 1) + 1 ≤ b.limit
      · have e3 : a + (j + 2) ≤ b.limit := by omega
        have e4 : ¬ b.limit < a + (j + 1) := by omega
        have e5 : ¬ b.limit < a + (j + 2) := by omega
        have e6 : ¬ b.limit < a + (j + 1) + 1 := by omega
        simp [e2, e3, e4, e5, e6]
        omega
      · have e3 : ¬ a + (j + 2) ≤ b.limit := by omega
        have e5 : b.limit < a + (j + 2) := by omega
        have e6 : b.limit < a + (j + 1) + 1 := by omega
        simp [e2, e3, e5, e6]
    · rw [if_neg e]
      have e3 : ¬ a + (j + 2) ≤ b.limit := by omega
      have e4 : b.limit < a + (j + 1) := by omega
      have e5 : b.limit < a + (j + 2) := by omega
      rw [if_neg e3, decide_eq_true e4, decide_eq_true e5]
      rfl
theorem flat_congr {α β : Type} {f g : α → List β} : ∀ {l : List α}, (∀ x ∈ l, f x = g x) → l.flatMap f = l.flatMap g
  | [], _ => rfl
  | x :: l, h => by rw [List.flatMap_cons, List.flatMap_cons, h x List.mem_cons_self, flat_congr fun y hy => h y (List.mem_cons_of_mem _ hy)]
/-- the answers one tick on -/
theorem ansP_next (b : Bd) (age j : Nat) : ∀ n, n ≤ j → (ansP b age j n).flatMap (gS b) = ansP b age (j + 1) n
  | 0, _ => rfl
  | n + 1, h => by
    rw [ansP_snoc, ansP_snoc, List.flatMap_append, ansP_next b age j n (by omega)]
    congr 1
    by_cases ha : ansIn b age (n + 1) = true
    · rw [ha]
      by_cases h1 : j + 1 - (n + 1) ≤ b.limit
      · rw [decide_eq_true h1, decide_eq_true (show j - (n + 1) ≤ b.limit by omega)]
        show gS b (0, j - (n + 1)) ++ [] = _
        unfold gS g1 g3 g4
        have e : j - (n + 1) + 1 ≤ b.limit := by omega
        have e2 : j - (n + 1) + 1 = j + 1 - (n + 1) := by omega
        simp [e, e2]
        omega
      · rw [decide_eq_false h1]
        by_cases h2 : j - (n + 1) ≤ b.limit
        · rw [decide_eq_true h2]
          show gS b (0, j - (n + 1)) ++ [] = []
          unfold gS g1 g3 g4
          have e : ¬ j - (n + 1) + 1 ≤ b.limit := by omega
          simp [e]
        · rw [decide_eq_false h2]; rfl
    · have ha : ansIn b age (n + 1) = false := by simpa using ha
      rw [ha]; rfl
theorem ansF_next (b : Bd) (age j : Nat) : ∀ n, n ≤ j → (ansF b age j n || (ansP b age j n).any (rS b)) = ansF b age (j + 1) n
  | 0, _ => rfl
  | n + 1, h => by
    have ih := ansF_next b age j n (by omega)
    rw [ansF_snoc, ansF_snoc, ansP_snoc, List.any_append, ← ih]
    have key : (ansIn b age (n + 1) && decide (b.limit < j - (n + 1)) || (if (ansIn b age (n + 1) && decide (j - (n + 1) ≤ b.limit)) = true then [(0, j - (n + 1))] else [] : List S2).any (rS b)) = (ansIn b age (n + 1) && decide (b.limit < j + 1 - (n + 1))) := by
      by_cases ha : ansIn b age (n + 1) = true
      · rw [ha]
        by_cases h2 : j - (n + 1) ≤ b.limit
        · rw [decide_eq_true h2, decide_eq_false (show ¬ b.limit < j - (n + 1) by omega)]
          show (false || (rS b (0, j - (n + 1)) || false)) = _
          unfold rS
          have e2 : j - (n + 1) + 1 = j + 1 - (n + 1) := by omega
          simp [e2]
        · rw [decide_eq_false h2, decide_eq_true (show b.limit < j - (n + 1) by omega), decide_eq_true (show b.limit < j + 1 - (n + 1) by omega)]
          rfl
      · have ha : ansIn b age (n + 1) = false := by simpa using ha
        rw [ha]; rfl
    cases ansF b age j n <;> cases (ansP b age j n).any (rS b) <;> simp only [Bool.false_or, Bool.true_or, Bool.or_true] <;> first | exact key | rfl
theorem wovI_other {b : Bd} {age : Nat} (h0 : age < b.late) : ∀ j : Nat, wovI b (1, age) j = (ansP b age j j ++ (if age + j < b.late then [(1, age + j)] else []), ansF b age j j)
  | 0 => by
    show ([(1, age)], false) = (ansP b age 0 0 ++ (if age + 0 < b.late then [(1, age + 0)] else []), ansF b age 0 0)
    rw [if_pos (by omega)]
    rfl
  | j + 1 => by
    have ih := wovI_other (b := b) (age := age) h0 j
    show ((wovI b (1, age) j).1.flatMap (gS b), (wovI b (1, age) j).2 || (wovI b (1, age) j).1.any (rS b)) = _
    rw [ih]
    dsimp only
    have eP : (ansP b age j j ++ (if age + j < b.late then [(1, age + j)] else [])).flatMap (gS b) = ansP b age (j + 1) (j + 1) ++ (if age + (j + 1) < b.late then [(1, age + (j + 1))] else []) := by
      rw [List.flatMap_append, ansP_next b age j j (Nat.le_refl _), ansP_snoc, List.append_assoc]
      congr 1
      by_cases e : age + j < b.late
      · rw [if_pos e]
        show gS b (1, age + j) ++ [] = _
        unfold gS g1 g3 g4 ansIn
        have e1 : age + (j + 1) ≤ b.late := by omega
        have e2 : j + 1 - (j + 1) ≤ b.limit := by omega
        by_cases hs : b.soon ≤ age + j + 1
        · have hs' : b.soon ≤ age + (j + 1) := by omega
          simp [hs, hs', e1]
          rfl
        · have hs' : ¬ b.soon ≤ age + (j + 1) := by omega
          simp [hs, hs']
          rfl
      · have e2 : ¬ age + (j + 1) < b.late := by omega
        have e1 : ¬ age + (j + 1) ≤ b.late := by omega
        rw [if_neg e, if_neg e2]
        unfold ansIn
        simp [e1]
    have eF : (ansF b age j j || (ansP b age j j ++ (if age + j < b.late then [(1, age + j)] else [])).any (rS b)) = ansF b age (j + 1) (j + 1) := by
      rw [List.any_append, ← Bool.or_assoc, ansF_next b age j j (Nat.le_refl _), ansF_snoc]
      have z : (if age + j < b.late then [(1, age + j)] else [] : List S2).any (rS b) = false := by
        split
        · show (rS b (1, age + j) || false) = false
          unfold rS
          simp
        · rfl
      have z2 : decide (b.limit < j + 1 - (j + 1)) = false := decide_eq_false (by omega)
      rw [z, z2, Bool.and_false]
    rw [eP, eF]
/-- the weaving is what passed tells -/
theorem wov_passed {b : Bd} {p : S2} (o : okP b p) {c : Bool} {t : Nat} (ht : 1 ≤ t) (hc : c = true → p.1 = 0) : wovF b p c t = passedF b p c t := by
  obtain ⟨x, a⟩ := p
  unfold wovF passedF
  rcases o with ⟨h1, h2⟩ | ⟨h1, h2⟩
  · have h1 : x = 0 := h1
    subst h1
    have h2 : a ≤ b.limit := h2
    rw [wovI_hand ht h2]
    dsimp only
    rw [if_neg (show ¬ (0 : Nat) = 1 by decide)]
    by_cases e : b.limit < a + t
    · rw [if_pos e, decide_eq_true e, if_neg (show ¬ a + t ≤ b.limit by omega)]
      cases c <;> rfl
    · rw [if_neg e, decide_eq_false e, if_pos (show a + t ≤ b.limit by omega)]
      cases c <;> rfl
  · have h1 : x = 1 := h1
    subst h1
    have h2 : a < b.late := h2
    have hc : c = false := by
      cases c with
      | false => rfl
      | true => exact absurd (hc rfl) (by show ¬ (1 : Nat) = 0; decide)
    subst hc
    rw [wovI_other h2]
    rfl
end My
namespace My
open PySem L2
/-! ### _law_woven, _law_grown, _law_led -/
/-- a spot: a list of two numbers, off the addresses X -/
def SpL (H : Hp) (X : List Addr) (v : V) (s : S2) : Prop := ∃ a, v = .ref a ∧ H a = some (.lst [nV s.1, nV s.2]) ∧ a ∉ X
theorem SpL.mono {H H' : Hp} {X : List Addr} {v : V} {s : S2} (t : Same H H') (h : SpL H X v s) : SpL H' X v s := let ⟨a, e, h1, h2⟩ := h; ⟨a, e, t _ _ h1, h2⟩
theorem SpL.upd {H : Hp} {X : List Addr} {d : Addr} {o : HO} {v : V} {s : S2} (hd : d ∈ X) (h : SpL H X v s) : SpL (upd H d o) X v s := let ⟨a, e, h1, h2⟩ := h; ⟨a, e, (upd_ne (fun z => h2 (by rw [z]; exact hd))).trans h1, h2⟩
theorem SpL.nil {H : Hp} {X : List Addr} {v : V} {s : S2} (h : SpL H X v s) : SpL H [] v s := let ⟨a, e, h1, _⟩ := h; ⟨a, e, h1, fun z => nomatch z⟩
theorem SpL.newX {H : Hp} {d : Addr} {v : V} {s : S2} (hd : H d = none) (h : SpL H [] v s) : SpL H [d] v s := let ⟨a, e, h1, _⟩ := h; ⟨a, e, h1, fun z => by rw [List.mem_singleton] at z; rw [z, hd] at h1; cases h1⟩
def SpsAt (H : Hp) (X : List Addr) (l : Addr) (ss : List S2) : Prop := ∃ vs, H l = some (.lst vs) ∧ Paired (SpL H X) vs ss
theorem SpsAt.mono {H H' : Hp} {X : List Addr} {l : Addr} {ss : List S2} (t : Same H H') (h : SpsAt H X l ss) : SpsAt H' X l ss := let ⟨vs, e, p⟩ := h; ⟨vs, t _ _ e, L2.Paired.mapP p fun _ _ => SpL.mono t⟩
theorem paired_map_r {α β γ : Type} {F : α → β → Prop} {G : α → γ → Prop} {f : β → γ} (h : ∀ a b, F a b → G a (f b)) : ∀ {l : List α} {m : List β}, Paired F l m → Paired G l (m.map f)
  | _, _, .nil => .nil
  | _, _, .cons r t => .cons (h _ _ r) (paired_map_r h t)
theorem pow3_le {t : Nat} (h : t ≤ 6) : 3 ^ t ≤ 729 := Nat.le_trans (Nat.pow_le_pow_right (by decide) h) (by decide)
theorem any_snoc {α : Type} {f : α → Bool} {l : List α} {i : Nat} {a : α} (h : l[i]? = some a) : (l.take (i + 1)).any f = ((l.take i).any f || f a) := by
  rw [take_snoc h, List.any_append]
  simp
/-- a list grows by one spot -/
theorem SpsAt.push {H0 H : Hp} {D t : Addr} {ss : List S2} {s : S2} {x y : V} (ex : x = nV s.1) (ey : y = nV s.2) (h : SpsAt H [D] D ss) (s0 : Same H0 H) (hD : H0 D = none) (ht : H t = none) :
    ∃ vs, upd H t (.lst [x, y]) D = some (.lst vs) ∧ vs.length = ss.length ∧ Same H0 (upd (upd H t (.lst [x, y])) D (.lst (vs ++ [.ref t]))) ∧ SpsAt (upd (upd H t (.lst [x, y])) D (.lst (vs ++ [.ref t]))) [D] D (ss ++ [s]) := by
  subst ex ey
  obtain ⟨vs, e, p⟩ := h
  have s1 := same_new (o := .lst [nV s.1, nV s.2]) (Same.refl H) ht
  have ntD : t ≠ D := fun z => by rw [z, e] at ht; cases ht
  refine ⟨vs, s1 _ _ e, p.length, same_mut (s0.trans s1) hD, _, upd_same, Paired.snoc (L2.Paired.mapP p fun _ _ h => (h.mono s1).upd List.mem_cons_self) ⟨t, rfl, (upd_ne ntD).trans upd_same, fun z => ntD (List.mem_singleton.mp z)⟩⟩
theorem ixL2 {x y : V} : atI [x, y] 0 = some x := rfl
section
variable {P : Program} {w : World} {K : PySem.W.Frag} {mg : Str → Option Value} {base : Heap}
abbrev s_law_woven : Stmt := top 72
abbrev N_law_woven : List Str := ["board", "pair", "chosen", "ticks", "now", "risky", "tick", "grown", "spot", "age"]
theorem sc_law_woven : FnScope N_law_woven ["board", "pair", "chosen", "ticks"] (C8.fnScope s_law_woven) := C8.fnScope_by (by decide +kernel)
def sp_law_woven (K : PySem.W.Frag) : Sp := fun vs H Q _ => ∃ (v u : V) (b : Bd) (p : S2) (c : Bool) (t : Nat), vs = [v, u, .bl c, nV t] ∧ BdV K H v b ∧ PairV K H u p ∧ t ≤ 6 ∧
  ∀ l sl H', Same H H' → H' l = some (.lst [.bl (wovF b p c t).1, .ref sl]) → SpsAt H' [] sl (wovF b p c t).2 → Q (.ref l) H'
theorem ok_law_woven {f : Addr} {fd : FuncData} (F : C8.Def K mg "_law_woven" s_law_woven f fd) (b : Binds K fd ["board", "pair", "chosen", "ticks"] []) (T : Gb mg) : C8.Cal P w K mg base 1 "_law_woven" (sp_law_woven K) [] := by
  refine C8.cal0 F b .nil sc_law_woven (fun vs H Q E h => ?_) (fun cdv A outer s H vs Q E hr h => ?_)
  · obtain ⟨v, u, bd, p, c, t, rfl, _⟩ := h
    rfl
  · obtain ⟨v, u, bd, p, c, t, rfl, ⟨ba, rfl, hba⟩, ⟨pa, rfl, hpa⟩, ht, q⟩ := h
    refine ⟨_, (pss_cons (ps_set (i := 4) sc_law_woven.nd rfl (Or.inl rfl) (pe_lst (pa_cons (pe_lst (pa_cons (pe_ix (ix_tupK K rfl) (pv 1) pe_int (fun _ _ => rfl)) (pa_cons (pe_ix (ix_tupK K rfl) (pv 1) pe_int (fun _ _ => rfl)) pa_nil))) pa_nil)))
(pss_cons (ps_set (i := 5) sc_law_woven.nd rfl (Or.inl rfl) pe_bl)
(pss_cons (ps_for PassesOwn.never rfl (pi_range1 (by rfl) T.range (pa_cons (pv 3) pa_nil)) (pg_name (i := 6) sc_law_woven.nd rfl (Or.inl rfl))
(pss_cons (ps_set (i := 7) sc_law_woven.nd rfl (Or.inl rfl) (pe_lst pa_nil))
(pss_cons (ps_for PassesOwn.never rfl (pi_listK K rfl (pv 4)) (pg_name (i := 8) sc_law_woven.nd rfl (Or.inl rfl))
(pss_cons (ps_set (i := 9) sc_law_woven.nd rfl (Or.inl rfl) (pe_op op_add (pe_ix (ix_listK K rfl) (pv 8) pe_int (fun _ _ => rfl)) pe_int))
(C8.pss_cut (ps_if (PW.pt (pw_and (pt_cmpR op_eq (pe_ix (ix_listK K rfl) (pv 8) pe_int (fun _ _ => rfl)) pe_int (nomark _)) (pw_and1 (pt_cmpR op_le (pv 9) (pe_ix (ix_tupK K rfl) (pv 0) pe_int (fun _ _ => rfl)) (nomark _)))))
(pss_one (ps_expr (pe_bm PySem.F.plainAttrs_list PySem.F.slot_list_append PySem.F.type_list_append mt_append (pv 7) (pa_cons (pe_lst (pa_cons pe_int (pa_cons (pv 9) pa_nil))) pa_nil))))
pss_nil)
(C8.pss_cut (ps_if (PW.pt (pw_and (pt_cmpR op_eq (pe_ix (ix_listK K rfl) (pv 8) pe_int (fun _ _ => rfl)) pe_int (nomark _)) (pw_and1 (pt_cmpR op_gt (pv 9) (pe_ix (ix_tupK K rfl) (pv 0) pe_int (fun _ _ => rfl)) (nomark _)))))
(pss_one (ps_set (i := 5) sc_law_woven.nd rfl (Or.inl rfl) pe_bl))
pss_nil)
(C8.pss_cut (ps_if (PW.pt (pw_and (pt_cmpR op_eq (pe_ix (ix_listK K rfl) (pv 8) pe_int (fun _ _ => rfl)) pe_int (nomark _)) (pw_and1 (pt_cmpR op_ge (pv 9) (pe_ix (ix_tupK K rfl) (pv 0) pe_int (fun _ _ => rfl)) (nomark _)))))
(pss_one (ps_expr (pe_bm PySem.F.plainAttrs_list PySem.F.slot_list_append PySem.F.type_list_append mt_append (pv 7) (pa_cons (pe_lst (pa_cons pe_int (pa_cons pe_int pa_nil))) pa_nil))))
pss_nil)
(pss_one (ps_if (PW.pt (pw_and (pt_cmpR op_eq (pe_ix (ix_listK K rfl) (pv 8) pe_int (fun _ _ => rfl)) pe_int (nomark _)) (pw_and1 (pt_cmpR op_lt (pv 9) (pe_ix (ix_tupK K rfl) (pv 0) pe_int (fun _ _ => rfl)) (nomark _)))))
(pss_one (ps_expr (pe_bm PySem.F.plainAttrs_list PySem.F.slot_list_append PySem.F.type_list_append mt_append (pv 7) (pa_cons (pe_lst (pa_cons pe_int (pa_cons (pv 9) pa_nil))) pa_nil))))
pss_nil)))))))
(pss_one (ps_set (i := 4) sc_law_woven.nd rfl (Or.inl rfl) (pe_callTy call_list_of (by rfl) T.list (by decide +kernel) (pa_cons (pv 7) pa_nil)))))))
(pss_cons (ps_if (pt_val (pv 2))
(pss_one (ps_ret (pe_lst (pa_cons (pv 5) (pa_cons (pe_lc (own := [("spot", 8)]) rfl sc_law_woven.nd (pi_listK K rfl (pv 4)) (blkOk_by (N := N_law_woven) (sc := C8.fnScope s_law_woven) (by decide +kernel)) (fun _ _ _ _ _ => (pg_name (i := 8) sc_law_woven.nd rfl (Or.inl rfl))) (fun _ _ _ _ _ => pts_nil) (fun _ _ _ _ _ => (pe_lst (pa_cons pe_int (pa_cons pe_int pa_nil))))) pa_nil)))))
pss_nil)
(pss_one (ps_ret (pe_lst (pa_cons (pv 5) (pa_cons (pv 4) pa_nil))))))))), ?_⟩
    have bnd : ∀ j, j ≤ t → (wovI bd p j).1.length ≤ 729 := fun j hj => Nat.le_trans (wovI_len bd p j) (pow3_le (by omega))
    refine ⟨_, rfl, pa, _, 0, _, rfl, rfl, hpa, rfl, _, rfl, pa, _, 1, _, rfl, rfl, hpa, rfl, by show 2 ≤ sizeLine; decide, fun e0 he0 => ⟨by show 1 ≤ sizeLine; decide, fun n0 hn0 => ?_⟩⟩
    have s1 := same_new (o := .lst [nV p.1, nV p.2]) (Same.refl H) he0
    have he1 : upd H e0 (.lst [nV p.1, nV p.2]) e0 = some (.lst [nV p.1, nV p.2]) := upd_same
    have s2 := same_new (o := .lst [.ref e0]) s1 hn0
    have he2 := same_new (o := .lst [.ref e0]) (Same.refl _) hn0 _ _ he1
    refine ⟨_, rfl, (t : Int), rfl, by omega, by omega, for_it (walk_range (lo := 0) (n := (t : Int).toNat)) (fun j σ H' => Same H H' ∧ ∃ na v6 v7 v8 v9, SpsAt H' [] na (wovI bd p j).1 ∧ σ = [some (.ref ba), some (.ref pa), some (.bl c), some (nV t), some (.ref na), some (.bl (wovI bd p j).2), v6, v7, v8, v9])
      ⟨s2, n0, _, _, _, _, ⟨_, upd_same, .cons ⟨e0, rfl, he2, fun z => nomatch z⟩ .nil⟩, rfl⟩ (fun _ _ _ _ _ => trivial) ?_ ?_⟩
    · rintro j x σ H3 H3' hj ⟨s3, na, v6, v7, v8, v9, ⟨nvs, hna, hnp⟩, rfl⟩ ⟨rfl, rfl⟩
      have hjt : j < t := by omega
      have hb0 := bnd j (by omega)
      have hb1 := bnd (j + 1) (by omega)
      have e1 : (wovI bd p (j + 1)) = ((wovI bd p j).1.flatMap (gS bd), (wovI bd p j).2 || (wovI bd p j).1.any (rS bd)) := rfl
      rw [e1] at hb1 ⊢
      dsimp only at hb1 ⊢
      generalize wovI bd p j = WI at hnp hb0 hb1 ⊢
      obtain ⟨ws, wr⟩ := WI
      dsimp only at hnp hb0 hb1 ⊢
      refine ⟨by show 0 ≤ sizeLine; decide, fun D hD => ?_⟩
      have s4 := same_new (o := .lst []) (Same.refl H3') hD
      have ln := hnp.length
      have hDH : H D = none := s3.free hD
      refine ⟨_, rfl, na, rfl, ⟨_, SqL.of (s4 _ _ hna)⟩, for_it (walk_list (xs := nvs)) (fun i σ H' => Same H3' H' ∧ SpsAt H' [D] D ((ws.take i).flatMap (gS bd)) ∧ ∃ v8 v9, σ = [some (.ref ba), some (.ref pa), some (.bl c), some (nV t), some (.ref na), some (.bl (wr || (ws.take i).any (rS bd))), some (.int (0 + (j : Int))), some (.ref D), v8, v9])
        ⟨s4, ⟨[], upd_same, .nil⟩, _, _, by rw [List.take_zero, List.any_nil, Bool.or_false]; rfl⟩ (fun i σ H' _ h => SqL.of (h.1 _ _ hna)) ?_ ?_⟩
      · rintro i x σ H5 H5' hi ⟨s5, hg, v8, v9, rfl⟩ ⟨rfl, hx⟩
        obtain ⟨sp, hsp, ⟨sa, rfl, hsa, _⟩⟩ := paired_at hnp hx
        have hi' : i < ws.length := (List.getElem?_eq_some_iff.mp hsp).1
        have hba5 := (s3.trans s5).tup hba
        have efl : (ws.take (i + 1)).flatMap (gS bd) = (((ws.take i).flatMap (gS bd) ++ g1 bd sp) ++ g3 bd sp) ++ g4 bd sp := by
          rw [take_snoc hsp, List.flatMap_append, List.flatMap_cons, List.flatMap_nil, List.append_nil]
          unfold gS
          rw [List.append_assoc, List.append_assoc, List.append_assoc]
        have ean : (wr || (ws.take (i + 1)).any (rS bd)) = ((wr || (ws.take i).any (rS bd)) || rS bd sp) := by rw [any_snoc hsp, Bool.or_assoc]
        have hlen : ((ws.take (i + 1)).flatMap (gS bd)).length ≤ 729 := by
          have e3 := congrArg List.length (congrArg (List.flatMap (gS bd)) (List.take_append_drop (i + 1) ws))
          rw [List.flatMap_append, List.length_append] at e3
          omega
        rw [efl, List.length_append, List.length_append, List.length_append] at hlen
        rw [efl, ean]
        generalize (ws.take i).flatMap (gS bd) = base0 at hg hlen ⊢
        generalize (wr || (ws.take i).any (rS bd)) = r0
        have hsa5 := s5 _ _ hsa
        refine ⟨_, rfl, sa, _, 1, _, rfl, rfl, SqL.of hsa5, rfl, _, _, rfl, rfl, ?_⟩
        have ez : ∀ n : Nat, decide (V.int (n : Int) = V.int 0) = decide (n = 0) := fun n => by rw [dec_int]; exact decide_eq_decide.mpr ⟨fun z => by omega, fun z => by omega⟩
        have eo : ∀ n : Nat, decide (V.int (n : Int) = V.int 1) = decide (n = 1) := fun n => by rw [dec_int]; exact decide_eq_decide.mpr ⟨fun z => by omega, fun z => by omega⟩
        -- the side sits on
        refine ⟨fun σ H' => Same H3' H' ∧ SpsAt H' [D] D (base0 ++ g1 bd sp) ∧ σ = [some (.ref ba), some (.ref pa), some (.bl c), some (nV t), some (.ref na), some (.bl r0), some (.int (0 + (j : Int))), some (.ref D), some (.ref sa), some (.int ((sp.2 : Int) + 1))], ?_, ?_⟩
        · refine ⟨_, rfl, sa, _, 0, _, rfl, rfl, SqL.of hsa5, rfl, rfl, _, rfl, ?_⟩
          rw [ez]
          unfold g1
          by_cases h0 : sp.1 = 0
          · refine ifT h0 ?_
            refine ⟨_, rfl, _, rfl, ba, _, 1, _, rfl, rfl, hba5, rfl, _, _, rfl, rfl, _, rfl, ?_⟩
            by_cases h1 : sp.2 + 1 ≤ bd.limit
            · refine ifT (by show (sp.2 : Int) + 1 ≤ bd.limit; omega) ?_
              rw [if_pos ⟨h0, h1⟩]
              obtain ⟨gvs, hgv, hgp⟩ := id hg
              refine ⟨_, rfl, .inl ⟨rfl, _, SqL.of hgv⟩, _, rfl, by show 2 ≤ sizeLine; decide, fun t1 ht1 => ?_⟩
              obtain ⟨vs', k1, k2, k3, k4⟩ := SpsAt.push (s := (0, sp.2 + 1)) (x := .int 0) (y := .int ((sp.2 : Int) + 1)) rfl rfl hg s5 hD ht1
              exact ⟨D, vs', _, rfl, rfl, k1, size_lt (by omega), k3, k4, rfl⟩
            · refine ifF (by show ¬ (sp.2 : Int) + 1 ≤ bd.limit; omega) ?_
              rw [if_neg (fun z => h1 z.2), List.append_nil]
              exact ⟨s5, hg, rfl⟩
          · refine ifF h0 ?_
            rw [if_neg (fun z => h0 z.1), List.append_nil]
            exact ⟨s5, hg, rfl⟩
        rintro σ6 H6 ⟨s6, hg6, rfl⟩
        have hsa6 := s6 _ _ hsa
        have hba6 := (s3.trans s6).tup hba
        -- .. or is late
        refine ⟨fun σ H' => Same H3' H' ∧ SpsAt H' [D] D (base0 ++ g1 bd sp) ∧ σ = [some (.ref ba), some (.ref pa), some (.bl c), some (nV t), some (.ref na), some (.bl (r0 || rS bd sp)), some (.int (0 + (j : Int))), some (.ref D), some (.ref sa), some (.int ((sp.2 : Int) + 1))], ?_, ?_⟩
        · refine ⟨_, rfl, sa, _, 0, _, rfl, rfl, SqL.of hsa6, rfl, rfl, _, rfl, ?_⟩
          rw [ez]
          unfold rS
          by_cases h0 : sp.1 = 0
          · refine ifT h0 ?_
            refine ⟨_, rfl, _, rfl, ba, _, 1, _, rfl, rfl, hba6, rfl, _, _, rfl, rfl, _, rfl, ?_⟩
            by_cases h1 : bd.limit < sp.2 + 1
            · refine ifT (by show (sp.2 : Int) + 1 > bd.limit; omega) ?_
              rw [decide_eq_true h0, decide_eq_true h1, Bool.and_true, Bool.or_true]
              exact ⟨s6, hg6, rfl⟩
            · refine ifF (by show ¬ (sp.2 : Int) + 1 > bd.limit; omega) ?_
              rw [decide_eq_false h1, Bool.and_false, Bool.or_false]
              exact ⟨s6, hg6, rfl⟩
          · refine ifF h0 ?_
            rw [decide_eq_false h0, Bool.false_and, Bool.or_false]
            exact ⟨s6, hg6, rfl⟩
        rintro σ7 H7 ⟨s7, hg7, rfl⟩
        have hsa7 := s7 _ _ hsa
        have hba7 := (s3.trans s7).tup hba
        -- the other side answers
        refine ⟨fun σ H' => Same H3' H' ∧ SpsAt H' [D] D ((base0 ++ g1 bd sp) ++ g3 bd sp) ∧ σ = [some (.ref ba), some (.ref pa), some (.bl c), some (nV t), some (.ref na), some (.bl (r0 || rS bd sp)), some (.int (0 + (j : Int))), some (.ref D), some (.ref sa), some (.int ((sp.2 : Int) + 1))], ?_, ?_⟩
        · refine ⟨_, rfl, sa, _, 0, _, rfl, rfl, SqL.of hsa7, rfl, rfl, _, rfl, ?_⟩
          rw [eo]
          unfold g3
          by_cases h0 : sp.1 = 1
          · refine ifT h0 ?_
            refine ⟨_, rfl, _, rfl, ba, _, 2, _, rfl, rfl, hba7, rfl, _, _, rfl, rfl, _, rfl, ?_⟩
            by_cases h1 : bd.soon ≤ sp.2 + 1
            · refine ifT (by show (sp.2 : Int) + 1 ≥ bd.soon; omega) ?_
              rw [if_pos ⟨h0, h1⟩]
              obtain ⟨gvs, hgv, hgp⟩ := id hg7
              refine ⟨_, rfl, .inl ⟨rfl, _, SqL.of hgv⟩, by show 2 ≤ sizeLine; decide, fun t1 ht1 => ?_⟩
              obtain ⟨vs', k1, k2, k3, k4⟩ := SpsAt.push (s := (0, 0)) (x := .int 0) (y := .int 0) rfl rfl hg7 s7 hD ht1
              rw [List.length_append] at k2
              exact ⟨D, vs', _, rfl, rfl, k1, size_lt (by omega), k3, k4, rfl⟩
            · refine ifF (by show ¬ (sp.2 : Int) + 1 ≥ bd.soon; omega) ?_
              rw [if_neg (fun z => h1 z.2), List.append_nil]
              exact ⟨s7, hg7, rfl⟩
          · refine ifF h0 ?_
            rw [if_neg (fun z => h0 z.1), List.append_nil]
            exact ⟨s7, hg7, rfl⟩
        rintro σ8 H8 ⟨s8, hg8, rfl⟩
        have hsa8 := s8 _ _ hsa
        have hba8 := (s3.trans s8).tup hba
        -- .. or not yet
        refine ⟨_, rfl, sa, _, 0, _, rfl, rfl, SqL.of hsa8, rfl, rfl, _, rfl, ?_⟩
        rw [eo]
        unfold g4
        by_cases h0 : sp.1 = 1
        · refine ifT h0 ?_
          refine ⟨_, rfl, _, rfl, ba, _, 3, _, rfl, rfl, hba8, rfl, _, _, rfl, rfl, _, rfl, ?_⟩
          by_cases h1 : sp.2 + 1 < bd.late
          · refine ifT (by show (sp.2 : Int) + 1 < bd.late; omega) ?_
            rw [if_pos ⟨h0, h1⟩]
            obtain ⟨gvs, hgv, hgp⟩ := id hg8
            refine ⟨_, rfl, .inl ⟨rfl, _, SqL.of hgv⟩, _, rfl, by show 2 ≤ sizeLine; decide, fun t1 ht1 => ?_⟩
            obtain ⟨vs', k1, k2, k3, k4⟩ := SpsAt.push (s := (1, sp.2 + 1)) (x := .int 1) (y := .int ((sp.2 : Int) + 1)) rfl rfl hg8 s8 hD ht1
            rw [List.length_append, List.length_append] at k2
            exact ⟨D, vs', _, rfl, rfl, k1, size_lt (by omega), k3, k4, _, _, rfl⟩
          · refine ifF (by show ¬ (sp.2 : Int) + 1 < bd.late; omega) ?_
            rw [if_neg (fun z => h1 z.2), List.append_nil]
            exact ⟨s8, hg8, _, _, rfl⟩
        · refine ifF h0 ?_
          rw [if_neg (fun z => h0 z.1), List.append_nil]
          exact ⟨s8, hg8, _, _, rfl⟩
      · rintro σ H5 ⟨s5, ⟨gvs, hgv, hgp⟩, v8, v9, rfl⟩
        rw [ln, List.take_length] at hgp ⊢
        refine ⟨_, rfl, D, _, rfl, .inl (SqL.of hgv), fun l hl => ?_⟩
        have s6 := same_new (o := .lst gvs) (Same.refl H5) hl
        exact ⟨(s3.trans s5).trans s6, l, _, _, _, _, ⟨_, upd_same, L2.Paired.mapP hgp fun _ _ h => (h.mono s6).nil⟩, rfl⟩
    · rintro σ H3 ⟨s3, na, v6, v7, v8, v9, hnow, rfl⟩
      have et : (t : Int).toNat = t := Int.toNat_natCast t
      rw [et] at hnow ⊢
      have hb := bnd t (Nat.le_refl _)
      refine ⟨_, rfl, c, rfl, ?_⟩
      cases c with
      | true =>
        refine iteT ?_
        obtain ⟨nvs, hna, hnp⟩ := hnow
        have ln := hnp.length
        refine ⟨_, rfl, _, rfl, na, rfl, ⟨_, SqL.of hna⟩, fun D hD => lc_it (walk_list (xs := nvs)) (fun i H' => Same H3 H' ∧ SpsAt H' [D] D (((wovI bd p t).1.take i).map fun _ => (1, 0)))
          ⟨same_new (Same.refl _) hD, [], upd_same, .nil⟩ (fun i H' _ h => SqL.of (h.1 _ _ hna)) ?_ ?_⟩
        · rintro i x H5 H5' hi ⟨s5, hg⟩ ⟨rfl, hx⟩
          obtain ⟨sp, hsp, _⟩ := paired_at hnp hx
          refine ⟨rfl, yes_go ?_⟩
          refine ⟨by show 2 ≤ sizeLine; decide, fun t1 ht1 => ?_⟩
          obtain ⟨vs', k1, k2, k3, k4⟩ := SpsAt.push (s := (1, 0)) (x := .int 1) (y := .int 0) rfl rfl hg s5 hD ht1
          have hi' : i < (wovI bd p t).1.length := (List.getElem?_eq_some_iff.mp hsp).1
          rw [List.length_map] at k2
          have := List.length_take_le' i (wovI bd p t).1
          rw [take_snoc hsp, List.map_append]
          exact ⟨vs', k1, size_lt (by omega), k3, k4⟩
        · rintro H5 ⟨s5, gvs, hgv, hgp⟩
          rw [ln, List.take_length] at hgp
          refine ⟨by show 2 ≤ sizeLine; decide, fun l hl => ?_⟩
          have s6 := same_new (o := .lst [.bl (wovI bd p t).2, .ref D]) (Same.refl H5) hl
          exact q l D _ ((s3.trans s5).trans s6) upd_same ⟨gvs, s6 _ _ hgv, L2.Paired.mapP hgp fun _ _ h => (h.mono s6).nil⟩
      | false =>
        refine iteF ?_
        refine ⟨_, rfl, _, rfl, by show 2 ≤ sizeLine; decide, fun l hl => ?_⟩
        have s6 := same_new (o := .lst [.bl (wovI bd p t).2, .ref na]) (Same.refl H3) hl
        exact q l na _ (s3.trans s6) upd_same (hnow.mono s6)
end
end My
namespace My
open PySem L2
/-! ### _law_grown, _law_led -/
theorem ticks_pos {bs : List Bd} (h : BdsOk bs) (c : Int) : 1 ≤ ticksF bs c := by
  unfold ticksF
  split
  · exact Nat.le_refl _
  · cases e : bs[c.toNat]? with
    | none => exact Nat.le_refl _
    | some b => exact (h.ok b (List.mem_of_getElem? e)).w1
theorem able_hand {pl : Pl} {k : Nat} {p : Nat × Nat} (h : (k : Int) ∈ ableI pl) (e : pl[k]? = some p) : p.1 = 0 := by
  rcases List.mem_cons.mp h with h | h
  · omega
  · obtain ⟨k', hk', e'⟩ := List.mem_map.mp h
    have : k' = k := Int.ofNat.inj e'
    subst this
    have h2 := (List.mem_filter.mp hk').2
    unfold isHand at h2
    rw [e] at h2
    simpa using h2
section
variable {P : Program} {w : World} {K : PySem.W.Frag} {mg : Str → Option Value} {base : Heap}
abbrev s_law_grown : Stmt := top 73
abbrev N_law_grown : List Str := ["rows", "spots", "grown", "row", "spot"]
theorem sc_law_grown : FnScope N_law_grown ["rows", "spots"] (C8.fnScope s_law_grown) := C8.fnScope_by (by decide +kernel)
def sp_law_grown (K : PySem.W.Frag) : Sp := fun vs H Q _ => ∃ (ra sa : Addr) (rows : List Pl) (spots : List S2), vs = [.ref ra, .ref sa] ∧ RowsPl K H ra rows ∧ SpsAt H [] sa spots ∧ rows.length ≤ 100 ∧ spots.length ≤ 100 ∧ (∀ r ∈ rows, List.length r ≤ 100) ∧
  ∀ l H', Same H H' → RowsPl K H' l (rowsNext rows spots) → Q (.ref l) H'
theorem ok_law_grown {f : Addr} {fd : FuncData} (F : C8.Def K mg "_law_grown" s_law_grown f fd) (b : Binds K fd ["rows", "spots"] []) (T : Gb mg) : C8.Cal P w K mg base 1 "_law_grown" (sp_law_grown K) [] := by
  refine C8.cal0 F b .nil sc_law_grown (fun vs H Q E h => ?_) (fun cdv A outer s H vs Q E hr h => ?_)
  · obtain ⟨ra, sa, rows, spots, rfl, _⟩ := h
    rfl
  · obtain ⟨ra, sa, rows, spots, rfl, ⟨rvs, hra, hrp⟩, ⟨svs, hsa, hsp⟩, hl1, hl2, hl3, q⟩ := h
    refine ⟨_, (pss_cons (ps_set (i := 2) sc_law_grown.nd rfl (Or.inl rfl) (pe_lst pa_nil))
(pss_cons (ps_for PassesOwn.never rfl (pi_listK K rfl (pv 0)) (pg_name (i := 3) sc_law_grown.nd rfl (Or.inl rfl))
(pss_one (ps_for PassesOwn.never rfl (pi_listK K rfl (pv 1)) (pg_name (i := 4) sc_law_grown.nd rfl (Or.inl rfl))
(pss_one (ps_expr (pe_bm PySem.F.plainAttrs_list PySem.F.slot_list_append PySem.F.type_list_append mt_append (pv 2) (pa_cons (pe_op (op_catAK (K := K) rfl) (pv 3) (pe_tup (pa_cons (pe_tup (pa_cons (pe_ix (ix_listK K rfl) (pv 4) pe_int (fun _ _ => rfl)) (pa_cons (pe_ix (ix_listK K rfl) (pv 4) pe_int (fun _ _ => rfl)) pa_nil))) pa_nil))) pa_nil)))))))
(pss_one (ps_ret (pv 2))))), ?_⟩
    refine ⟨by show 0 ≤ sizeLine; decide, fun D hD => ?_⟩
    have lr := hrp.length
    have ls := hsp.length
    have C0 : CL K H D (upd H D (.lst [])) [] := ⟨same_new (Same.refl _) hD, [], upd_same, .nil⟩
    refine ⟨_, rfl, ra, rfl, ⟨_, SqL.of (C0.same _ _ hra)⟩, for_it (walk_list (xs := rvs)) (fun i σ H' => CL K H D H' (rowsNext (rows.take i) spots) ∧ ∃ v3 v4, σ = [some (.ref ra), some (.ref sa), some (.ref D), v3, v4])
      ⟨C0, _, _, rfl⟩ (fun i σ H' _ h => SqL.of (h.1.same _ _ hra)) ?_ ?_⟩
    · rintro i x σ H1 H1' hi ⟨C1, v3, v4, rfl⟩ ⟨rfl, hx⟩
      obtain ⟨row, hrow, hrowv⟩ := paired_at hrp hx
      refine ⟨_, rfl, sa, rfl, ⟨_, SqL.of (C1.same _ _ hsa)⟩, for_it (walk_list (xs := svs)) (fun j σ H' => CL K H D H' (rowsNext (rows.take i) spots ++ (spots.take j).map fun p => row ++ [p]) ∧ ∃ v4, σ = [some (.ref ra), some (.ref sa), some (.ref D), some x, v4])
        ⟨by rw [List.take_zero, List.map_nil, List.append_nil]; exact C1, _, rfl⟩ (fun j σ H' _ h => SqL.of (h.1.same _ _ hsa)) ?_ ?_⟩
      · rintro j y σ H2 H2' hj ⟨C2, v4', rfl⟩ ⟨rfl, hy⟩
        obtain ⟨sp, hsp2, ⟨pa, rfl, hpa, _⟩⟩ := paired_at hsp hy
        have hpa2 := C2.same _ _ hpa
        obtain ⟨xa, rxs, rfl, hxa, hxp⟩ := hrowv.mono C2.same
        have lrow := hl3 row (List.mem_of_getElem? hrow)
        have lrx := hxp.length
        obtain ⟨acc, ha, hap⟩ := C2.at_
        have hout : (rowsNext (rows.take i) spots ++ (spots.take j).map fun p => row ++ [p]).length < 100000 := by
          rw [List.length_append, rowsNext_len, List.length_map]
          have h1 := List.length_take_le' i rows
          have h2 := List.length_take_le' j spots
          have h3 : (rows.take i).length * spots.length ≤ 100 * 100 := Nat.mul_le_mul (by omega) hl2
          omega
        have eo : rowsNext (rows.take i) spots ++ (spots.take (j + 1)).map (fun p => row ++ [p]) = rowsNext (rows.take i) spots ++ (spots.take j).map (fun p => row ++ [p]) ++ [row ++ [sp]] := by
          rw [take_snoc hsp2, List.map_append, List.append_assoc]
          rfl
        rw [eo]
        refine ⟨_, rfl, .inl ⟨rfl, _, SqL.of ha⟩, ?_⟩
        refine ⟨_, rfl, _, rfl, pa, _, 0, _, rfl, rfl, SqL.of hpa2, rfl, _, rfl, pa, _, 1, _, rfl, rfl, SqL.of hpa2, rfl, by show 2 ≤ sizeLine; decide, fun t1 ht1 => ⟨by show 1 ≤ sizeLine; decide, fun t2 ht2 => ?_⟩⟩
        have s1 := same_new (o := .tup [nV sp.1, nV sp.2]) (Same.refl H2') ht1
        have ht11 : upd H2' t1 (.tup [nV sp.1, nV sp.2]) t1 = some (.tup [nV sp.1, nV sp.2]) := upd_same
        have s2 := s1.trans (same_new (o := .tup [.ref t1]) (Same.refl _) ht2)
        have ht12 := same_new (o := .tup [.ref t1]) (Same.refl _) ht2 _ _ ht11
        have ht22 : upd (upd H2' t1 (.tup [nV sp.1, nV sp.2])) t2 (.tup [.ref t1]) t2 = some (.tup [.ref t1]) := upd_same
        generalize upd (upd H2' t1 (.tup [nV sp.1, nV sp.2])) t2 (.tup [.ref t1]) = H3 at s2 ht12 ht22 ⊢
        have hsv : PairV K H3 (.ref t1) sp := ⟨t1, rfl, SqT.of ht12⟩
        have hx3 : Paired (PairV K H3) rxs row := L2.Paired.mapP hxp fun _ _ => PairV.mono s2
        refine ⟨xa, t2, rxs, [.ref t1], rfl, rfl, s2.tup hxa, SqT.of ht22, size_le (by show _ + 1 ≤ _; omega), fun e => ?_, fun _ e => (nomatch e), fun _ _ z hz => ?_⟩
        · subst e
          cases row with
          | cons _ _ => cases hx3
          | nil =>
            obtain ⟨acc', k1, k2, k3⟩ := C2.push hD s2 (y := .ref t2) (p := [] ++ [sp]) (PlV.app (xs := []) hx3 hsv (SqT.of ht22)) hout
            exact ⟨D, acc', _, rfl, rfl, k1, k2, k3, _, rfl⟩
        · have sz := s2.trans (same_new (o := .tup (rxs ++ [.ref t1])) (Same.refl _) hz)
          have sz1 := same_new (o := .tup (rxs ++ [.ref t1])) (Same.refl _) hz
          obtain ⟨acc', k1, k2, k3⟩ := C2.push hD sz (y := .ref z) (p := row ++ [sp]) (PlV.app (L2.Paired.mapP hx3 fun _ _ => PairV.mono sz1) (hsv.mono sz1) (SqT.of upd_same)) hout
          exact ⟨D, acc', _, rfl, rfl, k1, k2, k3, _, rfl⟩
      · rintro σ H2 ⟨C2, v4', rfl⟩
        rw [ls, List.take_length, ← rowsNext_snoc hrow] at C2
        exact ⟨C2, _, _, rfl⟩
    · rintro σ H1 ⟨C1, v3, v4, rfl⟩
      rw [lr, List.take_length] at C1
      obtain ⟨acc, ha, hap⟩ := C1.at_
      exact ⟨_, rfl, q D H1 C1.same ⟨acc, ha, hap⟩⟩
abbrev s_law_led : Stmt := top 74
abbrev N_law_led : List Str := ["boards", "place", "choice", "ticks", "risky", "rows", "k", "woven"]
theorem sc_law_led : FnScope N_law_led ["boards", "place", "choice"] (C8.fnScope s_law_led) := C8.fnScope_by (by decide +kernel)
def LedAt (K : PySem.W.Frag) (H : Hp) (l : Addr) (bs : List Bd) (pl : Pl) (c : Int) : Prop := ∃ sl, H l = some (.lst [.int c, .bl (ledF bs pl c).1, .ref sl]) ∧ RowsPl K H sl (ledF bs pl c).2
def sp_law_led (K : PySem.W.Frag) : Sp := fun vs H Q _ => ∃ (ba : Addr) (v : V) (bs : List Bd) (pl : Pl) (c : Int), vs = [.ref ba, v, .int c] ∧ BdsAt K H ba bs ∧ PlV K H v pl ∧ BdsOk bs ∧ okPl bs pl ∧ c ∈ ableI pl ∧
  ∀ l H', Same H H' → LedAt K H' l bs pl c → Q (.ref l) H'
theorem ok_law_led {f : Addr} {fd : FuncData} (F : C8.Def K mg "_law_led" s_law_led f fd) (b : Binds K fd ["boards", "place", "choice"] []) (T : Gb mg) (c__law_woven : C8.Cal P w K mg base 1 "_law_woven" (sp_law_woven K) []) (c__law_grown : C8.Cal P w K mg base 1 "_law_grown" (sp_law_grown K) []) : C8.Cal P w K mg base 2 "_law_led" (sp_law_led K) [] := by
  refine C8.cal0 F b .nil sc_law_led (fun vs H Q E h => ?_) (fun cdv A outer s H vs Q E hr h => ?_)
  · obtain ⟨ba, v, bs, pl, c, rfl, _⟩ := h
    rfl
  · obtain ⟨ba, v, bs, pl, c, rfl, hB, hP, hok, hokp, hc, q⟩ := h
    obtain ⟨xs, hxs, hxp⟩ := hB.ex
    obtain ⟨sa, ys, rfl, hys, hyp⟩ := id hP
    have hl := okPl_len hokp
    have l1 := hxp.length
    have l2 := hyp.length
    have n1 := hok.n1
    have n2 := hok.n2
    have ht6 := ticks_le hok c
    have ht1 := ticks_pos hok c
    refine ⟨_, (C8.pss_cut (ps_set (i := 3) sc_law_led.nd rfl (Or.inl rfl) (pe_ifExp (pt_cmpR op_lt (pv 2) pe_int (nomark _)) pe_int (pe_ix (ix_tupK K rfl) (pe_ix (ix_listK K rfl) (pv 0) (pv 2) (fun _ _ => rfl)) pe_int (fun _ _ => rfl))))
(pss_cons (ps_set (i := 4) sc_law_led.nd rfl (Or.inl rfl) pe_bl)
(pss_cons (ps_set (i := 5) sc_law_led.nd rfl (Or.inl rfl) (pe_lst (pa_cons (pe_tup pa_nil) pa_nil)))
(pss_cons (ps_for PassesOwn.never rfl (pi_range1 (by rfl) T.range (pa_cons (pe_callB (call_lenK K rfl) (by rfl) T.len PySem.boot_len (pa_cons (pv 0) pa_nil)) pa_nil)) (pg_name (i := 6) sc_law_led.nd rfl (Or.inl rfl))
(pss_cons (ps_set (i := 7) sc_law_led.nd rfl (Or.inl rfl) (C8.pe_c c__law_woven hr (by decide) (by rfl) (pa_cons (pe_ix (ix_listK K rfl) (pv 0) (pv 6) (fun _ _ => rfl)) (pa_cons (pe_ix (ix_tupK K rfl) (pv 1) (pv 6) (fun _ _ => rfl)) (pa_cons (pe_cmpR op_eq (pv 6) (pv 2) (nomark _)) (pa_cons (pv 3) pa_nil))))))
(pss_cons (ps_set (i := 4) sc_law_led.nd rfl (Or.inl rfl) (pe_or (pv 4) (pe_one (pe_ix (ix_listK K rfl) (pv 7) pe_int (fun _ _ => rfl)))))
(pss_one (ps_set (i := 5) sc_law_led.nd rfl (Or.inl rfl) (C8.pe_c c__law_grown hr (by decide) (by rfl) (pa_cons (pv 5) (pa_cons (pe_ix (ix_listK K rfl) (pv 7) pe_int (fun _ _ => rfl)) pa_nil))))))))
(pss_one (ps_ret (pe_lst (pa_cons (pv 2) (pa_cons (pv 4) (pa_cons (pe_callB (cr_sortedNK (K := K) rfl (Nat.lt_of_le_of_lt (Nat.add_le_add_left (by decide) _) hr.un)) (by rfl) T.sorted (by decide +kernel) (pa_cons (pv 5) pa_nil)) pa_nil)))))))))), ?_⟩
    refine ⟨fun σ H' => H' = H ∧ σ = [some (.ref ba), some (.ref sa), some (.int c), some (nV (ticksF bs c)), none, none, none, none], ?_, ?_⟩
    · refine ⟨_, rfl, _, _, rfl, rfl, _, rfl, ?_⟩
      rcases able_ok hc with rfl | ⟨k, hk, rfl⟩
      · refine ifT (by decide) ?_
        exact ⟨rfl, rfl⟩
      · obtain ⟨bd, hbd⟩ := at_ex (l := bs) (i := k) (by omega)
        obtain ⟨xv, hxv⟩ := at_ex (l := xs) (i := k) (by omega)
        obtain ⟨bd', hbd', z, rfl, hz⟩ := paired_at hxp hxv
        rw [hbd] at hbd'
        cases hbd'
        refine ifF (by omega) ?_
        refine ⟨_, rfl, _, rfl, ba, _, _, _, rfl, rfl, hxs, atI_nat hxv, z, _, 0, nV bd.work, rfl, rfl, hz, rfl, ?_⟩
        have et : ticksF bs (k : Int) = bd.work := by
          unfold ticksF
          rw [if_neg (by omega), show ((k : Int)).toNat = k by omega, hbd]
          rfl
        rw [et]
        exact ⟨rfl, rfl⟩
    rintro σ1 H1 ⟨rfl, rfl⟩
    refine ⟨by show 0 ≤ sizeLine; decide, fun e0 he0 => ⟨by show 1 ≤ sizeLine; decide, fun D hD => ?_⟩⟩
    have sm0 := same_new (o := .lst [.ref e0]) (same_new (o := .tup []) (Same.refl H1) he0) hD
    refine ⟨_, rfl, ba, _, rfl, .inl (sm0.seq hxs), (xs.length : Int), rfl, by omega, by omega, for_it (walk_range (lo := 0) (n := (xs.length : Int).toNat)) (fun i σ H' => Same H1 H' ∧ ∃ D v6 v7, RowsPl K H' D (ledI bs pl c (ticksF bs c) i).2 ∧ σ = [some (.ref ba), some (.ref sa), some (.int c), some (nV (ticksF bs c)), some (.bl (ledI bs pl c (ticksF bs c) i).1), some (.ref D), v6, v7])
      ⟨sm0, D, _, _, ⟨[.ref e0], upd_same, .cons ⟨e0, _, rfl, SqT.of ((upd_ne (ne_of_none' upd_same hD)).trans upd_same), .nil⟩ .nil⟩, rfl⟩ (fun _ _ _ _ _ => trivial) ?_ ?_⟩
    · rintro i x σ H2 H2' hi ⟨sm1, D2, v6, v7, hrows, rfl⟩ ⟨rfl, rfl⟩
      have hi : i < bs.length := by omega
      obtain ⟨bd, hbd⟩ := at_ex (l := bs) (i := i) hi
      obtain ⟨bv, hbv, hbdv⟩ := paired_at2 hxp hbd
      obtain ⟨pr, hpr⟩ := at_ex (l := pl) (i := i) (by omega)
      obtain ⟨yv, hyv, hpv⟩ := paired_at2 hyp hpr
      have ei : (0 : Int) + (i : Int) = (i : Int) := Int.zero_add _
      have hpo := okPl_at hokp hbd hpr
      have ewp : wovF bd pr (decide ((i : Int) = c)) (ticksF bs c) = passedF bd pr (decide ((i : Int) = c)) (ticksF bs c) := wov_passed hpo ht1 fun h => able_hand (by rw [of_decide_eq_true h]; exact hc) hpr
      have eS := ledI_succ (bs := bs) (pl := pl) (c := c) (t := ticksF bs c) hbd hpr
      have hR : (ledI bs pl c (ticksF bs c) i).2.length ≤ 7 := by
        refine Nat.le_trans (ledI_len hl (by omega)) ?_
        rcases (show i = 0 ∨ i = 1 by omega) with rfl | rfl
        · rw [Nat.pow_zero]; decide
        · rw [Nat.pow_one]; omega
      have hRl : ∀ r ∈ (ledI bs pl c (ticksF bs c) i).2, List.length r = i := ledI_row hl (by omega)
      have hPs := passedF_len bd pr (decide ((i : Int) = c)) (ticksF bs c)
      refine ⟨_, rfl, _, rfl, ba, _, _, _, rfl, rfl, sm1.seq hxs, (by rw [ei]; exact atI_nat hbv), _, rfl, _, rfl, sa, ys, _, yv, rfl, rfl, sm1.tup hys, (by rw [ei]; exact atI_nat hyv), _, rfl, _, rfl, rfl, _, rfl, ?_⟩
      refine ⟨bv, yv, bd, pr, decide ((i : Int) = c), ticksF bs c, congrArg (fun b => ([bv, yv, V.bl b, nV (ticksF bs c)] : List V)) (by rw [dec_int]; exact decide_eq_decide.mpr (by rw [ei])), hbdv.mono sm1, hpv.mono sm1, ht6, fun l sl H3 sm3 hl3 hsp3 => ?_⟩
      rw [ewp] at hl3 hsp3
      generalize ledI bs pl c (ticksF bs c) i = LI at hR hRl hrows eS ⊢
      generalize passedF bd pr (decide ((i : Int) = c)) (ticksF bs c) = PF at hPs hl3 hsp3 eS ⊢
      refine ⟨_, rfl, LI.1, rfl, ?_⟩
      have rest : ∀ bb, bb = (LI.1 || PF.1) → (tAsg (tCall (sp_law_grown K) [] C8.E0 (tCons (tVar 5) (tCons (tOp (rIxL K) (tVar 7) (tC (.int 1))) tNil))) (gName 5)) { nx := fun σ H' => Same H1 H' ∧ ∃ D v6 v7, RowsPl K H' D (ledI bs pl c (ticksF bs c) (i + 1)).2 ∧ σ = [some (.ref ba), some (.ref sa), some (.int c), some (nV (ticksF bs c)), some (.bl (ledI bs pl c (ticksF bs c) (i + 1)).1), some (.ref D), v6, v7], rt := fun _ _ => True } [some (.ref ba), some (.ref sa), some (.int c), some (nV (ticksF bs c)), some (.bl bb), some (.ref D2), some (.int (0 + (i : Int))), some (.ref l)] H3 := by
        intro bb eb
        refine ⟨_, rfl, _, rfl, l, _, 1, _, rfl, rfl, SqL.of hl3, rfl, D2, sl, LI.2, PF.2, rfl, hrows.mono sm3, hsp3, by omega, by omega, fun r hr => by rw [hRl r hr]; omega, fun l4 H4 sm4 hr4 => ?_⟩
        rw [eS]
        exact ⟨(sm1.trans sm3).trans sm4, l4, _, _, hr4, by rw [eb]; rfl⟩
      cases hLI : LI.1 with
      | true =>
        refine iteT ?_
        obtain ⟨r1, r2⟩ := rest true (by rw [hLI]; rfl)
        exact ⟨r1, r2⟩
      | false =>
        refine iteF ?_
        refine ⟨_, rfl, l, _, 0, _, rfl, rfl, SqL.of hl3, rfl, ?_⟩
        obtain ⟨r1, r2⟩ := rest PF.1 (by rw [hLI]; rfl)
        exact ⟨r1, r2⟩
    · rintro σ H2 ⟨sm1, D2, v6, v7, ⟨rvs, hrv, hrp⟩, rfl⟩
      have et : (xs.length : Int).toNat = bs.length := by omega
      rw [et] at hrp ⊢
      obtain ⟨zb, z1, z2, z3, z4, hp3⟩ := sort_pls' (SqL.of hrv) hrp (fun p hp z => by have := ledI_row hl (Nat.le_refl _) p hp; subst z; rw [List.length_nil] at this; omega)
      refine ⟨_, rfl, _, rfl, _, rfl, D2, zb, rfl, z1, z2, z3, z4, fun l3 hl3 => ?_⟩
      generalize (zb.mergeSort leN).map (·.1) = ws2 at hp3 ⊢
      have s3 := same_new (o := .lst ws2) (Same.refl H2) hl3
      have hl33 : upd H2 l3 (.lst ws2) l3 = some (.lst ws2) := upd_same
      refine ⟨by show 3 ≤ sizeLine; decide, fun l4 hl4 => ?_⟩
      have s4 := s3.trans (same_new (o := .lst [.int c, .bl (ledI bs pl c (ticksF bs c) bs.length).1, .ref l3]) (Same.refl _) hl4)
      have hl34 := same_new (o := .lst [.int c, .bl (ledI bs pl c (ticksF bs c) bs.length).1, .ref l3]) (Same.refl _) hl4 _ _ hl33
      exact q l4 _ (sm1.trans s4) ⟨l3, upd_same, ws2, hl34, L2.Paired.mapP hp3 fun _ _ => PlV.mono s4⟩
end
end My
namespace My
open PySem L2
/-! ### _law_boards, _law_start, _law_able -/
structure BdsLaw (bs : List Bd) : Prop where
  ok : BdsOk bs
  lim : ∀ b ∈ bs, b.limit ≤ 9
  few : (allPl bs).length ≤ 190
def Sized (b : Bd) (s0 s1 s2 : Nat) : Prop := b.work = s0 ∧ b.limit = s1 ∧ b.late = s2
structure SzOk (cnt s0 s1 s2 : Nat) : Prop where
  a1 : 1 ≤ s0
  a2 : s0 ≤ 6
  b1 : 1 ≤ s1
  b2 : s1 ≤ 9
  c1 : 1 ≤ s2
  c2 : s2 ≤ 8
  two : cnt = 2 → s1 ≤ 5 ∧ s2 ≤ 2
structure BdLaw (cnt : Nat) (b : Bd) : Prop where
  ok : b.Ok
  l9 : b.limit ≤ 9
  two : cnt = 2 → b.limit ≤ 5 ∧ b.late ≤ 2
theorem allP_len' (b : Bd) : (allP b).length = b.limit + 1 + b.late := by unfold allP; rw [List.length_append, List.length_map, List.length_map, List.length_range, List.length_range]
theorem bdsLaw_of {cnt : Nat} {bs : List Bd} (h : ∀ b ∈ bs, BdLaw cnt b) (hl : bs.length = cnt) (hc : cnt = 1 ∨ cnt = 2) : BdsLaw bs := by
  refine ⟨⟨by omega, by omega, fun b hb => (h b hb).ok⟩, fun b hb => (h b hb).l9, ?_⟩
  rcases hc with rfl | rfl
  · match bs, hl with
    | [b], _ =>
      have h1 := h b List.mem_cons_self
      have h2 := flat_len (f := fun p => (allPl []).map fun r => p :: r) (n := 1) (l := allP b) fun p _ => by rw [List.length_map]; exact Nat.le_refl _
      have h3 := allP_len' b
      have h4 := h1.l9
      have h5 := h1.ok.a2
      show ((allP b).flatMap fun p => (allPl []).map fun r => p :: r).length ≤ 190
      omega
  · match bs, hl with
    | [b, c], _ =>
      have h1 := (h b List.mem_cons_self).two rfl
      have h2 := (h c (List.mem_cons_of_mem _ List.mem_cons_self)).two rfl
      have h3 := flat_len (f := fun p => (allPl []).map fun r => p :: r) (n := 1) (l := allP c) fun p _ => by rw [List.length_map]; exact Nat.le_refl _
      have h4 := allP_len' b
      have h5 := allP_len' c
      have h6 := flat_len (f := fun p => (allPl [c]).map fun r => p :: r) (n := 8) (l := allP b) fun p _ => by
        rw [List.length_map]
        show ((allP c).flatMap fun p => (allPl []).map fun r => p :: r).length ≤ 8
        omega
      show ((allP b).flatMap fun p => (allPl [c]).map fun r => p :: r).length ≤ 190
      omega
theorem tyX_tup {K : PySem.W.Frag} {H : Hp} {a : Addr} {xs : List V} (h : SqT K H a xs) : TyX K H (.ref a) (.type "tuple") := by
  rcases h with (h | ⟨o, h⟩) | ⟨o, its, n, h, c, _⟩
  · exact .base (.tup h)
  · exact .fTuple h
  · exact .kTuple h c
section
variable {P : Program} {w : World} {K : PySem.W.Frag} {mg : Str → Option Value} {base : Heap}
abbrev s_law_boards : Stmt := top 75
abbrev N_law_boards : List Str := ["script", "n", "boards", "k", "m", "sizes"]
theorem sc_law_boards : FnScope N_law_boards ["script", "n"] (C8.fnScope s_law_boards) := C8.fnScope_by (by decide +kernel)
def sp_law_boards (K : PySem.W.Frag) : Sp := fun vs H Q _ => ∃ (sa na : Addr) (ns : List Int) (n : List Nat), vs = [.ref sa, .ref na] ∧ SqL K H sa (ns.map V.int) ∧ H na = some (.lst (n.map nV)) ∧ n.length = 3 ∧
  ∀ l bs H', Same H H' → BdsAt K H' l bs → BdsLaw bs → Q (.ref l) H'
theorem ok_law_boards {f : Addr} {fd : FuncData} (F : C8.Def K mg "_law_boards" s_law_boards f fd) (b : Binds K fd ["script", "n"] []) (T : Gb mg) (c__law_cell : C8.Cal P w K mg base 1 "_law_cell" (sp_law_cell K) []) (c__law_numbers : C8.Cal P w K mg base 1 "_law_numbers" sp_law_numbers []) : C8.Cal P w K mg base 2 "_law_boards" (sp_law_boards K) [] := by
  refine C8.cal0 F b .nil sc_law_boards (fun vs H Q E h => ?_) (fun cdv A outer s H vs Q E hr h => ?_)
  · obtain ⟨sa, na, ns, n, rfl, _⟩ := h
    rfl
  · obtain ⟨sa, na, ns, n, rfl, hsa, hna, hn, q⟩ := h
    refine ⟨_, (pss_cons (ps_set (i := 2) sc_law_boards.nd rfl (Or.inl rfl) (pe_lst pa_nil))
(pss_cons (ps_for PassesOwn.never rfl (pi_range1 (by rfl) T.range (pa_cons (pe_ix (ix_listK K rfl) (pe_lst (pa_cons pe_int (pa_cons pe_int (pa_cons pe_int (pa_cons pe_int (pa_cons pe_int (pa_cons pe_int (pa_cons pe_int (pa_cons pe_int pa_nil))))))))) (pe_op op_mod (pe_callTy call_int1 (by rfl) T.int (by decide +kernel) (pa_cons (pe_ix (ix_listK K rfl) (pv 1) pe_int (fun _ _ => rfl)) pa_nil)) pe_int) (fun _ _ => rfl)) pa_nil)) (pg_name (i := 3) sc_law_boards.nd rfl (Or.inl rfl))
(pss_cons (ps_set (i := 4) sc_law_boards.nd rfl (Or.inl rfl) (C8.pe_c c__law_numbers hr (by decide) (by rfl) (pa_cons (C8.pe_c c__law_cell hr (by decide) (by rfl) (pa_cons (pv 0) (pa_cons (pe_op op_add pe_int (pv 3)) pa_nil))) (pa_cons (pe_op op_add pe_int (pv 3)) (pa_cons pe_int (pa_cons pe_int pa_nil))))))
(pss_cons (ps_set (i := 5) sc_law_boards.nd rfl (Or.inl rfl) (pe_lst (pa_cons (pe_op op_add pe_int (pe_op op_mod (pe_callTy call_int1 (by rfl) T.int (by decide +kernel) (pa_cons (pe_ix (ix_listK K rfl) (pv 4) pe_int (fun _ _ => rfl)) pa_nil)) pe_int)) (pa_cons (pe_op op_add pe_int (pe_op op_mod (pe_callTy call_int1 (by rfl) T.int (by decide +kernel) (pa_cons (pe_ix (ix_listK K rfl) (pv 4) pe_int (fun _ _ => rfl)) pa_nil)) pe_int)) (pa_cons (pe_op op_add pe_int (pe_op op_mod (pe_callTy call_int1 (by rfl) T.int (by decide +kernel) (pa_cons (pe_ix (ix_listK K rfl) (pv 4) pe_int (fun _ _ => rfl)) pa_nil)) pe_int)) pa_nil)))))
(C8.pss_cut (ps_if (pt_cmpR (op_inK K rfl) (pe_op op_mod (pe_callTy call_int1 (by rfl) T.int (by decide +kernel) (pa_cons (pe_ix (ix_listK K rfl) (pv 1) pe_int (fun _ _ => rfl)) pa_nil)) pe_int) (pe_lst (pa_cons pe_int (pa_cons pe_int pa_nil))) rfl)
(pss_one (ps_set (i := 5) sc_law_boards.nd rfl (Or.inl rfl) (pe_lst (pa_cons (pe_op op_add pe_int (pe_op op_mod (pe_callTy call_int1 (by rfl) T.int (by decide +kernel) (pa_cons (pe_ix (ix_listK K rfl) (pv 4) pe_int (fun _ _ => rfl)) pa_nil)) pe_int)) (pa_cons (pe_op op_add pe_int (pe_op op_mod (pe_callTy call_int1 (by rfl) T.int (by decide +kernel) (pa_cons (pe_ix (ix_listK K rfl) (pv 4) pe_int (fun _ _ => rfl)) pa_nil)) pe_int)) (pa_cons (pe_op op_add pe_int (pe_op op_mod (pe_callTy call_int1 (by rfl) T.int (by decide +kernel) (pa_cons (pe_ix (ix_listK K rfl) (pv 4) pe_int (fun _ _ => rfl)) pa_nil)) pe_int)) pa_nil))))))
pss_nil)
(pss_one (ps_expr (pe_bm PySem.F.plainAttrs_list PySem.F.slot_list_append PySem.F.type_list_append mt_append (pv 2) (pa_cons (pe_tup (pa_cons (pe_ix (ix_listK K rfl) (pv 5) pe_int (fun _ _ => rfl)) (pa_cons (pe_ix (ix_listK K rfl) (pv 5) pe_int (fun _ _ => rfl)) (pa_cons (pe_op op_add pe_int (pe_op op_mod (pe_callTy call_int1 (by rfl) T.int (by decide +kernel) (pa_cons (pe_ix (ix_listK K rfl) (pv 4) pe_int (fun _ _ => rfl)) pa_nil)) (pe_ix (ix_listK K rfl) (pv 5) pe_int (fun _ _ => rfl)))) (pa_cons (pe_ix (ix_listK K rfl) (pv 5) pe_int (fun _ _ => rfl)) pa_nil))))) pa_nil))))))))
(pss_one (ps_ret (pv 2))))), ?_⟩
    obtain ⟨n0, hn0⟩ := at_ex (l := n) (i := 0) (by omega)
    have hcnt : ∃ cnt : Nat, ([V.int 2, V.int 2, V.int 2, V.int 1, V.int 2, V.int 2, V.int 1, V.int 2])[n0 % 8]? = some (nV cnt) ∧ ((cnt = 1 ∧ (n0 % 8 = 3 ∨ n0 % 8 = 6)) ∨ (cnt = 2 ∧ n0 % 8 ≠ 3 ∧ n0 % 8 ≠ 6)) := by
      have h8 : n0 % 8 < 8 := Nat.mod_lt _ (by decide)
      generalize n0 % 8 = v at h8 ⊢
      rcases (show v = 0 ∨ v = 1 ∨ v = 2 ∨ v = 3 ∨ v = 4 ∨ v = 5 ∨ v = 6 ∨ v = 7 by omega) with rfl | rfl | rfl | rfl | rfl | rfl | rfl | rfl
      · exact ⟨2, rfl, .inr ⟨rfl, by decide, by decide⟩⟩
      · exact ⟨2, rfl, .inr ⟨rfl, by decide, by decide⟩⟩
      · exact ⟨2, rfl, .inr ⟨rfl, by decide, by decide⟩⟩
      · exact ⟨1, rfl, .inl ⟨rfl, .inl rfl⟩⟩
      · exact ⟨2, rfl, .inr ⟨rfl, by decide, by decide⟩⟩
      · exact ⟨2, rfl, .inr ⟨rfl, by decide, by decide⟩⟩
      · exact ⟨1, rfl, .inl ⟨rfl, .inr rfl⟩⟩
      · exact ⟨2, rfl, .inr ⟨rfl, by decide, by decide⟩⟩
    obtain ⟨cnt, hcnt, hcv⟩ := hcnt
    have hc2 : cnt ≤ 2 := by omega
    refine ⟨by show 0 ≤ sizeLine; decide, fun D hD => ?_⟩
    have s1 := same_new (o := .lst []) (Same.refl H) hD
    have hD1 : upd H D (.lst []) D = some (.lst []) := upd_same
    generalize upd H D (.lst []) = H1 at s1 hD1 ⊢
    refine ⟨by show 8 ≤ sizeLine; decide, fun t0 ht0 => ?_⟩
    have s2 := same_new (o := .lst [.int 2, .int 2, .int 2, .int 1, .int 2, .int 2, .int 1, .int 2]) (Same.refl H1) ht0
    have ht02 : upd H1 t0 (.lst [.int 2, .int 2, .int 2, .int 1, .int 2, .int 2, .int 1, .int 2]) t0 = some (.lst [.int 2, .int 2, .int 2, .int 1, .int 2, .int 2, .int 1, .int 2]) := upd_same
    have hD2 := s2 _ _ hD1
    have s02 := s1.trans s2
    show (_ : Prop)
    refine ⟨_, rfl, na, _, 0, nV n0, rfl, rfl, SqL.of (s02 _ _ hna), atI_nat (j := 0) (nV_at hn0), .inl ⟨_, rfl, _, _, rfl, rfl, by show (0 : Int) < 8; decide, ?_⟩⟩
    refine ⟨t0, _, _, nV cnt, rfl, rfl, SqL.of ht02, atI_nat (j := n0 % 8) hcnt, ?_⟩
    generalize upd H1 t0 (.lst [.int 2, .int 2, .int 2, .int 1, .int 2, .int 2, .int 1, .int 2]) = H2 at s02 hD2 ⊢
    refine ⟨(cnt : Int), rfl, by omega, by omega, for_it (walk_range (lo := 0) (n := (cnt : Int).toNat)) (fun i σ H' => Same H H' ∧ ∃ bs vs v3 v4 v5, H' D = some (.lst vs) ∧ Paired (BdV K H') vs bs ∧ bs.length = i ∧ (∀ b ∈ bs, BdLaw cnt b) ∧ σ = [some (.ref sa), some (.ref na), some (.ref D), v3, v4, v5])
      ⟨s02, [], [], _, _, _, hD2, .nil, rfl, fun b hb => (nomatch hb), rfl⟩ (fun _ _ _ _ _ => trivial) ?_ ?_⟩
    · rintro i x σ H3 H3' hi ⟨s3, bs, vs, v3, v4, v5, hvs, hvp, hbl, hbo, rfl⟩ ⟨rfl, rfl⟩
      have ei : (1 : Int) + (0 + (i : Int)) = ((1 + i : Nat) : Int) := by omega
      have ei2 : (10 : Int) + (0 + (i : Int)) = ((10 + i : Nat) : Int) := by omega
      refine ⟨_, rfl, _, rfl, _, _, rfl, rfl, sa, ns, 1 + i, by rw [← ei]; rfl, s3.seq hsa, fun c => ?_⟩
      refine ⟨_, rfl, _, _, rfl, rfl, c, 10 + i, 4, 5040, by rw [← ei2]; rfl, by omega, by decide, by decide, by decide, fun ma m H4 s4 hma hm4 hml hmb => ?_⟩
      obtain ⟨m0, hm0⟩ := at_ex (l := m) (i := 0) (by omega)
      obtain ⟨m1, hm1⟩ := at_ex (l := m) (i := 1) (by omega)
      obtain ⟨m2, hm2⟩ := at_ex (l := m) (i := 2) (by omega)
      obtain ⟨m3, hm3⟩ := at_ex (l := m) (i := 3) (by omega)
      have s34 := s3.trans s4
      refine ⟨_, rfl, ma, _, 0, nV m0, rfl, rfl, SqL.of hm4, atI_nat (j := 0) (nV_at hm0), .inl ⟨_, rfl, _, _, rfl, rfl, by show (0 : Int) < 3; decide, _, _, rfl, rfl, _, rfl, ma, _, 1, nV m1, rfl, rfl, SqL.of hm4, atI_nat (j := 1) (nV_at hm1), .inl ⟨_, rfl, _, _, rfl, rfl, by show (0 : Int) < 5; decide, _, _, rfl, rfl, _, rfl, ma, _, 2, nV m2, rfl, rfl, SqL.of hm4, atI_nat (j := 2) (nV_at hm2), .inl ⟨_, rfl, _, _, rfl, rfl, by show (0 : Int) < 2; decide, _, _, rfl, rfl, by show 3 ≤ sizeLine; decide, fun z1 hz1 => ?_⟩⟩⟩⟩
      have s5 := same_new (o := .lst [nV (1 + m0 % 3), nV (1 + m1 % 5), nV (1 + m2 % 2)]) (Same.refl H4) hz1
      have hz5 : upd H4 z1 (.lst [nV (1 + m0 % 3), nV (1 + m1 % 5), nV (1 + m2 % 2)]) z1 = some (.lst [nV (1 + m0 % 3), nV (1 + m1 % 5), nV (1 + m2 % 2)]) := upd_same
      refine ⟨fun σ H' => Same H4 H' ∧ ∃ z s0 s1 s2, H' z = some (.lst [nV s0, nV s1, nV s2]) ∧ SzOk cnt s0 s1 s2 ∧ σ = [some (.ref sa), some (.ref na), some (.ref D), some (.int (0 + (i : Int))), some (.ref ma), some (.ref z)], ?_, ?_⟩
      · refine ⟨_, rfl, na, _, 0, nV n0, rfl, rfl, SqL.of (s5 _ _ (s34 _ _ hna)), atI_nat (j := 0) (nV_at hn0), .inl ⟨_, rfl, _, _, rfl, rfl, by show (0 : Int) < 8; decide, by show 2 ≤ sizeLine; decide, fun z2 hz2 => ?_⟩⟩
        have s6 := s5.trans (same_new (o := .lst [.int 3, .int 6]) (Same.refl _) hz2)
        have hz6 := same_new (o := .lst [.int 3, .int 6]) (Same.refl _) hz2 _ _ hz5
        refine ⟨z2, [.int 3, .int 6], rfl, .inl (SqL.of upd_same), rfl, rfl, _, rfl, ?_⟩
        have einv : inV (nV (n0 % 8)) [.int 3, .int 6] = decide (n0 % 8 = 3 ∨ n0 % 8 = 6) := by
          show ((3 : Int) == ((n0 % 8 : Nat) : Int) || (((6 : Int) == ((n0 % 8 : Nat) : Int)) || false)) = _
          generalize n0 % 8 = v
          refine Bool.eq_iff_iff.mpr ?_
          rw [Bool.or_false, Bool.or_eq_true, beq_iff_eq, beq_iff_eq, decide_eq_true_eq]
          omega
        refine (show ∀ (A B : Prop), (if decide (n0 % 8 = 3 ∨ n0 % 8 = 6) = true then A else B) → (if (inV (nV (n0 % 8)) [.int 3, .int 6]) = true then A else B) from fun A B h => by rw [einv]; exact h) _ _ ?_
        by_cases e36 : n0 % 8 = 3 ∨ n0 % 8 = 6
        · refine ifT e36 ?_
          have hm6 := s6 _ _ hm4
          have c1 : cnt = 1 := by omega
          show (_ : Prop)
          refine ⟨_, rfl, ma, _, 0, nV m0, rfl, rfl, SqL.of hm6, atI_nat (j := 0) (nV_at hm0), .inl ⟨_, rfl, _, _, rfl, rfl, by show (0 : Int) < 6; decide, _, _, rfl, rfl, _, rfl, ma, _, 1, nV m1, rfl, rfl, SqL.of hm6, atI_nat (j := 1) (nV_at hm1), .inl ⟨_, rfl, _, _, rfl, rfl, by show (0 : Int) < 9; decide, _, _, rfl, rfl, _, rfl, ma, _, 2, nV m2, rfl, rfl, SqL.of hm6, atI_nat (j := 2) (nV_at hm2), .inl ⟨_, rfl, _, _, rfl, rfl, by show (0 : Int) < 8; decide, _, _, rfl, rfl, by show 3 ≤ sizeLine; decide, fun z3 hz3 => ?_⟩⟩⟩⟩
          exact ⟨s6.trans (same_new (o := .lst [nV (1 + m0 % 6), nV (1 + m1 % 9), nV (1 + m2 % 8)]) (Same.refl _) hz3), z3, 1 + m0 % 6, 1 + m1 % 9, 1 + m2 % 8, upd_same, ⟨by omega, by omega, by omega, by omega, by omega, by omega, fun z => by omega⟩, rfl⟩
        · refine ifF e36 ?_
          exact ⟨s6, z1, _, _, _, hz6, ⟨by omega, by omega, by omega, by omega, by omega, by omega, fun _ => by omega⟩, rfl⟩
      · rintro σ H5 ⟨s5', z, s0, s1', s2', hz, ho, rfl⟩
        have hm5 := s5' _ _ hm4
        have s35 := s34.trans s5'
        have hvs5 := (s4.trans s5') _ _ hvs
        have hvp5 : Paired (BdV K H5) vs bs := L2.Paired.mapP hvp fun _ _ => BdV.mono (s4.trans s5')
        have lvs := hvp.length
        have o1 := ho.c1
        refine ⟨_, rfl, .inl ⟨rfl, _, SqL.of hvs5⟩, _, rfl, z, _, 0, _, rfl, rfl, SqL.of hz, rfl, _, rfl, z, _, 1, _, rfl, rfl, SqL.of hz, rfl, _, rfl, ma, _, 3, nV m3, rfl, rfl, SqL.of hm5, atI_nat (j := 3) (nV_at hm3), .inl ⟨_, rfl, _, rfl, z, _, 2, _, rfl, rfl, SqL.of hz, rfl, _, _, rfl, rfl, by show (0 : Int) < (s2' : Int); omega, _, _, rfl, rfl, _, rfl, z, _, 2, _, rfl, rfl, SqL.of hz, rfl, by show 4 ≤ sizeLine; decide, fun t ht => ?_⟩⟩
        have s6 := same_new (o := .tup [nV s0, nV s1', nV (1 + m3 % s2'), nV s2']) (Same.refl H5) ht
        have ht6 : upd H5 t (.tup [nV s0, nV s1', nV (1 + m3 % s2'), nV s2']) t = some (.tup [nV s0, nV s1', nV (1 + m3 % s2'), nV s2']) := upd_same
        have hvs6 := s6 _ _ hvs5
        have hvp6 : Paired (BdV K (upd H5 t (.tup [nV s0, nV s1', nV (1 + m3 % s2'), nV s2']))) vs bs := L2.Paired.mapP hvp5 fun _ _ => BdV.mono s6
        have s36 := s35.trans s6
        show (_ : Prop)
        refine ⟨D, vs, .ref t, rfl, rfl, hvs6, size_lt (by omega), ?_⟩
        have t7 := tup_lst (K := K) (o := .lst (vs ++ [.ref t])) hvs6
        have hmod : m3 % s2' < s2' := Nat.mod_lt _ (by omega)
        refine ⟨same_mut s36 hD, bs ++ [⟨s0, s1', 1 + m3 % s2', s2'⟩], _, _, _, _, upd_same, Paired.snoc (L2.Paired.mapP hvp6 fun _ _ ⟨a, e, h⟩ => ⟨a, e, t7 _ _ h⟩) ⟨t, rfl, t7 _ _ (SqT.of ht6)⟩, by rw [List.length_append, hbl]; rfl, fun b hb => ?_, rfl⟩
        rcases List.mem_append.mp hb with hb | hb
        · exact hbo b hb
        · rw [List.mem_singleton] at hb
          subst hb
          have a2 := ho.a2
          have b2 := ho.b2
          have c2 := ho.c2
          exact ⟨⟨ho.a1, a2, ho.b1, (by show s1' ≤ 12; omega), (by show 1 ≤ 1 + m3 % s2'; omega), (by show 1 + m3 % s2' ≤ s2'; omega), c2⟩, b2, ho.two⟩
    · rintro σ H3 ⟨s3, bs, vs, v3, v4, v5, hvs, hvp, hbl, hbo, rfl⟩
      have et : (cnt : Int).toNat = cnt := Int.toNat_natCast cnt
      rw [et] at hbl
      exact ⟨_, rfl, q D bs H3 s3 ⟨vs, SqL.of hvs, hvp⟩ (bdsLaw_of hbo hbl (by omega))⟩
end
end My
namespace My
open PySem L2
/-! ### _law_start, _law_able, _law_pairs, _law_ascending -/
theorem okPl_snoc' {bs : List Bd} {r : Pl} {i : Nat} {b : Bd} {q : Nat × Nat} (h : okPl (bs.take i) r) (e : bs[i]? = some b) (h2 : okP b q) : okPl (bs.take (i + 1)) (r ++ [q]) := by
  rw [take_snoc e]
  exact okPl_snoc h h2
section
variable {P : Program} {w : World} {K : PySem.W.Frag} {mg : Str → Option Value} {base : Heap}
abbrev s_law_start : Stmt := top 76
abbrev N_law_start : List Str := ["boards", "n", "place", "k", "many", "at"]
theorem sc_law_start : FnScope N_law_start ["boards", "n"] (C8.fnScope s_law_start) := C8.fnScope_by (by decide +kernel)
def sp_law_start (K : PySem.W.Frag) : Sp := fun vs H Q _ => ∃ (ba na : Addr) (bs : List Bd) (n : List Nat), vs = [.ref ba, .ref na] ∧ BdsAt K H ba bs ∧ BdsOk bs ∧ H na = some (.lst (n.map nV)) ∧ n.length = 3 ∧
  ∀ t xs pl H', Same H H' → H' t = some (.tup xs) → Paired (PairV K H') xs pl → okPl bs pl → Q (.ref t) H'
theorem ok_law_start {f : Addr} {fd : FuncData} (F : C8.Def K mg "_law_start" s_law_start f fd) (b : Binds K fd ["boards", "n"] []) (T : Gb mg) : C8.Cal P w K mg base 1 "_law_start" (sp_law_start K) [] := by
  refine C8.cal0 F b .nil sc_law_start (fun vs H Q E h => ?_) (fun cdv A outer s H vs Q E hr h => ?_)
  · obtain ⟨ba, na, bs, n, rfl, _⟩ := h
    rfl
  · obtain ⟨ba, na, bs, n, rfl, hB, hok, hna, hn, q⟩ := h
    obtain ⟨xs, hxs, hxp⟩ := hB.ex
    have l1 := hxp.length
    have n2 := hok.n2
    refine ⟨_, (pss_cons (ps_set (i := 2) sc_law_start.nd rfl (Or.inl rfl) (pe_lst pa_nil))
(pss_cons (ps_for PassesOwn.never rfl (pi_range1 (by rfl) T.range (pa_cons (pe_callB (call_lenK K rfl) (by rfl) T.len PySem.boot_len (pa_cons (pv 0) pa_nil)) pa_nil)) (pg_name (i := 3) sc_law_start.nd rfl (Or.inl rfl))
(pss_cons (ps_set (i := 4) sc_law_start.nd rfl (Or.inl rfl) (pe_op op_add (pe_ix (ix_tupK K rfl) (pe_ix (ix_listK K rfl) (pv 0) (pv 3) (fun _ _ => rfl)) pe_int (fun _ _ => rfl)) pe_int))
(pss_cons (ps_set (i := 5) sc_law_start.nd rfl (Or.inl rfl) (pe_op op_mod (pe_callTy call_int1 (by rfl) T.int (by decide +kernel) (pa_cons (pe_ix (ix_listK K rfl) (pv 1) (pe_op op_add pe_int (pv 3)) (fun _ _ => rfl)) pa_nil)) (pe_op op_add (pv 4) (pe_ix (ix_tupK K rfl) (pe_ix (ix_listK K rfl) (pv 0) (pv 3) (fun _ _ => rfl)) pe_int (fun _ _ => rfl)))))
(pss_one (ps_expr (pe_bm PySem.F.plainAttrs_list PySem.F.slot_list_append PySem.F.type_list_append mt_append (pv 2) (pa_cons (pe_ifExp (pt_cmpR op_lt (pv 5) (pv 4) (nomark _)) (pe_tup (pa_cons pe_int (pa_cons (pv 5) pa_nil))) (pe_tup (pa_cons pe_int (pa_cons (pe_op op_sub (pv 5) (pv 4)) pa_nil)))) pa_nil)))))))
(pss_one (ps_ret (pe_callTy (call_tupK K rfl) (by rfl) T.tuple (by decide +kernel) (pa_cons (pv 2) pa_nil)))))), ?_⟩
    refine ⟨by show 0 ≤ sizeLine; decide, fun D hD => ?_⟩
    have s1 := same_new (o := .lst []) (Same.refl H) hD
    have hD1 : upd H D (.lst []) D = some (.lst []) := upd_same
    refine ⟨_, rfl, ba, _, rfl, .inl (s1.seq hxs), (xs.length : Int), rfl, by omega, by omega, for_it (walk_range (lo := 0) (n := (xs.length : Int).toNat)) (fun i σ H' => Same H H' ∧ ∃ vs pl v3 v4 v5, H' D = some (.lst vs) ∧ Paired (PairV K H') vs pl ∧ okPl (bs.take i) pl ∧ σ = [some (.ref ba), some (.ref na), some (.ref D), v3, v4, v5])
      ⟨s1, [], [], _, _, _, hD1, .nil, trivial, rfl⟩ (fun _ _ _ _ _ => trivial) ?_ ?_⟩
    · rintro i x σ H2 H2' hi ⟨s2, vs, pl, v3, v4, v5, hvs, hvp, hpl, rfl⟩ ⟨rfl, rfl⟩
      have hi : i < bs.length := by omega
      obtain ⟨bd, hbd⟩ := at_ex (l := bs) (i := i) hi
      obtain ⟨bv, hbv, ⟨bda, rfl, hbda⟩⟩ := paired_at2 hxp hbd
      obtain ⟨ni, hni⟩ := at_ex (l := n) (i := 1 + i) (by omega)
      have ei : (0 : Int) + (i : Int) = (i : Int) := Int.zero_add _
      have ei1 : (1 : Int) + (0 + (i : Int)) = ((1 + i : Nat) : Int) := by omega
      have hxs2 := s2.seq hxs
      have hbda2 := s2.tup hbda
      have lvs := hvp.length
      have lpl := okPl_len hpl
      have ltk := List.length_take_le i bs
      have hb := hok.ok bd (List.mem_of_getElem? hbd)
      have b1 := hb.s1
      have b2 := hb.s2
      refine ⟨_, rfl, _, rfl, ba, _, _, _, rfl, rfl, hxs2, (by rw [ei]; exact atI_nat hbv), bda, _, 1, _, rfl, rfl, hbda2, rfl, _, _, rfl, rfl, ?_⟩
      refine ⟨_, rfl, _, rfl, _, _, rfl, rfl, na, _, _, nV ni, rfl, rfl, SqL.of (s2 _ _ hna), (by rw [ei1]; exact atI_nat (nV_at hni)), .inl ⟨_, rfl, _, rfl, _, rfl, _, rfl, ba, _, _, _, rfl, rfl, hxs2, (by rw [ei]; exact atI_nat hbv), bda, _, 3, _, rfl, rfl, hbda2, rfl, _, _, rfl, rfl, _, _, rfl, rfl, by show (0 : Int) < (bd.limit : Int) + 1 + bd.late; omega, ?_⟩⟩
      have em : (ni : Int) % ((bd.limit : Int) + 1 + bd.late) = ((ni % (bd.limit + 1 + bd.late) : Nat) : Int) := rfl
      have hm : ni % (bd.limit + 1 + bd.late) < bd.limit + 1 + bd.late := Nat.mod_lt _ (by omega)
      show (_ : Prop)
      refine ⟨_, rfl, .inl ⟨rfl, _, SqL.of hvs⟩, _, rfl, _, rfl, _, _, rfl, rfl, _, rfl, ?_⟩
      dsimp only
      rw [em]
      generalize ni % (bd.limit + 1 + bd.late) = at_ at hm ⊢
      have fin : ∀ (t : Addr) (p : Nat × Nat), H2' t = none → okP bd p → ∃ vs', upd H2' t (.tup [nV p.1, nV p.2]) D = some (.lst vs') ∧ vs'.length < sizeLine ∧ Same H (upd (upd H2' t (.tup [nV p.1, nV p.2])) D (.lst (vs' ++ [.ref t]))) ∧ Paired (PairV K (upd (upd H2' t (.tup [nV p.1, nV p.2])) D (.lst (vs' ++ [.ref t])))) (vs' ++ [.ref t]) (pl ++ [p]) ∧ okPl (bs.take (i + 1)) (pl ++ [p]) := fun t p ht hp => by
        have s3 := same_new (o := .tup [nV p.1, nV p.2]) (Same.refl H2') ht
        have hvs3 := s3 _ _ hvs
        have t4 := tup_lst (K := K) (o := .lst (vs ++ [.ref t])) hvs3
        exact ⟨vs, hvs3, size_lt (by omega), same_mut (s2.trans s3) hD, Paired.snoc (L2.Paired.mapP hvp fun _ _ h => (h.mono s3).tups t4) ⟨t, rfl, t4 _ _ (SqT.of upd_same)⟩, okPl_snoc' hpl hbd hp⟩
      by_cases e : at_ < bd.limit + 1
      · refine ifT (by show (at_ : Int) < (bd.limit : Int) + 1; omega) ?_
        refine ⟨_, rfl, by show 2 ≤ sizeLine; decide, fun t ht => ?_⟩
        obtain ⟨vs', k1, k2, k3, k4, k5⟩ := fin t (0, at_) ht (.inl ⟨rfl, by show at_ ≤ bd.limit; omega⟩)
        exact ⟨D, vs', _, rfl, rfl, k1, k2, k3, _, _, _, _, _, upd_same, k4, k5, rfl⟩
      · refine ifF (by show ¬ (at_ : Int) < (bd.limit : Int) + 1; omega) ?_
        refine ⟨_, rfl, _, rfl, _, _, rfl, rfl, by show 2 ≤ sizeLine; decide, fun t ht => ?_⟩
        have es : (at_ : Int) - ((bd.limit : Int) + 1) = ((at_ - (bd.limit + 1) : Nat) : Int) := by omega
        obtain ⟨vs', k1, k2, k3, k4, k5⟩ := fin t (1, at_ - (bd.limit + 1)) ht (.inr ⟨rfl, by show at_ - (bd.limit + 1) < bd.late; omega⟩)
        dsimp only
        rw [es]
        exact ⟨D, vs', _, rfl, rfl, k1, k2, k3, _, _, _, _, _, upd_same, k4, k5, rfl⟩
    · rintro σ H2 ⟨s2, vs, pl, v3, v4, v5, hvs, hvp, hpl, rfl⟩
      have et : (xs.length : Int).toNat = bs.length := by omega
      rw [et, List.take_length] at hpl
      refine ⟨_, rfl, D, vs, rfl, .inl ⟨SqL.of hvs, fun t ht => ?_⟩⟩
      have s3 := same_new (o := .tup vs) (Same.refl H2) ht
      exact q t vs pl _ (s2.trans s3) upd_same (L2.Paired.mapP hvp fun _ _ => PairV.mono s3) hpl
abbrev s_law_able : Stmt := top 77
abbrev N_law_able : List Str := ["place", "k"]
theorem sc_law_able : FnScope N_law_able ["place"] (C8.fnScope s_law_able) := C8.fnScope_by (by decide +kernel)
def sp_law_able (K : PySem.W.Frag) : Sp := fun vs H Q _ => ∃ (v : V) (pl : Pl), vs = [v] ∧ PlV K H v pl ∧ pl.length ≤ 100 ∧ ∀ p H', Same H H' → H p = none → H' p = some (.lst ((ableI pl).map V.int)) → Q (.ref p) H'
theorem ok_law_able {f : Addr} {fd : FuncData} (F : C8.Def K mg "_law_able" s_law_able f fd) (b : Binds K fd ["place"] []) (T : Gb mg) : C8.Cal P w K mg base 1 "_law_able" (sp_law_able K) [] := by
  refine C8.cal0 F b .nil sc_law_able (fun vs H Q E h => ?_) (fun cdv A outer s H vs Q E hr h => ?_)
  · obtain ⟨v, pl, rfl, _⟩ := h
    rfl
  · obtain ⟨v, pl, rfl, ⟨a, xs, rfl, hxs, hxp⟩, hn, q⟩ := h
    have hl := hxp.length
    refine ⟨_, (pss_one (ps_ret (pe_op op_cat (pe_lst (pa_cons (pe_un un_neg pe_int) pa_nil)) (pe_lc (own := [("k", 1)]) rfl sc_law_able.nd (pi_range1 (by rfl) T.range (pa_cons (pe_callB (call_lenK K rfl) (by rfl) T.len PySem.boot_len (pa_cons (pv 0) pa_nil)) pa_nil)) (blkOk_by (N := N_law_able) (sc := C8.fnScope s_law_able) (by decide +kernel)) (fun _ _ _ _ _ => (pg_name (i := 1) sc_law_able.nd rfl (Or.inl rfl))) (fun _ _ _ _ _ => (pts_one (pt_cmpR op_eq (pe_ix (ix_tupK K rfl) (pe_ix (ix_tupK K rfl) (pv 0) (pv 1) (fun _ _ => rfl)) pe_int (fun _ _ => rfl)) pe_int (nomark _)))) (fun _ _ _ _ _ => (pv 1)))))), ?_⟩
    refine ⟨_, rfl, by show 1 ≤ sizeLine; decide, fun D1 hD1 => ?_⟩
    have sm1 := same_new (o := .lst [.int (-1)]) (Same.refl H) hD1
    have hx1 := sm1.tup hxs
    show (_ : Prop)
    refine ⟨_, rfl, a, xs, rfl, .inr hx1, _, rfl, by omega, by omega, fun D hD => lc_range (lo := 0) (n := ((xs.length : Nat) : Int).toNat) (fun i H' => Same (upd H D1 (.lst [.int (-1)])) H' ∧ H' D = some (.lst (((List.range i).filter (isHand pl)).map nV)))
      ⟨same_new (Same.refl _) hD, upd_same⟩ ?_ ?_⟩
    · rintro i H2 hi ⟨sm2, hD2⟩
      have hi : i < pl.length := by omega
      obtain ⟨p, hp⟩ := at_ex (l := pl) (i := i) hi
      obtain ⟨pv', hpv', ⟨pa, rfl, hpa⟩⟩ := paired_at2 hxp hp
      have hpa2 := (sm1.trans sm2).tup hpa
      have ei : (0 : Int) + (i : Int) = (i : Int) := Int.zero_add _
      refine ⟨rfl, _, rfl, _, rfl, a, _, _, .ref pa, rfl, rfl, sm2.tup hx1, (by rw [ei]; exact atI_nat hpv'), pa, _, 0, _, rfl, rfl, hpa2, rfl, rfl, _, rfl, ?_⟩
      rw [filter_snoc]
      have eh : isHand pl i = decide (p.1 = 0) := by unfold isHand; rw [hp]; rfl
      have lf := List.length_filter_le (isHand pl) (List.range i)
      rw [List.length_range] at lf
      rw [dec_int]
      by_cases e : p.1 = 0
      · refine ifT (by omega) ?_
        rw [if_pos (by rw [eh]; exact decide_eq_true e)]
        refine ⟨_, rfl, _, hD2, size_lt (by rw [List.length_map]; omega), same_mut sm2 hD, ?_⟩
        rw [ei, List.map_append]
        exact upd_same
      · refine ifF (by omega) ?_
        rw [if_neg (by rw [eh, decide_eq_false e]; exact Bool.false_ne_true), List.append_nil]
        exact ⟨sm2, hD2⟩
    · rintro H2 ⟨sm2, hD2⟩
      have et : ((xs.length : Nat) : Int).toNat = pl.length := by omega
      rw [et] at hD2
      have lf := List.length_filter_le (isHand pl) (List.range pl.length)
      rw [List.length_range] at lf
      have hD12 : H2 D1 = some (.lst [.int (-1)]) := sm2 _ _ upd_same
      refine ⟨D1, D, _, _, rfl, rfl, hD12, hD2, by rw [List.length_map]; exact size_le (by show 1 + _ ≤ _; omega), fun p hp => ?_⟩
      refine q p _ ((sm1.trans sm2).trans (same_new (Same.refl _) hp)) ((sm1.trans sm2).free hp) ?_
      rw [upd_same]
      unfold ableI ableN
      rw [List.map_cons, List.map_map]
      rfl
abbrev s_law_pairs : Stmt := top 78
abbrev N_law_pairs : List Str := ["boards", "told", "k", "pair", "most"]
theorem sc_law_pairs : FnScope N_law_pairs ["boards", "told"] (C8.fnScope s_law_pairs) := C8.fnScope_by (by decide +kernel)
def sp_law_pairs (K : PySem.W.Frag) : Sp := fun vs H Q _ => ∃ (ba : Addr) (v : V) (bs : List Bd) (pl : Pl), vs = [.ref ba, v] ∧ BdsAt K H ba bs ∧ BdsOk bs ∧ PlV K H v pl ∧ okPl bs pl ∧ ∀ H', Same H H' → Q (.bl true) H'
theorem ok_law_pairs {f : Addr} {fd : FuncData} (F : C8.Def K mg "_law_pairs" s_law_pairs f fd) (b : Binds K fd ["boards", "told"] []) (T : Gb mg) : C8.Cal P w K mg base 1 "_law_pairs" (sp_law_pairs K) [] := by
  refine C8.cal0 F b .nil sc_law_pairs (fun vs H Q E h => ?_) (fun cdv A outer s H vs Q E hr h => ?_)
  · obtain ⟨ba, v, bs, pl, rfl, _⟩ := h
    rfl
  · obtain ⟨ba, v, bs, pl, rfl, hB, hok, ⟨a, ys, rfl, hys, hyp⟩, hokp, q⟩ := h
    obtain ⟨xs, hxs, hxp⟩ := hB.ex
    have l1 := hxp.length
    have l2 := hyp.length
    have l3 := okPl_len hokp
    have n2 := hok.n2
    refine ⟨_, (pss_cons (ps_if (PW.pt (pw_or (pt_not (pt_val (pe_callB call_isi (by rfl) T.isinstance (by decide +kernel) (pa_cons (pv 1) (pa_cons (pe_bltn (v := .ty "tuple") (by rfl) T.tuple (by decide +kernel) rfl) pa_nil))))) (pw_or1 (pt_cmpR op_ne (pe_callB (call_lenK K rfl) (by rfl) T.len PySem.boot_len (pa_cons (pv 1) pa_nil)) (pe_callB (call_lenK K rfl) (by rfl) T.len PySem.boot_len (pa_cons (pv 0) pa_nil)) (nomark _)))))
(pss_one (ps_ret pe_bl))
pss_nil)
(pss_cons (ps_for PassesOwn.never rfl (pi_range1 (by rfl) T.range (pa_cons (pe_callB (call_lenK K rfl) (by rfl) T.len PySem.boot_len (pa_cons (pv 0) pa_nil)) pa_nil)) (pg_name (i := 2) sc_law_pairs.nd rfl (Or.inl rfl))
(pss_cons (ps_set (i := 3) sc_law_pairs.nd rfl (Or.inl rfl) (pe_ix (ix_tupK K rfl) (pv 1) (pv 2) (fun _ _ => rfl)))
(pss_cons (ps_if (PW.pt (pw_or (pt_not (pt_val (pe_callB call_isi (by rfl) T.isinstance (by decide +kernel) (pa_cons (pv 3) (pa_cons (pe_bltn (v := .ty "tuple") (by rfl) T.tuple (by decide +kernel) rfl) pa_nil))))) (pw_or (pt_cmpR op_ne (pe_callB (call_lenK K rfl) (by rfl) T.len PySem.boot_len (pa_cons (pv 3) pa_nil)) pe_int (nomark _)) (pw_or (pt_not (pt_val (pe_callB call_isi (by rfl) T.isinstance (by decide +kernel) (pa_cons (pe_ix (ix_tupK K rfl) (pv 3) pe_int (fun _ _ => rfl)) (pa_cons (pe_bltn (v := .ty "int") (by rfl) T.int (by decide +kernel) rfl) pa_nil))))) (pw_or1 (pt_not (pt_val (pe_callB call_isi (by rfl) T.isinstance (by decide +kernel) (pa_cons (pe_ix (ix_tupK K rfl) (pv 3) pe_int (fun _ _ => rfl)) (pa_cons (pe_bltn (v := .ty "int") (by rfl) T.int (by decide +kernel) rfl) pa_nil))))))))))
(pss_one (ps_ret pe_bl))
pss_nil)
(pss_cons (ps_set (i := 4) sc_law_pairs.nd rfl (Or.inl rfl) (pe_lst (pa_cons (pe_ix (ix_tupK K rfl) (pe_ix (ix_listK K rfl) (pv 0) (pv 2) (fun _ _ => rfl)) pe_int (fun _ _ => rfl)) (pa_cons (pe_op op_sub (pe_ix (ix_tupK K rfl) (pe_ix (ix_listK K rfl) (pv 0) (pv 2) (fun _ _ => rfl)) pe_int (fun _ _ => rfl)) pe_int) pa_nil))))
(pss_one (ps_if (PW.pt (pw_or (pt_cmpR (op_notInK K rfl) (pe_ix (ix_tupK K rfl) (pv 3) pe_int (fun _ _ => rfl)) (pe_lst (pa_cons pe_int (pa_cons pe_int pa_nil))) rfl) (pw_or (pt_cmpR op_lt (pe_ix (ix_tupK K rfl) (pv 3) pe_int (fun _ _ => rfl)) pe_int (nomark _)) (pw_or1 (pt_cmpR op_gt (pe_ix (ix_tupK K rfl) (pv 3) pe_int (fun _ _ => rfl)) (pe_ix (ix_listK K rfl) (pv 4) (pe_ix (ix_tupK K rfl) (pv 3) pe_int (fun _ _ => rfl)) (fun _ _ => rfl)) (nomark _))))))
(pss_one (ps_ret pe_bl))
pss_nil))))))
(pss_one (ps_ret pe_bl)))), ?_⟩
    refine ⟨_, rfl, .ref a, .ty "tuple", .type "tuple", .type "tuple", true, rfl, .ty _, tyX_tup hys, kit_ty (by decide +kernel), true, rfl, ?_⟩
    refine iteF ?_
    refine ⟨_, rfl, a, _, rfl, .inr hys, _, rfl, ba, _, rfl, .inl hxs, rfl, _, rfl, ?_⟩
    refine ifNF (by rw [l1, l2, l3]) ?_
    refine ⟨_, rfl, ba, _, rfl, .inl hxs, (xs.length : Int), rfl, by omega, by omega, for_it (walk_range (lo := 0) (n := (xs.length : Int).toNat)) (fun i σ H' => Same H H' ∧ ∃ v2 v3 v4, σ = [some (.ref ba), some (.ref a), v2, v3, v4])
      ⟨Same.refl _, _, _, _, rfl⟩ (fun _ _ _ _ _ => trivial) ?_ ?_⟩
    · rintro i x σ H2 H2' hi ⟨s2, v2, v3, v4, rfl⟩ ⟨rfl, rfl⟩
      have hi : i < bs.length := by omega
      obtain ⟨bd, hbd⟩ := at_ex (l := bs) (i := i) hi
      obtain ⟨bv, hbv, ⟨bda, rfl, hbda⟩⟩ := paired_at2 hxp hbd
      obtain ⟨p, hp⟩ := at_ex (l := pl) (i := i) (by omega)
      obtain ⟨pv', hpv', ⟨pa, rfl, hpa⟩⟩ := paired_at2 hyp hp
      have hpo := okPl_at hokp hbd hp
      have ei : (0 : Int) + (i : Int) = (i : Int) := Int.zero_add _
      have hpa2 := s2.tup hpa
      have hbda2 := s2.tup hbda
      refine ⟨_, rfl, _, rfl, a, ys, _, _, rfl, rfl, s2.tup hys, (by rw [ei]; exact atI_nat hpv'), ?_⟩
      refine ⟨_, rfl, .ref pa, .ty "tuple", .type "tuple", .type "tuple", true, rfl, .ty _, tyX_tup hpa2, kit_ty (by decide +kernel), true, rfl, ?_⟩
      refine iteF ?_
      refine ⟨_, rfl, pa, _, rfl, .inr hpa2, rfl, _, rfl, ?_⟩
      refine ifNF rfl ?_
      refine ⟨_, rfl, pa, _, 0, nV p.1, rfl, rfl, hpa2, rfl, nV p.1, .ty "int", .type "int", .type "int", true, rfl, .ty _, .base (.int _), kit_ty (by decide +kernel), true, rfl, ?_⟩
      refine iteF ?_
      refine ⟨_, rfl, pa, _, 1, nV p.2, rfl, rfl, hpa2, rfl, nV p.2, .ty "int", .type "int", .type "int", true, rfl, .ty _, .base (.int _), kit_ty (by decide +kernel), true, rfl, ?_⟩
      refine iteF ?_
      refine ⟨_, rfl, _, rfl, ba, _, _, _, rfl, rfl, s2.seq hxs, (by rw [ei]; exact atI_nat hbv), bda, _, 1, _, rfl, rfl, hbda2, rfl, _, rfl, _, rfl, ba, _, _, _, rfl, rfl, s2.seq hxs, (by rw [ei]; exact atI_nat hbv), bda, _, 3, _, rfl, rfl, hbda2, rfl, _, _, rfl, rfl, by show 2 ≤ sizeLine; decide, fun m hm => ?_⟩
      have s3 := same_new (o := .lst [nV bd.limit, .int ((bd.late : Int) - 1)]) (Same.refl H2') hm
      have hm3 : upd H2' m (.lst [nV bd.limit, .int ((bd.late : Int) - 1)]) m = some (.lst [nV bd.limit, .int ((bd.late : Int) - 1)]) := upd_same
      have hpa3 := s3.tup hpa2
      show (_ : Prop)
      generalize upd H2' m (.lst [nV bd.limit, .int ((bd.late : Int) - 1)]) = H3 at s3 hm3 hpa3 ⊢
      refine ⟨_, rfl, pa, _, 0, nV p.1, rfl, rfl, hpa3, rfl, by show 2 ≤ sizeLine; decide, fun z hz => ?_⟩
      have s4 := same_new (o := .lst [.int 0, .int 1]) (Same.refl H3) hz
      have hz4 : upd H3 z (.lst [.int 0, .int 1]) z = some (.lst [.int 0, .int 1]) := upd_same
      have hpa4 := s4.tup hpa3
      have hm4 := s4 _ _ hm3
      generalize upd H3 z (.lst [.int 0, .int 1]) = H4 at s4 hz4 hpa4 hm4 ⊢
      have s24 := s2.trans (s3.trans s4)
      refine ⟨z, [.int 0, .int 1], rfl, .inl (SqL.of hz4), rfl, rfl, _, rfl, ?_⟩
      have e01 : p.1 = 0 ∨ p.1 = 1 := hpo.elim (fun h => .inl h.1) fun h => .inr h.1
      have einv : inV (nV p.1) [.int 0, .int 1] = true := by rcases e01 with e | e <;> rw [e] <;> rfl
      refine (show ∀ (A B : Prop), B → (if (!inV (nV p.1) [.int 0, .int 1]) = true then A else B) from fun A B h => by rw [einv]; exact h) _ _ ?_
      refine ⟨_, rfl, pa, _, 1, nV p.2, rfl, rfl, hpa4, rfl, _, _, rfl, rfl, _, rfl, ?_⟩
      refine ifF (by omega) ?_
      have fin : ¬ ((p.2 : Int) > (if p.1 = 0 then (bd.limit : Int) else (bd.late : Int) - 1)) := by
        rcases hpo with ⟨h1, h2⟩ | ⟨h1, h2⟩
        · rw [if_pos h1]; omega
        · rw [if_neg (by omega)]; omega
      refine ⟨_, rfl, pa, _, 1, nV p.2, rfl, rfl, hpa4, rfl, _, rfl, _, rfl, pa, _, 0, nV p.1, rfl, rfl, hpa4, rfl, m, _, _, .int (if p.1 = 0 then (bd.limit : Int) else (bd.late : Int) - 1), rfl, rfl, SqL.of hm4, ?_, _, _, rfl, rfl, _, rfl, ?_⟩
      · rcases e01 with e | e <;> rw [e] <;> rfl
      · refine ifF fin ?_
        exact ⟨s24, _, _, _, rfl⟩
    · rintro σ H2 ⟨s2, v2, v3, v4, rfl⟩
      exact q H2 s2
end
end My
namespace My
open PySem L2
/-! ### _law_ascending, _law_lot -/
/-- a row of the told list: a tuple, first the standing -/
def AscV (K : PySem.W.Frag) (H : Hp) (v : V) (p : Pl) : Prop := ∃ a xv y ys, v = .ref a ∧ SqT K H a (xv :: y :: ys) ∧ PlV K H xv p
theorem LotV.asc {K : PySem.W.Frag} {H : Hp} {ch : Pl → Int} {v : V} {p : Pl} (h : LotV K H ch v p) : AscV K H v p := let ⟨a, xv, e, h1, h2⟩ := h; ⟨a, xv, _, [], e, h1, h2⟩
theorem PapV.asc {K : PySem.W.Frag} {H : Hp} {bs : List Bd} {R : List Pl} {rk : Pl → Nat} {v : V} {p : Pl} (h : PapV K H bs R rk v p) : AscV K H v p := let ⟨a, xv, aa, xs, e, h1, h2, _⟩ := h; ⟨a, xv, _, [_], e, h1, h2⟩
theorem AscV.mono {K : PySem.W.Frag} {H H' : Hp} {v : V} {p : Pl} (s : Same H H') (h : AscV K H v p) : AscV K H' v p := let ⟨a, xv, y, ys, e, h1, h2⟩ := h; ⟨a, xv, y, ys, e, s.tup h1, h2.mono s⟩
theorem op_ltNK {X : Cx} {K : PySem.W.Frag} (hK : X.K = K) (hu : X.A.units + 64 < cLine) : OpR X (compareOp .Lt) (rLtN K) := hK ▸ op_ltN hu
/-- as DF, the dict to be read alone (it may be locked) -/
def DFr {α : Type} (K : PySem.W.Frag) (w : World) (key : α → NK) (H : Hp) (d : Addr) (ks : List α) (f : α → V) : Prop :=
  ∃ kvs, Rd H d (DnO w d kvs) ∧ KeysOk K H kvs ∧ kvs.map (·.1) = ks.map key ∧ ∀ k ∈ ks, valN kvs (key k) = some (f k)
section
variable {α : Type} {K : PySem.W.Frag} {w : World} {key : α → NK} {H : Hp} {d : Addr} {ks : List α} {f : α → V}
theorem DF.r (h : DF K w key H d ks f) : DFr K w key H d ks f := let ⟨kvs, h1, h2, h3, h4⟩ := h; ⟨kvs, .inl h1, h2, h3, h4⟩
theorem DFr.same {H' : Hp} (s : Same H H') (h : DFr K w key H d ks f) : DFr K w key H' d ks f := let ⟨kvs, h1, h2, h3, h4⟩ := h; ⟨kvs, h1.elim (fun z => .inl (s _ _ z)) (fun ⟨o, z⟩ => .inr ⟨o, s _ _ z⟩), h2.tups s.tups, h3, h4⟩
theorem DFr.get {b : Addr} {k : α} {Q : VK} (h : DFr K w key H d ks f) (hk : k ∈ ks) (hb : KeyV K H (key k) (.ref b)) (hd : (key k).depth ≤ 8) (q : Q (f k) H) : rIxN K w (.ref d) (.ref b) H Q :=
  let ⟨kvs, h1, h2, h3, h4⟩ := h; ⟨d, b, kvs, key k, f k, rfl, rfl, h1, h2, hb, hd, h4 k hk, q⟩
theorem DFr.notF [DecidableEq α] (ki : ∀ a b, key a = key b → a = b) {b : Addr} {k : α} {Q : VK} (h : DFr K w key H d ks f) (hb : KeyV K H (key k) (.ref b)) (hd : (key k).depth ≤ 8) (hk : k ∈ ks) (q : Q (.bl false) H) : rInN K w true (.ref b) (.ref d) H Q := by
  obtain ⟨kvs, h1, h2, h3, h4⟩ := h
  refine ⟨d, b, kvs, key k, rfl, rfl, h1, h2, hb, hd, ?_⟩
  rw [DF.isSome ki h3, decide_eq_true hk]
  exact q
end
section
variable {P : Program} {w : World} {K : PySem.W.Frag} {mg : Str → Option Value} {base : Heap}
abbrev s_law_ascending : Stmt := top 79
abbrev N_law_ascending : List Str := ["boards", "rows", "k"]
theorem sc_law_ascending : FnScope N_law_ascending ["boards", "rows"] (C8.fnScope s_law_ascending) := C8.fnScope_by (by decide +kernel)
def sp_law_ascending (K : PySem.W.Frag) : Sp := fun vs H Q _ => ∃ (ba ra : Addr) (bs : List Bd) (rvs : List V) (L : List Pl), vs = [.ref ba, .ref ra] ∧ BdsAt K H ba bs ∧ BdsOk bs ∧ H ra = some (.lst rvs) ∧ Paired (AscV K H) rvs L ∧ (∀ p ∈ L, okPl bs p) ∧ L.Pairwise (fun a b => ltPl a b = true) ∧ L.length ≤ 1000 ∧
  ∀ H', Same H H' → Q (.bl true) H'
theorem ok_law_ascending {f : Addr} {fd : FuncData} (F : C8.Def K mg "_law_ascending" s_law_ascending f fd) (b : Binds K fd ["boards", "rows"] []) (T : Gb mg) (c__law_pairs : C8.Cal P w K mg base 1 "_law_pairs" (sp_law_pairs K) []) : C8.Cal P w K mg base 2 "_law_ascending" (sp_law_ascending K) [] := by
  refine C8.cal0 F b .nil sc_law_ascending (fun vs H Q E h => ?_) (fun cdv A outer s H vs Q E hr h => ?_)
  · obtain ⟨ba, ra, bs, rvs, L, rfl, _⟩ := h
    rfl
  · obtain ⟨ba, ra, bs, rvs, L, rfl, hB, hok, hra, hrp, hLo, hasc, hll, q⟩ := h
    have l1 := hrp.length
    refine ⟨_, (pss_cons (ps_for PassesOwn.never rfl (pi_range1 (by rfl) T.range (pa_cons (pe_callB (call_lenK K rfl) (by rfl) T.len PySem.boot_len (pa_cons (pv 1) pa_nil)) pa_nil)) (pg_name (i := 2) sc_law_ascending.nd rfl (Or.inl rfl))
(pss_cons (ps_if (PW.pt (pw_or (pt_not (pt_val (pe_callB call_isi (by rfl) T.isinstance (by decide +kernel) (pa_cons (pe_ix (ix_listK K rfl) (pv 1) (pv 2) (fun _ _ => rfl)) (pa_cons (pe_bltn (v := .ty "tuple") (by rfl) T.tuple (by decide +kernel) rfl) pa_nil))))) (pw_or (pt_cmpR op_lt (pe_callB (call_lenK K rfl) (by rfl) T.len PySem.boot_len (pa_cons (pe_ix (ix_listK K rfl) (pv 1) (pv 2) (fun _ _ => rfl)) pa_nil)) pe_int (nomark _)) (pw_or1 (pt_not (pt_val (C8.pe_c c__law_pairs hr (by decide) (by rfl) (pa_cons (pv 0) (pa_cons (pe_ix (ix_tupK K rfl) (pe_ix (ix_listK K rfl) (pv 1) (pv 2) (fun _ _ => rfl)) pe_int (fun _ _ => rfl)) pa_nil)))))))))
(pss_one (ps_ret pe_bl))
pss_nil)
(pss_one (ps_if (PW.pt (pw_and (pt_cmpR op_gt (pv 2) pe_int (nomark _)) (pw_and1 (pt_not (pt_cmpR (op_ltNK (K := K) rfl (Nat.lt_of_le_of_lt (Nat.add_le_add_left (by decide) _) hr.un)) (pe_ix (ix_tupK K rfl) (pe_ix (ix_listK K rfl) (pv 1) (pe_op op_sub (pv 2) pe_int) (fun _ _ => rfl)) pe_int (fun _ _ => rfl)) (pe_ix (ix_tupK K rfl) (pe_ix (ix_listK K rfl) (pv 1) (pv 2) (fun _ _ => rfl)) pe_int (fun _ _ => rfl)) (nomark _))))))
(pss_one (ps_ret pe_bl))
pss_nil))))
(pss_one (ps_ret pe_bl))), ?_⟩
    refine ⟨_, rfl, ra, _, rfl, .inl (SqL.of hra), (rvs.length : Int), rfl, by omega, by omega, for_it (walk_range (lo := 0) (n := (rvs.length : Int).toNat)) (fun i σ H' => Same H H' ∧ ∃ v2, σ = [some (.ref ba), some (.ref ra), v2]) ⟨Same.refl _, _, rfl⟩ (fun _ _ _ _ _ => trivial) ?_ ?_⟩
    · rintro i x σ H2 H2' hi ⟨s2, v2, rfl⟩ ⟨rfl, rfl⟩
      have hi : i < L.length := by omega
      have ei : (0 : Int) + (i : Int) = (i : Int) := Int.zero_add _
      obtain ⟨p, hp⟩ := at_ex hi
      obtain ⟨rv, hrv, hav⟩ := paired_at2 hrp hp
      obtain ⟨a, xv, y, ys, rfl, ha, hx⟩ := hav.mono s2
      have hra2 := s2 _ _ hra
      refine ⟨_, rfl, _, rfl, ra, _, _, .ref a, rfl, rfl, SqL.of hra2, (by rw [ei]; exact atI_nat hrv), .ref a, .ty "tuple", .type "tuple", .type "tuple", true, rfl, .ty _, tyX_tup ha, kit_ty (by decide +kernel), true, rfl, ?_⟩
      refine iteF ?_
      refine ⟨_, rfl, _, rfl, ra, _, _, .ref a, rfl, rfl, SqL.of hra2, (by rw [ei]; exact atI_nat hrv), a, _, rfl, .inr ha, _, _, rfl, rfl, _, rfl, ?_⟩
      refine ifF (by rw [List.length_cons, List.length_cons]; omega) ?_
      refine ⟨_, rfl, _, rfl, _, rfl, ra, _, _, .ref a, rfl, rfl, SqL.of hra2, (by rw [ei]; exact atI_nat hrv), a, _, ((0 : Nat) : Int), xv, rfl, rfl, ha, atI_nat rfl, ba, xv, bs, p, rfl, hB.mono s2, hok, hx, hLo p (List.mem_of_getElem? hp), fun H3 s3 => ⟨_, rfl, ?_⟩⟩
      refine iteF ?_
      have hra3 := s3 _ _ hra2
      have ha3 := s3.tup ha
      refine ⟨_, rfl, _, _, rfl, rfl, _, rfl, ?_⟩
      by_cases e : (0 : Int) + (i : Int) > 0
      · refine ifT e ?_
        have ei1 : (0 : Int) + (i : Int) - 1 = ((i - 1 : Nat) : Int) := by omega
        obtain ⟨p', hp'⟩ := at_ex (l := L) (i := i - 1) (by omega)
        obtain ⟨rv', hrv', hav'⟩ := paired_at2 hrp hp'
        obtain ⟨a', xv', y', ys', rfl, ha', hx'⟩ := hav'.mono (s2.trans s3)
        have hlt : ltPl p' p = true := by
          obtain ⟨h1, e1⟩ := List.getElem?_eq_some_iff.mp hp'
          obtain ⟨h2, e2⟩ := List.getElem?_eq_some_iff.mp hp
          have := List.pairwise_iff_getElem.mp hasc (i - 1) i h1 h2 (by omega)
          rw [e1, e2] at this
          exact this
        refine ⟨_, rfl, _, rfl, _, _, rfl, rfl, ra, _, _, .ref a', rfl, rfl, SqL.of hra3, (by rw [ei1]; exact atI_nat hrv'), a', _, ((0 : Nat) : Int), xv', rfl, rfl, ha', atI_nat rfl, _, rfl, _, rfl, ra, _, _, .ref a, rfl, rfl, SqL.of hra3, (by rw [ei]; exact atI_nat hrv), a, _, ((0 : Nat) : Int), xv, rfl, rfl, ha3, atI_nat rfl, p'.map pairK, pk p, plV_key hx', plV_key (hx.mono s3), alike_pk p' p, pk_depth p', _, rfl, ?_⟩
        refine (show ∀ (A B : Prop), B → (if (!PySem.W.dataLt (NestedKey.tup (p'.map pairK)).data (pk p).data) = true then A else B) from fun A B h => by
          have : PySem.W.dataLt (NestedKey.tup (p'.map pairK)).data (pk p).data = true := hlt
          rw [this]; exact h) _ _ ?_
        exact ⟨s2.trans s3, _, rfl⟩
      · refine ifF e ?_
        exact ⟨s2.trans s3, _, rfl⟩
    · rintro σ H2 ⟨s2, v2, rfl⟩
      exact q H2 s2
abbrev s_law_lot : Stmt := top 80
abbrev N_law_lot : List Str := ["boards", "start", "told", "lot", "row", "place", "led_v", "after"]
theorem sc_law_lot : FnScope N_law_lot ["boards", "start", "told"] (C8.fnScope s_law_lot) := C8.fnScope_by (by decide +kernel)
def sp_law_lot (K : PySem.W.Frag) (w : World) : Sp := fun vs H Q _ => ∃ (ba l : Addr) (v : V) (bs : List Bd) (start : Pl) (L : List Pl) (ch : Pl → Int), vs = [.ref ba, v, .ref l] ∧ BdsAt K H ba bs ∧ BdsOk bs ∧ PlV K H v start ∧ LotOk bs start L ch ∧ LotAt K H l ch L ∧
  ∀ d H', Same H H' → DF K w pk H' d L (fun k => .int (ch k)) → Q (.ref d) H'
theorem ok_law_lot {f : Addr} {fd : FuncData} (F : C8.Def K mg "_law_lot" s_law_lot f fd) (b : Binds K fd ["boards", "start", "told"] []) (T : Gb mg) (c__law_ascending : C8.Cal P w K mg base 2 "_law_ascending" (sp_law_ascending K) []) (c__law_able : C8.Cal P w K mg base 1 "_law_able" (sp_law_able K) []) (c__law_led : C8.Cal P w K mg base 2 "_law_led" (sp_law_led K) []) : C8.Cal P w K mg base 3 "_law_lot" (sp_law_lot K w) [] := by
  refine C8.cal0 F b .nil sc_law_lot (fun vs H Q E h => ?_) (fun cdv A outer s H vs Q E hr h => ?_)
  · obtain ⟨ba, l, v, bs, start, L, ch, rfl, _⟩ := h
    rfl
  · obtain ⟨ba, l, v, bs, start, L, ch, rfl, hB, hok, hv, hL, ⟨rvs, hl, hlp⟩, q⟩ := h
    have n2 := hok.n2
    have l1 := hlp.length
    have hnd : L.Nodup := hL.asc.imp fun {a b} h e => by
      subst e
      have h2 : ltPl a a = false := PyProof.Rows.lex_irrefl (O := PyProof.Rows.itemOrd) _
      rw [h2] at h
      cases h
    have hLo : ∀ p ∈ L, okPl bs p := fun p hp => (hL.ok p hp).1
    have hfew := few hok hnd hLo
    refine ⟨_, (pss_cons (ps_if (PW.pt (pw_or (pt_not (pt_val (pe_callB call_isi (by rfl) T.isinstance (by decide +kernel) (pa_cons (pv 2) (pa_cons (pe_bltn (v := .ty "list") (by rfl) T.list (by decide +kernel) rfl) pa_nil))))) (pw_or1 (pt_not (pt_val (C8.pe_c c__law_ascending hr (by decide) (by rfl) (pa_cons (pv 0) (pa_cons (pv 2) pa_nil))))))))
(pss_one (ps_ret pe_non))
pss_nil)
(pss_cons (ps_set (i := 3) sc_law_lot.nd rfl (Or.inr rfl) (pe_newNK (w := w) rfl))
(pss_cons (ps_for PassesOwn.never rfl (pi_listK K rfl (pv 2)) (pg_name (i := 4) sc_law_lot.nd rfl (Or.inl rfl))
(pss_cons (ps_if (PW.pt (pw_or (pt_cmpR op_ne (pe_callB (call_lenK K rfl) (by rfl) T.len PySem.boot_len (pa_cons (pv 4) pa_nil)) pe_int (nomark _)) (pw_or (pt_not (pt_val (pe_callB call_isi (by rfl) T.isinstance (by decide +kernel) (pa_cons (pe_ix (ix_tupK K rfl) (pv 4) pe_int (fun _ _ => rfl)) (pa_cons (pe_bltn (v := .ty "int") (by rfl) T.int (by decide +kernel) rfl) pa_nil))))) (pw_or1 (pt_val (pe_callB call_isi (by rfl) T.isinstance (by decide +kernel) (pa_cons (pe_ix (ix_tupK K rfl) (pv 4) pe_int (fun _ _ => rfl)) (pa_cons (pe_bltn (v := .ty "bool") (by rfl) T.bool (by decide +kernel) rfl) pa_nil))))))))
(pss_one (ps_ret pe_non))
pss_nil)
(pss_one (ps_asg (pe_ix (ix_tupK K rfl) (pv 4) pe_int (fun _ _ => rfl)) (pg_sub (pv 3) (pe_ix (ix_tupK K rfl) (pv 4) pe_int (fun _ _ => rfl)) (set_NK (K := K) (w := w) rfl rfl (Nat.lt_of_le_of_lt (Nat.add_le_add_left (by decide) _) hr.un)))))))
(pss_cons (ps_if (pt_cmpR (op_notInNK (K := K) (w := w) rfl rfl (Nat.lt_of_le_of_lt (Nat.add_le_add_left (by decide) _) hr.un)) (pv 1) (pv 3) rfl)
(pss_one (ps_ret pe_non))
pss_nil)
(pss_cons (ps_lock (ps_for PassesOwn.never rfl (pi_keysN (w := w) rfl (pv 3)) (pg_name (i := 5) sc_law_lot.nd rfl (Or.inl rfl))
(pss_cons (ps_if (pt_cmpR (op_notInK K rfl) (pe_ix (ix_dNK (K := K) (w := w) rfl rfl (Nat.lt_of_le_of_lt (Nat.add_le_add_left (by decide) _) hr.un)) (pv 3) (pv 5) (fun _ _ => rfl)) (C8.pe_c c__law_able hr (by decide) (by rfl) (pa_cons (pv 5) pa_nil)) rfl)
(pss_one (ps_ret pe_non))
pss_nil)
(pss_cons (ps_set (i := 6) sc_law_lot.nd rfl (Or.inl rfl) (C8.pe_c c__law_led hr (by decide) (by rfl) (pa_cons (pv 0) (pa_cons (pv 5) (pa_cons (pe_ix (ix_dNK (K := K) (w := w) rfl rfl (Nat.lt_of_le_of_lt (Nat.add_le_add_left (by decide) _) hr.un)) (pv 3) (pv 5) (fun _ _ => rfl)) pa_nil)))))
(pss_one (ps_if (PW.pt (pw_or (pt_val (pe_ix (ix_listK K rfl) (pv 6) pe_int (fun _ _ => rfl))) (pw_or1 (pt_cmpR op_gt (pe_callB (call_lenK K rfl) (by rfl) T.len PySem.boot_len (pa_cons (pe_lc (own := [("after", 7)]) rfl sc_law_lot.nd (pi_listK K rfl (pe_ix (ix_listK K rfl) (pv 6) pe_int (fun _ _ => rfl))) (blkOk_by (N := N_law_lot) (sc := C8.fnScope s_law_lot) (by decide +kernel)) (fun _ _ _ _ _ => (pg_name (i := 7) sc_law_lot.nd rfl (Or.inl rfl))) (fun _ _ _ _ _ => (pts_one (pt_cmpR (op_notInNK (K := K) (w := w) rfl rfl (Nat.lt_of_le_of_lt (Nat.add_le_add_left (by decide) _) hr.un)) (pv 7) (pv 3) rfl))) (fun _ _ _ _ _ => (pv 7))) pa_nil)) pe_int (nomark _)))))
(pss_one (ps_ret pe_non))
pss_nil))))))
(pss_one (ps_ret (pv 3)))))))), ?_⟩
    refine ⟨_, rfl, .ref l, .ty "list", .type "list", .type "list", true, rfl, .ty _, .base (.lst hl), kit_ty (by decide +kernel), true, rfl, ?_⟩
    refine iteF ?_
    refine ⟨_, rfl, _, rfl, ba, l, bs, rvs, L, rfl, hB, hok, hl, L2.Paired.mapP hlp (fun _ _ => LotV.asc), hLo, hL.asc, by omega, fun H1 s1 => ⟨_, rfl, ?_⟩⟩
    refine iteF ?_
    have hl1 := s1 _ _ hl
    have hlp1 : Paired (LotV K H1 ch) rvs L := L2.Paired.mapP hlp fun _ _ => LotV.tups s1.tups
    intro d hd
    have hdH : H d = none := s1.free hd
    have s2 := same_new (o := DnO w d []) (Same.refl H1) hd
    refine ⟨_, rfl, l, rfl, ⟨_, SqL.of (s2 _ _ hl1)⟩, for_it (walk_list (xs := rvs)) (fun i σ H' => Same H1 H' ∧ DF K w pk H' d (L.take i) (fun k => .int (ch k)) ∧ ∃ v4, σ = [some (.ref ba), some v, some (.ref l), some (.ref d), v4, none, none, none])
      ⟨s2, DF.nil _, _, rfl⟩ (fun i σ H' _ h => SqL.of (h.1 _ _ hl1)) ?_ ?_⟩
    · rintro i x σ H3 H3' hi ⟨s3, df3, v4, rfl⟩ ⟨rfl, hx⟩
      obtain ⟨p, hp, hpv⟩ := paired_at hlp1 hx
      obtain ⟨a, xv, rfl, ha, hxv⟩ := hpv.tups s3.tups
      obtain ⟨xb, xxs, rfl, hxb, hxp⟩ := id hxv
      refine ⟨_, rfl, a, _, rfl, .inr ha, rfl, _, rfl, ?_⟩
      refine ifNF rfl ?_
      refine ⟨_, rfl, a, _, 1, _, rfl, rfl, ha, rfl, .int (ch p), .ty "int", .type "int", .type "int", true, rfl, .ty _, .base (.int _), kit_ty (by decide +kernel), true, rfl, ?_⟩
      refine iteF ?_
      refine ⟨_, rfl, a, _, 1, _, rfl, rfl, ha, rfl, .int (ch p), .ty "bool", .type "int", .type "bool", false, rfl, .ty _, .base (.int _), kit_ty (by decide +kernel), false, rfl, ?_⟩
      refine iteF ?_
      have ltk := List.length_take_le i L
      have hpn := nodup_take hnd hp
      refine ⟨_, rfl, a, _, 1, _, rfl, rfl, ha, rfl, _, rfl, _, rfl, a, _, 0, _, rfl, rfl, ha, rfl, df3.put pk_inj' (plV_key hxv) (pk_depth _) (by omega) fun o df4 t4 => ?_⟩
      rw [addK_new hpn] at df4
      refine ⟨same_mut s3 hd, ?_, _, rfl⟩
      rw [take_snoc hp]
      exact df4.ext fun k _ => by unfold setF; split <;> rename_i e <;> first | rw [e] | rfl
    · rintro σ H3 ⟨s3, df3, v4, rfl⟩
      rw [l1, List.take_length] at df3
      have s03 := s1.trans s3
      obtain ⟨vb, vxs, rfl, hvb, hvp⟩ := id (hv.mono s03)
      refine ⟨_, rfl, _, rfl, df3.notF pk_inj' (plV_key (hv.mono s03)) (pk_depth _) hL.start ⟨_, rfl, ?_⟩⟩
      refine iteF ?_
      obtain ⟨kvs, k1, k2, k3, k4⟩ := id df3
      have lk : kvs.length = L.length := by
        have := congrArg List.length k3
        rw [List.length_map, List.length_map] at this
        exact this
      refine ⟨d, _, k1, trivial, fun od => ?_⟩
      obtain ⟨HL, eL⟩ : ∃ HL, HL = upd H3 d (.frz od (DnO w d kvs)) := ⟨_, rfl⟩
      have hdL : HL d = some (.frz od (DnO w d kvs)) := by rw [eL]; exact upd_same
      have dfL : DFr K w pk HL d L (fun k => .int (ch k)) := ⟨kvs, .inr ⟨od, hdL⟩, by rw [eL]; exact k2.tups (tup_ext k1), k3, k4⟩
      have sH : Same H HL := by rw [eL]; exact same_mut s03 hdH
      rw [← eL]
      refine ⟨_, rfl, d, od, kvs, rfl, hdL, for_it walk_keysN (fun i σ H' => Same HL H' ∧ ∃ v5 v6, σ = [some (.ref ba), some (.ref vb), some (.ref l), some (.ref d), v4, v5, v6, none])
        ⟨Same.refl _, _, _, rfl⟩ (fun i σ H' _ h => h.1 _ _ hdL) ?_ ?_⟩
      · rintro i x σ H4 H4' hi ⟨s4, v5, v6, rfl⟩ ⟨rfl, nk, a, nv, hkv, rfl⟩
        have hk5 : (L.map pk)[i]? = some nk := by rw [← k3, List.getElem?_map, hkv]; rfl
        obtain ⟨p, hp, rfl⟩ := at_map hk5
        have hpL := List.mem_of_getElem? hp
        obtain ⟨hpo, hpa, hpr, hps⟩ := hL.ok p hpL
        have hpl := okPl_len hpo
        have hpv : PlV K H4' (.ref a) p := key_plV ((k2 _ (List.mem_of_getElem? hkv)).up (fun a xs h => s4.tup (by rw [eL]; exact tup_ext k1 _ _ h)))
        have df4 := dfL.same s4
        refine ⟨_, rfl, _, rfl, df4.get hpL (plV_key hpv) (pk_depth _) ?_⟩
        refine ⟨_, rfl, _, p, rfl, hpv, by omega, fun oc H5 s5 hoc hocl => ?_⟩
        refine ⟨oc, _, rfl, .inl (SqL.of hocl), rfl, ints_flat _, _, rfl, ?_⟩
        refine (show ∀ (A B : Prop), B → (if (!inV (.int (ch p)) ((ableI p).map V.int)) = true then A else B) from fun A B h => by rw [inV_ints, decide_eq_true hpa]; exact h) _ _ ?_
        have hpv5 := hpv.mono s5
        have df5 := df4.same s5
        have s45 := s4.trans s5
        refine ⟨_, rfl, _, rfl, _, rfl, _, rfl, df5.get hpL (plV_key hpv5) (pk_depth _) ?_⟩
        refine ⟨ba, .ref a, bs, p, ch p, rfl, hB.mono (sH.trans s45), hpv5, hok, hpo, hpa, fun ll H6 s6 hled => ?_⟩
        obtain ⟨sl, hll, hsl⟩ := hled
        rw [hpr] at hll
        have df6 := df5.same s6
        obtain ⟨zs, hzs, hzp⟩ := hsl
        have lz := hzp.length
        refine ⟨_, rfl, ll, _, 1, _, rfl, rfl, SqL.of hll, rfl, _, rfl, ?_⟩
        refine iteF ?_
        refine ⟨_, rfl, ll, _, 2, _, rfl, rfl, SqL.of hll, rfl, sl, rfl, ⟨_, SqL.of hzs⟩, fun D hD => lc_it (walk_list (xs := zs)) (fun j H' => Same H6 H' ∧ H' D = some (.lst []))
          ⟨same_new (Same.refl _) hD, upd_same⟩ (fun j H' _ h => SqL.of (h.1 _ _ hzs)) ?_ ?_⟩
        · rintro j y H7 H7' hj ⟨s7, h7⟩ ⟨rfl, hy⟩
          obtain ⟨q', hq', hqv⟩ := paired_at hzp hy
          have hqL := hps q' (List.mem_of_getElem? hq')
          obtain ⟨ya, yxs, rfl, hya, hyp⟩ := id (hqv.mono s7)
          refine ⟨rfl, _, rfl, _, rfl, (df6.same s7).notF pk_inj' (plV_key ⟨ya, yxs, rfl, hya, hyp⟩) (pk_depth _) hqL ⟨_, rfl, ?_⟩⟩
          refine iteF ?_
          exact ⟨s7, h7⟩
        · rintro H7 ⟨s7, h7⟩
          refine ⟨D, [], rfl, .inl (SqL.of h7), _, _, rfl, rfl, _, rfl, ?_⟩
          refine ifF (by decide) ?_
          exact ⟨(s45.trans s6).trans s7, _, _, rfl⟩
      · rintro σ H4 ⟨s4, v5, v6, rfl⟩
        have hd4 := s4 _ _ hdL
        refine ⟨hd4, _, rfl, q d _ ?_ ?_⟩
        · refine fun a o e => ?_
          have na : a ≠ d := fun z => by rw [z, hdH] at e; cases e
          rw [upd_ne na]
          exact s4 _ _ (sH a o e)
        · obtain ⟨kvs', j1, j2, j3, j4⟩ := id (dfL.same s4)
          have e : kvs' = kvs' := rfl
          exact ⟨kvs, upd_same, (k2.tups (fun a xs h => s4.tup (by rw [eL]; exact tup_ext k1 _ _ h))).tups (tup_frz hd4), k3, k4⟩
end
end My
namespace My
open PySem L2
/-! ### standings as data -/
section
variable {K : PySem.W.Frag} {H : Hp}
theorem pairV_dp {v : V} {p : Nat × Nat} (h : PairV K H v p) : Dp K H v (pairK p).data := by
  obtain ⟨a, rfl, q⟩ := h
  exact .tup q (.cons (.int _) (.cons (.int _) .nil))
theorem pairs_dp : ∀ {xs : List V} {pl : Pl}, Paired (PairV K H) xs pl → DpAll K H xs (NestedKey.datas (pl.map pairK))
  | _, _, .nil => .nil
  | _, _, .cons h t => .cons (pairV_dp h) (pairs_dp t)
theorem plV_dp {v : V} {p : Pl} (h : PlV K H v p) : Dp K H v (pk p).data := by
  obtain ⟨a, xs, rfl, q, r⟩ := h
  exact .tup q (pairs_dp r)
theorem pls_dp : ∀ {xs : List V} {L : List Pl}, Paired (PlV K H) xs L → DpAll K H xs (L.map fun p => (pk p).data)
  | _, _, .nil => .nil
  | _, _, .cons h t => .cons (plV_dp h) (pls_dp t)
theorem rowsPl_dp {l : Addr} {L : List Pl} (h : RowsPl K H l L) : Dp K H (.ref l) (.list (L.map fun p => (pk p).data)) := let ⟨vs, e, p⟩ := h; .lst (SqL.of e) (pls_dp p)
end
theorem canLay_pairs : ∀ pl : Pl, PyData.canLayAll0 (NestedKey.datas (pl.map pairK)) = true
  | [] => rfl
  | p :: pl => by
    show (PyData.canLay0 (pairK p).data && PyData.canLayAll0 (NestedKey.datas (pl.map pairK))) = true
    rw [canLay_pairs pl]
    rfl
theorem shaped_pl (p : Pl) : SeqAt.shaped (pk p).data = true := by
  have h1 : (pk p).data.canLay0 = true := canLay_pairs p
  have h2 := data_depth (pk p)
  have h3 := pk_depth p
  unfold SeqAt.shaped
  rw [h1, Bool.true_and]
  exact decide_eq_true (by omega)
theorem shaped_pls (L : List Pl) : SeqAt.shaped (.list (L.map fun p => (pk p).data)) = true := by
  have h1 : ∀ L : List Pl, PyData.canLayAll0 (L.map fun p => (pk p).data) = true := fun L => by
    induction L with
    | nil => rfl
    | cons p L ih =>
      show (PyData.canLay0 (pk p).data && PyData.canLayAll0 (L.map fun p => (pk p).data)) = true
      rw [ih, show (pk p).data.canLay0 = true from canLay_pairs p]
      rfl
  have h2 : ∀ L : List Pl, PyData.depthAll (L.map fun p => (pk p).data) ≤ 8 := fun L => by
    induction L with
    | nil => exact Nat.zero_le _
    | cons p L ih =>
      show max (pk p).data.depth (PyData.depthAll (L.map fun p => (pk p).data)) ≤ 8
      have := data_depth (pk p)
      have := pk_depth p
      omega
  have h3 : (PyData.list (L.map fun p => (pk p).data)).canLay0 = true := h1 L
  have h4 : (PyData.list (L.map fun p => (pk p).data)).depth = PyData.depthAll (L.map fun p => (pk p).data) + 1 := rfl
  have h5 := h2 L
  unfold SeqAt.shaped
  rw [h3, Bool.true_and]
  exact decide_eq_true (by omega)
theorem eqv_pl (p : Pl) : PyData.eqv (pk p).data (pk p).data = true := PySem.W.eqv_refl_alike _ (alike_pk p p)
theorem any_pl {L : List Pl} {p : Pl} (h : p ∈ L) : ((L.map fun p => (pk p).data).any fun z => PyData.eqv z (pk p).data) = true := List.any_eq_true.mpr ⟨_, List.mem_map_of_mem h, eqv_pl p⟩
theorem op_notInDK {X : Cx} {K : PySem.W.Frag} (hK : X.K = K) (hu : X.A.units + 65 < cLine) : OpR X (compareOp .NotIn) (rNotInD K) := hK ▸ op_notInD hu
theorem op_notIn_pl {K : PySem.W.Frag} {H : Hp} {v : V} {l : Addr} {p : Pl} {L : List Pl} {Q : VK} (hv : PlV K H v p) (hl : RowsPl K H l L) (h : p ∈ L) (q : Q (.bl false) H) : rNotInD K v (.ref l) H Q := by
  refine ⟨_, _, plV_dp hv, rowsPl_dp hl, shaped_pl p, shaped_pls L, ?_⟩
  rw [any_pl h]
  exact q
theorem asc_nodup {L : List Pl} (h : L.Pairwise fun a b => ltPl a b = true) : L.Nodup := h.imp fun {a b} h e => by
  subst e
  have h2 : ltPl a a = false := PyProof.Rows.lex_irrefl (O := PyProof.Rows.itemOrd) _
  rw [h2] at h
  cases h
/-! ### _law_paper -/
section
variable {P : Program} {w : World} {K : PySem.W.Frag} {mg : Str → Option Value} {base : Heap}
abbrev s_law_paper : Stmt := top 81
abbrev N_law_paper : List Str := ["boards", "start", "told", "rank", "paper", "row", "place", "able", "answers", "k", "led_v"]
theorem sc_law_paper : FnScope N_law_paper ["boards", "start", "told", "rank"] (C8.fnScope s_law_paper) := C8.fnScope_by (by decide +kernel)
def sp_law_paper (K : PySem.W.Frag) (w : World) : Sp := fun vs H Q _ => ∃ (ba l : Addr) (v : V) (bs : List Bd) (start : Pl) (ks R L : List Pl) (rk : Pl → Nat), vs = [.ref ba, v, .ref l, nV (rk start)] ∧ BdsAt K H ba bs ∧ BdsOk bs ∧ PlV K H v start ∧ Ranks bs start ks R rk ∧ L.Pairwise (fun a b => ltPl a b = true) ∧ PapL bs start ks R rk L ∧ PapAt K H l bs R rk L ∧
  ∀ d f H', Same H H' → DF K w pk H' d L f → (∀ k ∈ L, PapV K H' bs R rk (f k) k) → Q (.ref d) H'
theorem ok_law_paper {f : Addr} {fd : FuncData} (F : C8.Def K mg "_law_paper" s_law_paper f fd) (b : Binds K fd ["boards", "start", "told", "rank"] []) (T : Gb mg) (c__law_is : C8.Cal P w K mg base 1 "_law_is" sp_law_is []) (c__law_ascending : C8.Cal P w K mg base 2 "_law_ascending" (sp_law_ascending K) []) (c__law_able : C8.Cal P w K mg base 1 "_law_able" (sp_law_able K) []) (c__law_led : C8.Cal P w K mg base 2 "_law_led" (sp_law_led K) []) : C8.Cal P w K mg base 3 "_law_paper" (sp_law_paper K w) [] := by
  refine C8.cal0 F b .nil sc_law_paper (fun vs H Q E h => ?_) (fun cdv A outer s H vs Q E hr h => ?_)
  · obtain ⟨ba, l, v, bs, start, ks, R, L, rk, rfl, _⟩ := h
    rfl
  · obtain ⟨ba, l, v, bs, start, ks, R, L, rk, rfl, hB, hok, hv, RK, hasc, hL, ⟨rvs, hl, hlp⟩, q⟩ := h
    have n2 := hok.n2
    have l1 := hlp.length
    have hnd := hL.nd
    have hLo : ∀ p ∈ L, okPl bs p := fun p hp => RK.pls p (hL.sub p hp).1
    have hfew := few hok hnd hLo
    refine ⟨_, (pss_cons (ps_if (PW.pt (pw_or (pt_not (pt_val (pe_callB call_isi (by rfl) T.isinstance (by decide +kernel) (pa_cons (pv 2) (pa_cons (pe_bltn (v := .ty "list") (by rfl) T.list (by decide +kernel) rfl) pa_nil))))) (pw_or1 (pt_not (pt_val (C8.pe_c c__law_ascending hr (by decide) (by rfl) (pa_cons (pv 0) (pa_cons (pv 2) pa_nil))))))))
(pss_one (ps_ret pe_non))
pss_nil)
(pss_cons (ps_set (i := 4) sc_law_paper.nd rfl (Or.inl rfl) (pe_newNK (w := w) rfl))
(pss_cons (ps_for PassesOwn.never rfl (pi_listK K rfl (pv 2)) (pg_name (i := 5) sc_law_paper.nd rfl (Or.inl rfl))
(pss_cons (ps_if (PW.pt (pw_or (pt_cmpR op_ne (pe_callB (call_lenK K rfl) (by rfl) T.len PySem.boot_len (pa_cons (pv 5) pa_nil)) pe_int (nomark _)) (pw_or (pt_not (pt_val (pe_callB call_isi (by rfl) T.isinstance (by decide +kernel) (pa_cons (pe_ix (ix_tupK K rfl) (pv 5) pe_int (fun _ _ => rfl)) (pa_cons (pe_bltn (v := .ty "int") (by rfl) T.int (by decide +kernel) rfl) pa_nil))))) (pw_or (pt_val (pe_callB call_isi (by rfl) T.isinstance (by decide +kernel) (pa_cons (pe_ix (ix_tupK K rfl) (pv 5) pe_int (fun _ _ => rfl)) (pa_cons (pe_bltn (v := .ty "bool") (by rfl) T.bool (by decide +kernel) rfl) pa_nil)))) (pw_or (pt_cmpR op_lt (pe_ix (ix_tupK K rfl) (pv 5) pe_int (fun _ _ => rfl)) pe_int (nomark _)) (pw_or1 (pt_not (pt_val (pe_callB call_isi (by rfl) T.isinstance (by decide +kernel) (pa_cons (pe_ix (ix_tupK K rfl) (pv 5) pe_int (fun _ _ => rfl)) (pa_cons (pe_bltn (v := .ty "tuple") (by rfl) T.tuple (by decide +kernel) rfl) pa_nil)))))))))))
(pss_one (ps_ret pe_non))
pss_nil)
(pss_one (ps_asg (pv 5) (pg_sub (pv 4) (pe_ix (ix_tupK K rfl) (pv 5) pe_int (fun _ _ => rfl)) (set_NK (K := K) (w := w) rfl rfl (Nat.lt_of_le_of_lt (Nat.add_le_add_left (by decide) _) hr.un)))))))
(pss_cons (ps_if (PW.pt (pw_or (pt_cmpR (op_notInNK (K := K) (w := w) rfl rfl (Nat.lt_of_le_of_lt (Nat.add_le_add_left (by decide) _) hr.un)) (pv 1) (pv 4) rfl) (pw_or1 (pt_not (pt_val (C8.pe_c c__law_is hr (by decide) (by rfl) (pa_cons (pv 3) (pa_cons (pe_ix (ix_tupK K rfl) (pe_ix (ix_dNK (K := K) (w := w) rfl rfl (Nat.lt_of_le_of_lt (Nat.add_le_add_left (by decide) _) hr.un)) (pv 4) (pv 1) (fun _ _ => rfl)) pe_int (fun _ _ => rfl)) pa_nil))))))))
(pss_one (ps_ret pe_non))
pss_nil)
(pss_cons (ps_lock (ps_for PassesOwn.never rfl (pi_keysN (w := w) rfl (pv 4)) (pg_name (i := 6) sc_law_paper.nd rfl (Or.inl rfl))
(pss_cons (ps_set (i := 7) sc_law_paper.nd rfl (Or.inl rfl) (C8.pe_c c__law_able hr (by decide) (by rfl) (pa_cons (pv 6) pa_nil)))
(pss_cons (ps_set (i := 8) sc_law_paper.nd rfl (Or.inl rfl) (pe_ix (ix_tupK K rfl) (pe_ix (ix_dNK (K := K) (w := w) rfl rfl (Nat.lt_of_le_of_lt (Nat.add_le_add_left (by decide) _) hr.un)) (pv 4) (pv 6) (fun _ _ => rfl)) pe_int (fun _ _ => rfl)))
(pss_cons (ps_if (pt_cmpR op_ne (pe_callB (call_lenK K rfl) (by rfl) T.len PySem.boot_len (pa_cons (pv 8) pa_nil)) (pe_callB (call_lenK K rfl) (by rfl) T.len PySem.boot_len (pa_cons (pv 7) pa_nil)) (nomark _))
(pss_one (ps_ret pe_non))
pss_nil)
(pss_one (ps_for PassesOwn.never rfl (pi_range1 (by rfl) T.range (pa_cons (pe_callB (call_lenK K rfl) (by rfl) T.len PySem.boot_len (pa_cons (pv 7) pa_nil)) pa_nil)) (pg_name (i := 9) sc_law_paper.nd rfl (Or.inl rfl))
(pss_cons (ps_set (i := 10) sc_law_paper.nd rfl (Or.inl rfl) (C8.pe_c c__law_led hr (by decide) (by rfl) (pa_cons (pv 0) (pa_cons (pv 6) (pa_cons (pe_ix (ix_listK K rfl) (pv 7) (pv 9) (fun _ _ => rfl)) pa_nil)))))
(pss_cons (ps_if (pt_cmpR op_ne (pe_cmpR op_isN (pe_ix (ix_tupK K rfl) (pv 8) (pv 9) (fun _ _ => rfl)) pe_non (nomark _)) (pe_ix (ix_listK K rfl) (pv 10) pe_int (fun _ _ => rfl)) (nomark _))
(pss_one (ps_ret pe_non))
pss_nil)
(pss_cons (ps_if (PW.pt (pw_and (pt_cmpR op_notN (pe_ix (ix_tupK K rfl) (pv 8) (pv 9) (fun _ _ => rfl)) pe_non (nomark _)) (pw_and1 (PW.pt (pw_or (pt_cmpR (op_notInDK (K := K) rfl (Nat.lt_of_le_of_lt (Nat.add_le_add_left (by decide) _) hr.un)) (pe_ix (ix_tupK K rfl) (pv 8) (pv 9) (fun _ _ => rfl)) (pe_ix (ix_listK K rfl) (pv 10) pe_int (fun _ _ => rfl)) rfl) (pw_or1 (pt_cmpR (op_notInNK (K := K) (w := w) rfl rfl (Nat.lt_of_le_of_lt (Nat.add_le_add_left (by decide) _) hr.un)) (pe_ix (ix_tupK K rfl) (pv 8) (pv 9) (fun _ _ => rfl)) (pv 4) rfl)))))))
(pss_one (ps_ret pe_non))
pss_nil)
(pss_one (ps_if (PW.pt (pw_and (pt_cmpR op_notN (pe_ix (ix_tupK K rfl) (pv 8) (pv 9) (fun _ _ => rfl)) pe_non (nomark _)) (pw_and1 (pt_cmpR op_ge (pe_ix (ix_tupK K rfl) (pe_ix (ix_dNK (K := K) (w := w) rfl rfl (Nat.lt_of_le_of_lt (Nat.add_le_add_left (by decide) _) hr.un)) (pv 4) (pe_ix (ix_tupK K rfl) (pv 8) (pv 9) (fun _ _ => rfl)) (fun _ _ => rfl)) pe_int (fun _ _ => rfl)) (pe_ix (ix_tupK K rfl) (pe_ix (ix_dNK (K := K) (w := w) rfl rfl (Nat.lt_of_le_of_lt (Nat.add_le_add_left (by decide) _) hr.un)) (pv 4) (pv 6) (fun _ _ => rfl)) pe_int (fun _ _ => rfl)) (nomark _)))))
(pss_one (ps_ret pe_non))
pss_nil))))))))))))
(pss_one (ps_ret (pv 4)))))))), ?_⟩
    refine ⟨_, rfl, .ref l, .ty "list", .type "list", .type "list", true, rfl, .ty _, .base (.lst hl), kit_ty (by decide +kernel), true, rfl, ?_⟩
    refine iteF ?_
    refine ⟨_, rfl, _, rfl, ba, l, bs, rvs, L, rfl, hB, hok, hl, L2.Paired.mapP hlp (fun _ _ => PapV.asc), hLo, hasc, by omega, fun H1 s1 => ⟨_, rfl, ?_⟩⟩
    refine iteF ?_
    have hl1 := s1 _ _ hl
    have hlp1 : Paired (PapV K H1 bs R rk) rvs L := L2.Paired.mapP hlp fun _ _ => PapV.tups s1.tups
    intro d hd
    have hdH : H d = none := s1.free hd
    have s2 := same_new (o := DnO w d []) (Same.refl H1) hd
    refine ⟨_, rfl, l, rfl, ⟨_, SqL.of (s2 _ _ hl1)⟩, for_it (walk_list (xs := rvs)) (fun i σ H' => Same H1 H' ∧ (∃ f, DF K w pk H' d (L.take i) f ∧ ∀ k ∈ L.take i, PapV K H1 bs R rk (f k) k) ∧ ∃ v5, σ = [some (.ref ba), some v, some (.ref l), some (nV (rk start)), some (.ref d), v5, none, none, none, none, none])
      ⟨s2, ⟨fun _ => .non, DF.nil _, fun k hk => (nomatch hk)⟩, _, rfl⟩ (fun i σ H' _ h => SqL.of (h.1 _ _ hl1)) ?_ ?_⟩
    · rintro i x σ H3 H3' hi ⟨s3, ⟨ff, df3, hff⟩, v5, rfl⟩ ⟨rfl, hx⟩
      obtain ⟨p, hp, hpv⟩ := paired_at hlp1 hx
      obtain ⟨a, xv, aa, axs, rfl, ha, hxv, haa, hax⟩ := hpv.tups s3.tups
      obtain ⟨xb, xxs, rfl, hxb, hxp⟩ := id hxv
      have hpL := List.mem_of_getElem? hp
      have hr1 := (RK.ok.low p (hL.sub p hpL).2).1
      refine ⟨_, rfl, a, _, rfl, .inr ha, rfl, _, rfl, ?_⟩
      refine ifNF rfl ?_
      refine ⟨_, rfl, a, _, 1, _, rfl, rfl, ha, rfl, nV (rk p), .ty "int", .type "int", .type "int", true, rfl, .ty _, .base (.int _), kit_ty (by decide +kernel), true, rfl, ?_⟩
      refine iteF ?_
      refine ⟨_, rfl, a, _, 1, _, rfl, rfl, ha, rfl, nV (rk p), .ty "bool", .type "int", .type "bool", false, rfl, .ty _, .base (.int _), kit_ty (by decide +kernel), false, rfl, ?_⟩
      refine iteF ?_
      refine ⟨_, rfl, a, _, 1, _, rfl, rfl, ha, rfl, _, _, rfl, rfl, _, rfl, ?_⟩
      refine ifF (by omega) ?_
      refine ⟨_, rfl, a, _, 2, _, rfl, rfl, ha, rfl, .ref aa, .ty "tuple", .type "tuple", .type "tuple", true, rfl, .ty _, tyX_tup haa, kit_ty (by decide +kernel), true, rfl, ?_⟩
      refine iteF ?_
      have ltk := List.length_take_le i L
      have hpn := nodup_take hnd hp
      refine ⟨_, rfl, _, rfl, _, rfl, a, _, 0, _, rfl, rfl, ha, rfl, df3.put pk_inj' (plV_key hxv) (pk_depth _) (by omega) fun o df4 t4 => ?_⟩
      rw [addK_new hpn] at df4
      refine ⟨same_mut s3 hd, ⟨_, by rw [take_snoc hp]; exact df4, fun k hk => ?_⟩, _, rfl⟩
      rw [take_snoc hp] at hk
      unfold setF
      by_cases e : k = p
      · rw [if_pos e, e]; exact hpv
      · rw [if_neg e]
        rcases List.mem_append.mp hk with hk | hk
        · exact hff k hk
        · rw [List.mem_singleton] at hk; exact absurd hk e
    · rintro σ H3 ⟨s3, ⟨ff, df3, hff⟩, v5, rfl⟩
      rw [l1, List.take_length] at df3 hff
      have s03 := s1.trans s3
      obtain ⟨vb, vxs, rfl, hvb, hvp⟩ := id (hv.mono s03)
      refine ⟨_, rfl, _, rfl, df3.notF pk_inj' (plV_key (hv.mono s03)) (pk_depth _) hL.start ⟨_, rfl, ?_⟩⟩
      refine iteF ?_
      obtain ⟨sa0, sxv, saa, saxs, esf, hsa, hsxv, hsaa, hsax⟩ := (hff start hL.start).tups s3.tups
      refine ⟨_, rfl, _, rfl, _, rfl, df3.get hL.start (plV_key (hv.mono s03)) (pk_depth _) ?_⟩
      rw [esf]
      refine ⟨sa0, _, 1, _, rfl, rfl, hsa, rfl, _, rfl, _, rfl, ?_⟩
      refine iteF ?_
      obtain ⟨kvs, k1, k2, k3, k4⟩ := id df3
      refine ⟨d, _, k1, trivial, fun od => ?_⟩
      obtain ⟨HL, eL⟩ : ∃ HL, HL = upd H3 d (.frz od (DnO w d kvs)) := ⟨_, rfl⟩
      have hdL : HL d = some (.frz od (DnO w d kvs)) := by rw [eL]; exact upd_same
      have dfL : DFr K w pk HL d L ff := ⟨kvs, .inr ⟨od, hdL⟩, by rw [eL]; exact k2.tups (tup_ext k1), k3, k4⟩
      have sH : Same H HL := by rw [eL]; exact same_mut s03 hdH
      have s1L : Same H1 HL := by rw [eL]; exact same_mut s3 hd
      rw [← eL]
      refine ⟨_, rfl, d, od, kvs, rfl, hdL, for_it walk_keysN (fun i σ H' => Same HL H' ∧ ∃ v6 v7 v8 v9 v10, σ = [some (.ref ba), some (.ref vb), some (.ref l), some (nV (rk start)), some (.ref d), v5, v6, v7, v8, v9, v10])
        ⟨Same.refl _, _, _, _, _, _, rfl⟩ (fun i σ H' _ h => h.1 _ _ hdL) ?_ ?_⟩
      · rintro i x σ H4 H4' hi ⟨s4, v6, v7, v8, v9, v10, rfl⟩ ⟨rfl, nk, a, nv, hkv, rfl⟩
        have hk5 : (L.map pk)[i]? = some nk := by rw [← k3, List.getElem?_map, hkv]; rfl
        obtain ⟨p, hp, rfl⟩ := at_map hk5
        have hpL := List.mem_of_getElem? hp
        obtain ⟨hpk, hpR⟩ := hL.sub p hpL
        have hpo := RK.pls p hpk
        have hpl := okPl_len hpo
        have hpv : PlV K H4' (.ref a) p := key_plV ((k2 _ (List.mem_of_getElem? hkv)).up (fun a xs h => s4.tup (by rw [eL]; exact tup_ext k1 _ _ h)))
        have df4 := dfL.same s4
        refine ⟨_, rfl, _, p, rfl, hpv, by omega, fun oc H5 s5 hoc hocl => ?_⟩
        have s45 := s4.trans s5
        have hpv5 := hpv.mono s5
        have df5 := df4.same s5
        have lable := able_len p
        obtain ⟨ra, xv, aa, axs, er, hra, hxv, haa, hax⟩ := (hff p hpL).tups (s1L.trans s45).tups
        have lax := hax.length
        have lpk : (picksF bs R rk p).length = (rowF bs p).length := List.length_map _
        have lrow : (rowF bs p).length = (ableI p).length := List.length_map _
        refine ⟨_, rfl, _, rfl, df5.get hpL (plV_key hpv5) (pk_depth _) ?_⟩
        rw [er]
        refine ⟨ra, _, 2, _, rfl, rfl, hra, rfl, ?_⟩
        refine ⟨_, rfl, aa, _, rfl, .inr haa, _, rfl, oc, _, rfl, .inl (SqL.of hocl), rfl, _, rfl, ?_⟩
        refine ifNF (by rw [lax, lpk, lrow, List.length_map]) ?_
        refine ⟨_, rfl, oc, _, rfl, .inl (SqL.of hocl), (((ableI p).map V.int).length : Int), rfl, by rw [List.length_map]; omega, by rw [List.length_map]; omega, for_it (walk_range (lo := 0) (n := (((ableI p).map V.int).length : Int).toNat)) (fun j σ H' => Same H5 H' ∧ ∃ v9 v10, σ = [some (.ref ba), some (.ref vb), some (.ref l), some (nV (rk start)), some (.ref d), v5, some (.ref a), some (.ref oc), some (.ref aa), v9, v10])
          ⟨Same.refl _, _, _, rfl⟩ (fun _ _ _ _ _ => trivial) ?_ ?_⟩
        · rintro j x σ H6 H6' hj ⟨s6, v9', v10', rfl⟩ ⟨rfl, rfl⟩
          have hj : j < (ableI p).length := by rw [List.length_map] at hj; omega
          have ej : (0 : Int) + (j : Int) = (j : Int) := Int.zero_add _
          obtain ⟨c, hc⟩ := at_ex hj
          have hcm := List.mem_of_getElem? hc
          have hrow : (rowF bs p)[j]? = some (ledF bs p c) := by unfold rowF; rw [List.getElem?_map, hc]; rfl
          have hrm := List.mem_of_getElem? hrow
          have hpick : (picksF bs R rk p)[j]? = some (pickF R rk (ledF bs p c)) := by unfold picksF; rw [List.getElem?_map, hrow]; rfl
          obtain ⟨av, hav, havV⟩ := paired_at2 hax hpick
          have s46 := s45.trans s6
          refine ⟨_, rfl, _, rfl, _, rfl, _, rfl, oc, _, _, .int c, rfl, rfl, SqL.of (s6 _ _ hocl), (by rw [ej]; exact atI_nat (by rw [List.getElem?_map, hc]; rfl)), ba, .ref a, bs, p, c, rfl, hB.mono (sH.trans s46), hpv5.mono s6, hok, hpo, hcm, fun ll H7 s7 hled => ?_⟩
          obtain ⟨sl, hll, hsl⟩ := hled
          have s57 := s6.trans s7
          have haa7 := s57.tup haa
          have df7 := df5.same s57
          have havV7 := havV.tups s57.tups
          have hpv7 := hpv5.mono s57
          have hra7 := s57.tup hra
          obtain ⟨pk1, pk2⟩ := RK.ok.pick hpR hrm
          have hav7 := havV7
          refine ⟨_, rfl, _, rfl, aa, _, _, av, rfl, rfl, haa7, (by rw [ej]; exact atI_nat hav), rfl, ?_⟩
          refine ⟨_, rfl, ll, _, 1, _, rfl, rfl, SqL.of hll, rfl, rfl, _, rfl, ?_⟩
          cases hb : (ledF bs p c).1 with
          | true =>
            rw [pk1 hb] at havV7
            have e : av = .non := havV7
            subst e
            refine ifNF rfl ?_
            refine ⟨_, rfl, _, rfl, aa, _, _, .non, rfl, rfl, haa7, (by rw [ej]; exact atI_nat hav), rfl, _, rfl, ?_⟩
            refine ifNF rfl ?_
            refine ⟨_, rfl, _, rfl, aa, _, _, .non, rfl, rfl, haa7, (by rw [ej]; exact atI_nat hav), rfl, _, rfl, ?_⟩
            refine ifNF rfl ?_
            exact ⟨s57, _, _, rfl⟩
          | false =>
            obtain ⟨q', eq', hq1, hq2, hq3⟩ := pk2 hb
            rw [eq'] at havV7
            have havV7 : PlV K H7 av q' := havV7
            have hqL : q' ∈ L := hL.closed p hpL q' (by unfold picksF; exact List.mem_map.mpr ⟨_, hrm, eq'⟩)
            obtain ⟨ya, yxs, rfl, hya, hyp⟩ := id havV7
            obtain ⟨qa, qxv, qaa, qaxs, eqf, hqa, hqxv, hqaa, hqax⟩ := (hff q' hqL).tups (s1L.trans (s45.trans s57)).tups
            have nn : ¬ V.ref ya = V.non := fun z => nomatch z
            have ed : decide (V.ref ya = V.non) = false := decide_eq_false nn
            refine ifNF (by rw [ed]) ?_
            refine ⟨_, rfl, _, rfl, aa, _, _, .ref ya, rfl, rfl, haa7, (by rw [ej]; exact atI_nat hav), rfl, _, rfl, ?_⟩
            refine ifNT nn ?_
            refine ⟨_, rfl, _, rfl, aa, _, _, .ref ya, rfl, rfl, haa7, (by rw [ej]; exact atI_nat hav), _, rfl, ll, _, 2, _, rfl, rfl, SqL.of hll, rfl, op_notIn_pl havV7 hsl hq1 ⟨_, rfl, ?_⟩⟩
            refine iteF ?_
            refine ⟨_, rfl, _, rfl, aa, _, _, .ref ya, rfl, rfl, haa7, (by rw [ej]; exact atI_nat hav), _, rfl, df7.notF pk_inj' (plV_key havV7) (pk_depth _) hqL ⟨_, rfl, ?_⟩⟩
            refine iteF ?_
            refine ⟨_, rfl, _, rfl, aa, _, _, .ref ya, rfl, rfl, haa7, (by rw [ej]; exact atI_nat hav), rfl, _, rfl, ?_⟩
            refine ifNT nn ?_
            refine ⟨_, rfl, _, rfl, _, rfl, aa, _, _, .ref ya, rfl, rfl, haa7, (by rw [ej]; exact atI_nat hav), df7.get hqL (plV_key havV7) (pk_depth _) ?_⟩
            rw [eqf]
            refine ⟨qa, _, 1, _, rfl, rfl, hqa, rfl, _, rfl, _, rfl, df7.get hpL (plV_key hpv7) (pk_depth _) ?_⟩
            rw [er]
            refine ⟨ra, _, 1, _, rfl, rfl, hra7, rfl, _, _, rfl, rfl, _, rfl, ?_⟩
            refine ifF (by omega) ?_
            exact ⟨s57, _, _, rfl⟩
        · rintro σ H6 ⟨s6, v9', v10', rfl⟩
          exact ⟨s45.trans s6, _, _, _, _, _, rfl⟩
      · rintro σ H4 ⟨s4, v6, v7, v8, v9, v10, rfl⟩
        have hd4 := s4 _ _ hdL
        have sF : Same H (upd H4 d (DnO w d kvs)) := fun a o e => by
          have na : a ≠ d := fun z => by rw [z, hdH] at e; cases e
          rw [upd_ne na]
          exact s4 _ _ (sH a o e)
        refine ⟨hd4, _, rfl, q d ff _ sF ?_ fun k hk => ?_⟩
        · exact ⟨kvs, upd_same, (k2.tups (fun a xs h => s4.tup (by rw [eL]; exact tup_ext k1 _ _ h))).tups (tup_frz hd4), k3, k4⟩
        · exact ((hff k hk).tups (s1L.trans s4).tups).tups (tup_frz hd4)
end
end My
namespace My
open PySem L2
/-! ### what led says of each board -/
theorem ledI_risk {bs : List Bd} {pl : Pl} (hl : pl.length = bs.length) {c : Int} {t : Nat} : ∀ {n : Nat}, n ≤ bs.length → (ledI bs pl c t n).1 = false → ∀ i b p, i < n → bs[i]? = some b → pl[i]? = some p → (passedF b p (decide ((i : Int) = c)) t).1 = false
  | 0, _, _, i, _, _, hi, _, _ => absurd hi (Nat.not_lt_zero _)
  | n + 1, hn, h, i, b, p, hi, hb, hp => by
    obtain ⟨b', hb'⟩ := at_ex (l := bs) (i := n) (by omega)
    obtain ⟨p', hp'⟩ := at_ex (l := pl) (i := n) (by omega)
    rw [ledI_succ hb' hp'] at h
    have h := Bool.or_eq_false_iff.mp h
    by_cases e : i = n
    · subst e
      rw [hb] at hb'
      rw [hp] at hp'
      cases hb'
      cases hp'
      exact h.2
    · exact ledI_risk hl (by omega) h.1 i b p (by omega) hb hp
theorem ledI_risky {bs : List Bd} {pl : Pl} (hl : pl.length = bs.length) {c : Int} {t : Nat} : ∀ {n : Nat}, n ≤ bs.length → (ledI bs pl c t n).1 = true → ∃ i b p, i < n ∧ bs[i]? = some b ∧ pl[i]? = some p ∧ (passedF b p (decide ((i : Int) = c)) t).1 = true
  | 0, _, h => by cases h
  | n + 1, hn, h => by
    obtain ⟨b', hb'⟩ := at_ex (l := bs) (i := n) (by omega)
    obtain ⟨p', hp'⟩ := at_ex (l := pl) (i := n) (by omega)
    rw [ledI_succ hb' hp'] at h
    rcases Bool.or_eq_true_iff.mp h with h | h
    · obtain ⟨i, b, p, h1, h2⟩ := ledI_risky hl (by omega) h
      exact ⟨i, b, p, by omega, h2⟩
    · exact ⟨n, b', p', by omega, hb', hp', h⟩
theorem ledI_at {bs : List Bd} {pl : Pl} (hl : pl.length = bs.length) {c : Int} {t : Nat} : ∀ {n : Nat}, n ≤ bs.length → ∀ r ∈ (ledI bs pl c t n).2, ∀ i b p, i < n → bs[i]? = some b → pl[i]? = some p → ∃ q, r[i]? = some q ∧ q ∈ (passedF b p (decide ((i : Int) = c)) t).2
  | 0, _, _, _, i, _, _, hi, _, _ => absurd hi (Nat.not_lt_zero _)
  | n + 1, hn, r, hr, i, b, p, hi, hb, hp => by
    obtain ⟨b', hb'⟩ := at_ex (l := bs) (i := n) (by omega)
    obtain ⟨p', hp'⟩ := at_ex (l := pl) (i := n) (by omega)
    rw [ledI_succ hb' hp'] at hr
    obtain ⟨r0, h0, hr⟩ := List.mem_flatMap.mp hr
    obtain ⟨q, hq, rfl⟩ := List.mem_map.mp hr
    have lr := ledI_row hl (by omega) r0 h0
    by_cases e : i = n
    · subst e
      rw [hb] at hb'
      rw [hp] at hp'
      cases hb'
      cases hp'
      exact ⟨q, by rw [List.getElem?_append_right (by omega), lr, Nat.sub_self]; rfl, hq⟩
    · obtain ⟨q', h1, h2⟩ := ledI_at hl (by omega) r0 h0 i b p (by omega) hb hp
      exact ⟨q', by rw [List.getElem?_append_left (by omega)]; exact h1, h2⟩
theorem passed_some {b : Bd} (o : b.Ok) {p : S2} (hp : okP b p) {c : Bool} {t : Nat} (h : (passedF b p c t).1 = false) : (passedF b p c t).2 ≠ [] := by
  unfold passedF at h ⊢
  rcases hp with ⟨h1, h2⟩ | ⟨h1, h2⟩
  · have e1 : ¬ p.1 = 1 := by omega
    rw [if_neg e1] at h ⊢
    split at h
    · cases h
    · rename_i e
      rw [if_neg e]
      split <;> exact List.cons_ne_nil _ _
  · rw [if_pos h1] at h ⊢
    have h : ansF b p.2 t t = false := h
    show ansP b p.2 t t ++ (if p.2 + t < b.late then [(1, p.2 + t)] else []) ≠ []
    by_cases e : p.2 + t < b.late
    · rw [if_pos e]; simp
    · rw [if_neg e, List.append_nil]
      have o1 := o.s2
      have hm : (0, t - ((b.late - p.2 - 1) + 1)) ∈ ansP b p.2 t t := by
        refine List.mem_map.mpr ⟨b.late - p.2 - 1, List.mem_filter.mpr ⟨List.mem_range.mpr (by omega), ?_⟩, rfl⟩
        have hin : ansIn b p.2 (b.late - p.2 - 1 + 1) = true := by
          unfold ansIn
          rw [decide_eq_true (show b.soon ≤ p.2 + (b.late - p.2 - 1 + 1) by omega), decide_eq_true (show p.2 + (b.late - p.2 - 1 + 1) ≤ b.late by omega)]
          rfl
        rw [hin, Bool.true_and]
        refine decide_eq_true (Nat.not_lt.mp fun z => ?_)
        have : ansF b p.2 t t = true := List.any_eq_true.mpr ⟨b.late - p.2 - 1, List.mem_range.mpr (by omega), by rw [hin, Bool.true_and]; exact decide_eq_true z⟩
        rw [h] at this
        cases this
      exact List.ne_nil_of_mem hm
theorem ledI_some {bs : List Bd} (hok : BdsOk bs) {pl : Pl} (ho : okPl bs pl) {c : Int} {t : Nat} : ∀ {n : Nat}, n ≤ bs.length → (ledI bs pl c t n).1 = false → (ledI bs pl c t n).2 ≠ []
  | 0, _, _ => List.cons_ne_nil _ _
  | n + 1, hn, h => by
    have hl := okPl_len ho
    obtain ⟨b, hb⟩ := at_ex (l := bs) (i := n) (by omega)
    obtain ⟨p, hp⟩ := at_ex (l := pl) (i := n) (by omega)
    rw [ledI_succ hb hp] at h ⊢
    have h := Bool.or_eq_false_iff.mp h
    have h1 := ledI_some hok ho (by omega) h.1
    have h2 := passed_some (hok.ok b (List.mem_of_getElem? hb)) (okPl_at ho hb hp) h.2
    obtain ⟨r, hr⟩ := List.exists_mem_of_ne_nil _ h1
    obtain ⟨q, hq⟩ := List.exists_mem_of_ne_nil _ h2
    exact List.ne_nil_of_mem (List.mem_flatMap.mpr ⟨r, hr, List.mem_map.mpr ⟨q, hq, rfl⟩⟩)
/-- a choice without risk -/
theorem led_some {bs : List Bd} (hok : BdsOk bs) {pl : Pl} (ho : okPl bs pl) {c : Int} (h : (ledF bs pl c).1 = false) : 0 < (ledF bs pl c).2.length := by
  have h1 := ledI_some hok ho (Nat.le_refl _) h
  have h2 : (ledF bs pl c).2.length = (ledI bs pl c (ticksF bs c) bs.length).2.length := List.length_mergeSort _
  rw [h2]
  exact List.length_pos_iff.mpr h1
theorem led_at {bs : List Bd} {pl : Pl} (ho : okPl bs pl) {c : Int} {r : Pl} (h : r ∈ (ledF bs pl c).2) {i : Nat} {b : Bd} {p : S2} (hb : bs[i]? = some b) (hp : pl[i]? = some p) : ∃ q, r[i]? = some q ∧ q ∈ (passedF b p (decide ((i : Int) = c)) (ticksF bs c)).2 :=
  ledI_at (okPl_len ho) (Nat.le_refl _) r ((List.mergeSort_perm _ _).mem_iff.mp h) i b p (List.getElem?_eq_some_iff.mp hb).1 hb hp
theorem led_hand {bs : List Bd} {pl : Pl} (ho : okPl bs pl) {c : Int} (h : (ledF bs pl c).1 = false) {i : Nat} {b : Bd} {p : S2} (hb : bs[i]? = some b) (hp : pl[i]? = some p) (h0 : p.1 = 0) : p.2 + ticksF bs c ≤ b.limit := by
  have h1 := ledI_risk (okPl_len ho) (Nat.le_refl _) h i b p (List.getElem?_eq_some_iff.mp hb).1 hb hp
  unfold passedF at h1
  rw [if_neg (show ¬ p.1 = 1 by omega)] at h1
  by_cases e : b.limit < p.2 + ticksF bs c
  · rw [if_pos e] at h1; cases h1
  · omega
/-- how a pair goes on -/
theorem passed_hand {b : Bd} {p q : S2} {c : Bool} {t : Nat} (h : q ∈ (passedF b p c t).2) (h0 : p.1 = 0) (hq : q.1 = 0) : q.2 = p.2 + t := by
  unfold passedF at h
  rw [if_neg (show ¬ p.1 = 1 by omega)] at h
  split at h
  · cases h
  · split at h
    · rw [List.mem_singleton] at h
      rw [h] at hq
      cases hq
    · rw [List.mem_singleton] at h
      rw [h]
/-! ### _law_clocks, _law_bears -/
structure MakK (P : Program) (w : World) (K : PySem.W.Frag) (mg : Str → Option Value) (base : Heap) (k : Nat) (x : Str) (C : Addr) (n : Nat) (ks : List Str) (sp : Sp) : Prop where
  ex : ∃ (f : Addr) (fd : FuncData) (ps : List Str), Mk K C f ∧ FnOk P w K mg base C8.CX0 k f fd ps sp ∧ mg x = some (.ref C) ∧ KBn K fd ps (n + 1) ks (fun us ws => us ++ ws) (fun vs zs => vs ++ zs)
theorem off_same {K : PySem.W.Frag} {H H' H'' : Hp} {X : List Addr} (s : Same H H') (t : Off K X H' H'') (n : ∀ a ∈ X, H a = none) : Same H H'' := fun b o e => t.same b o (fun z => by rw [n b z] at e; cases e) (s b o e)
section
variable {P : Program} {w : World} {K : PySem.W.Frag} {mg : Str → Option Value} {base : Heap}
abbrev s_law_clocks : Stmt := top 82
abbrev N_law_clocks : List Str := ["boards", "books", "board", "book"]
theorem sc_law_clocks : FnScope N_law_clocks ["boards"] (C8.fnScope s_law_clocks) := C8.fnScope_by (by decide +kernel)
/-- the clocks stand at ps, one for each board -/
def Clks (K : PySem.W.Frag) (CC CB : Addr) (H : Hp) (l : Addr) (ps : List Addr) (bs : List Bd) : Prop := H l = some (.lst (ps.map V.ref)) ∧ ps.Nodup ∧ ps.length = bs.length ∧ ∀ (i : Nat) (p : Addr) (b : Bd), ps[i]? = some p → bs[i]? = some b → ClkAt K CC CB H p b.limit (-1)
def sp_law_clocks (K : PySem.W.Frag) (CC CB : Addr) : Sp := fun vs H Q _ => ∃ (ba : Addr) (bs : List Bd), vs = [.ref ba] ∧ BdsAt K H ba bs ∧ BdsLaw bs ∧
  ∀ l ps H', Same H H' → H l = none → (∀ p ∈ ps, H p = none) → Clks K CC CB H' l ps bs → Q (.ref l) H'
theorem ok_law_clocks {CC CB f : Addr} {fd : FuncData} (F : C8.Def K mg "_law_clocks" s_law_clocks f fd) (b : Binds K fd ["boards"] []) (T : Gb mg) (c_japanese : C8.Cal P w K mg base 2 "japanese" sp_japanese []) (c_Book : C8.Mak P w K mg base 5 "Book" CB (sp_Book K CB) []) (k_Clock : MakK P w K mg base 3 "Clock" CC 2 ["phase"] (sp_ClockK K CC CB)) : C8.Cal P w K mg base 7 "_law_clocks" (sp_law_clocks K CC CB) [] := by
  obtain ⟨fc, fdc, psc, Mc, Fc, mgc, kbc⟩ := k_Clock.ex
  refine C8.cal0 F b .nil sc_law_clocks (fun vs H Q E h => ?_) (fun cdv A outer s H vs Q E hr h => ?_)
  · obtain ⟨ba, bs, rfl, _⟩ := h
    rfl
  · obtain ⟨ba, bs, rfl, hB, hbs, q⟩ := h
    obtain ⟨xs, hxs, hxp⟩ := hB.ex
    have l1 := hxp.length
    have n2 := hbs.ok.n2
    refine ⟨_, (pss_cons (ps_setLc (i := 1) (own := [("board", 2)]) rfl sc_law_clocks.nd rfl rfl (sw_true rfl rfl rfl (by decide +kernel)) (pi_listK K rfl (pv 0)) (blkOk_by (N := N_law_clocks) (sc := C8.fnScope s_law_clocks) (by decide +kernel)) (fun _ _ _ _ _ => (pg_name (i := 2) sc_law_clocks.nd rfl (Or.inl rfl))) (fun _ _ _ _ _ => pts_nil) (fun _ _ _ _ _ => (C8.pe_mk c_Book hr (by decide) (by rfl) (pa_cons pe_str (pa_cons pe_int (pa_cons (pe_lst pa_nil) (pa_cons (C8.pe_c c_japanese hr (by decide) (by rfl) (pa_cons pe_int (pa_cons (pe_ix (ix_tupK K rfl) (pv 2) pe_int (fun _ _ => rfl)) pa_nil))) pa_nil)))))))
(pss_one (ps_ret (pe_lc (own := [("book", 3)]) rfl sc_law_clocks.nd (pi_listK K rfl (pv 1)) (blkOk_by (N := N_law_clocks) (sc := C8.fnScope s_law_clocks) (by decide +kernel)) (fun _ _ _ _ _ => (pg_name (i := 3) sc_law_clocks.nd rfl (Or.inl rfl))) (fun _ _ _ _ _ => pts_nil) (fun _ _ _ _ _ => (pe_makeK (E := C8.E0) Mc Fc (hr.mono (by decide)) (by rfl) mgc kbc C8.pass0 (pa_cons (pv 3) (pa_cons pe_int pa_nil)) (pk_cons (pe_tup (pa_cons (pe_un un_neg pe_int) (pa_cons pe_int pa_nil))) pk_nil))))))), ?_⟩
    refine ⟨_, rfl, ba, rfl, ⟨_, hxs⟩, fun D hD => lc_it (walk_list (xs := xs)) (fun i H' => Same H H' ∧ ∃ qs : List Addr, H' D = some (.lst (qs.map V.ref)) ∧ qs.length = i ∧ ∀ (j : Nat) (p : Addr) (b : Bd), qs[j]? = some p → bs[j]? = some b → BookAt K CB H' p b.limit)
      ⟨same_new (Same.refl _) hD, [], upd_same, rfl, fun j p b h => by simp at h⟩ (fun i H' _ h => h.1.seq hxs) ?_ ?_⟩
    · rintro i x H1 H1' hi ⟨s1, qs, hqs, hql, hqb⟩ ⟨rfl, hx⟩
      obtain ⟨bd, hbd, ⟨bda, rfl, hbda⟩⟩ := paired_at hxp hx
      have hbo := hbs.ok.ok bd (List.mem_of_getElem? hbd)
      have hb1 := hbo.l1
      have hb9 := hbs.lim bd (List.mem_of_getElem? hbd)
      refine ⟨rfl, yes_go ?_⟩
      refine ⟨by show 0 ≤ sizeLine; decide, fun e he => ?_⟩
      have s2 := same_new (o := .lst []) (Same.refl H1') he
      have he2 : upd H1' e (.lst []) e = some (.lst []) := upd_same
      generalize upd H1' e (.lst []) = H2 at s2 he2 ⊢
      refine ⟨_, rfl, bda, _, 1, _, rfl, rfl, (s1.trans s2).tup hbda, rfl, bd.limit, rfl, hb1, by omega, fun jl jr H3 s3 hjl hjl3 hjr3 => ?_⟩
      intro p dp np ndp ndpp
      have s4 : Same H3 (upd (upd H3 dp (.own p)) p (.ins CB dp [])) := same_new (same_new (Same.refl H3) ndp) ((upd_ne (Ne.symm ndpp)).trans np)
      have hp4 : upd (upd H3 dp (.own p)) p (.ins CB dp []) p = some (.ins CB dp []) := upd_same
      generalize upd (upd H3 dp (.own p)) p (.ins CB dp []) = H4 at s4 hp4 ⊢
      refine ⟨p, dp, e, jl, jr, bd.limit, rfl, hp4, s4 _ _ (s3 _ _ he2), s4 _ _ hjl3, s4 _ _ hjr3, fun H5 o5 hB5 => ⟨rfl, ?_⟩⟩
      have s35 : Same H3 H5 := off_same s4 o5 fun a ha => by rw [List.mem_singleton] at ha; rw [ha]; exact np
      have s15 : Same H1' H5 := (s2.trans s3).trans s35
      have hqs5 := s15 _ _ hqs
      refine ⟨_, hqs5, size_lt (by rw [List.length_map]; omega), same_mut (s1.trans s15) hD, qs ++ [p], by rw [List.map_append]; exact upd_same, by rw [List.length_append, hql]; rfl, fun j q' b' hj hb' => ?_⟩
      have nD : ∀ {a : Addr} {L : Nat}, BookAt K CB H5 a L → BookAt K CB (upd H5 D (.lst (qs.map V.ref ++ [.ref p]))) a L := fun {a L} h => h.off (X := [D]) ⟨fun a o n e => (upd_ne (fun z => n (List.mem_singleton.mpr z))).trans e, tup_lst hqs5⟩ (fun z => by
        rw [List.mem_singleton] at z
        obtain ⟨_, _, _, _, e, _⟩ := h.ex
        rw [z, hqs5] at e
        cases e)
      by_cases ej : j < qs.length
      · rw [List.getElem?_append_left ej] at hj
        exact nD ((hqb j q' b' hj hb').mono s15)
      · have ej2 : j = qs.length := by
          have := (List.getElem?_eq_some_iff.mp hj).1
          rw [List.length_append, List.length_singleton] at this
          omega
        subst ej2
        rw [List.getElem?_append_right (Nat.le_refl _), Nat.sub_self] at hj
        have hj : some p = some q' := hj
        cases hj
        rw [hql, hbd] at hb'
        cases hb'
        exact nD hB5
    · rintro H1 ⟨s1, qs, hqs, hql, hqb⟩
      refine ⟨_, rfl, D, rfl, ⟨_, SqL.of hqs⟩, fun D2 hD2 => lc_it (walk_list (xs := qs.map V.ref)) (fun i H' => Same H1 H' ∧ ∃ ps : List Addr, H' D2 = some (.lst (ps.map V.ref)) ∧ ps.length = i ∧ ps.Nodup ∧ (∀ p ∈ ps, H1 p = none) ∧ ∀ (j : Nat) (p : Addr) (b : Bd), ps[j]? = some p → bs[j]? = some b → ClkAt K CC CB H' p b.limit (-1))
        ⟨same_new (Same.refl _) hD2, [], upd_same, rfl, List.nodup_nil, fun p hp => (nomatch hp), fun j p b h => by simp at h⟩ (fun i H' _ h => SqL.of (h.1 _ _ hqs)) ?_ ?_⟩
      · rintro i x H2 H2' hi ⟨s2, ps, hps, hpl, hpn, hpf, hpc⟩ ⟨rfl, hx⟩
        obtain ⟨qa, hqa, rfl⟩ := at_map hx
        obtain ⟨bd, hbd⟩ := at_ex (l := bs) (i := i) (by rw [List.length_map] at hi; omega)
        have hqB := (hqb i qa bd hqa hbd).mono s2
        refine ⟨rfl, yes_go ?_⟩
        refine ⟨_, rfl, _, rfl, by show 2 ≤ sizeLine; decide, fun t ht => ⟨rfl, rfl, fun p dp np ndp ndpp => ?_⟩⟩
        have s3 := same_new (o := .tup [.int (-1), .int 0]) (Same.refl H2') ht
        have ht3 : upd H2' t (.tup [.int (-1), .int 0]) t = some (.tup [.int (-1), .int 0]) := upd_same
        have ndp' : upd H2' t (.tup [.int (-1), .int 0]) dp = none := ndp
        have np' : upd H2' t (.tup [.int (-1), .int 0]) p = none := np
        have s3' : Same H2' (upd H2' t (.tup [.int (-1), .int 0])) := s3
        show (_ : Prop)
        have s4 : Same (upd H2' t (.tup [.int (-1), .int 0])) (upd (upd (upd H2' t (.tup [.int (-1), .int 0])) dp (.own p)) p (.ins CC dp [])) := same_new (same_new (Same.refl _) ndp') ((upd_ne (Ne.symm ndpp)).trans np')
        have hp4 : upd (upd (upd H2' t (.tup [.int (-1), .int 0])) dp (.own p)) p (.ins CC dp []) p = some (.ins CC dp []) := upd_same
        have ht4 := s4 _ _ ht3
        have np2 : H2' p = none := s3'.free np'
        have s24 := s3'.trans s4
        refine ⟨p, dp, qa, bd.limit, t, rfl, hp4, hqB.mono s24, SqT.of ht4, fun H5 o5 hC5 => ⟨rfl, ?_⟩⟩
        have s25 : Same H2' H5 := off_same s24 o5 fun a ha => by rw [List.mem_singleton] at ha; rw [ha]; exact np2
        have hps5 := s25 _ _ hps
        have nD : ∀ {a : Addr} {L : Nat}, ClkAt K CC CB H5 a L (-1) → ClkAt K CC CB (upd H5 D2 (.lst (ps.map V.ref ++ [.ref p]))) a L (-1) := fun {a L} h => by
          obtain ⟨cdx, cfs, cba, cpa, c1, c2, c3, c4, c5, c6, c7, c8⟩ := h.ex
          have nb : ∀ {z : Addr} {o : HO}, H5 z = some o → (∀ ys, o ≠ .lst ys) → z ≠ D2 := fun {z o} e ho ez => by
            rw [ez, hps5] at e
            exact ho _ (Option.some.inj e).symm
          have oo : Off K [D2] H5 (upd H5 D2 (.lst (ps.map V.ref ++ [.ref p]))) := ⟨fun a o n e => (upd_ne (fun z => n (List.mem_singleton.mpr z))).trans e, tup_lst hps5⟩
          refine ⟨cdx, cfs, cba, cpa, (upd_ne (nb c1 fun ys z => by cases z)).trans c1, c2, c3, c4, c5, c6, c7.off oo (fun z => ?_), oo.tup _ _ c8⟩
          rw [List.mem_singleton] at z
          obtain ⟨_, _, _, _, e, _⟩ := c7.ex
          exact nb e (fun ys z => by cases z) z
        refine ⟨_, hps5, size_lt (by rw [List.length_map]; rw [List.length_map] at hi; omega), same_mut (s2.trans s25) hD2, ps ++ [p], by rw [List.map_append]; exact upd_same, by rw [List.length_append, hpl]; rfl, ?_, fun p' hp' => ?_, fun j q' b' hj hb' => ?_⟩
        · rw [List.nodup_append]
          refine ⟨hpn, List.nodup_cons.mpr ⟨fun z => (nomatch z), List.nodup_nil⟩, fun a ha c hc e => ?_⟩
          rw [List.mem_singleton] at hc
          obtain ⟨ia, hia⟩ := List.mem_iff_getElem?.mp ha
          obtain ⟨ba', hba'⟩ := at_ex (l := bs) (i := ia) (by have := (List.getElem?_eq_some_iff.mp hia).1; rw [List.length_map] at hi; omega)
          obtain ⟨cdx, cfs, cba, cpa, c1, _⟩ := (hpc ia a ba' hia hba').ex
          rw [e, hc, np2] at c1
          cases c1
        · rcases List.mem_append.mp hp' with hp' | hp'
          · exact hpf p' hp'
          · rw [List.mem_singleton] at hp'
            rw [hp']
            exact s2.free np2
        · by_cases ej : j < ps.length
          · rw [List.getElem?_append_left ej] at hj
            exact nD ((hpc j q' b' hj hb').mono s25)
          · have ej2 : j = ps.length := by
              have := (List.getElem?_eq_some_iff.mp hj).1
              rw [List.length_append, List.length_singleton] at this
              omega
            subst ej2
            rw [List.getElem?_append_right (Nat.le_refl _), Nat.sub_self] at hj
            have hj : some p = some q' := hj
            cases hj
            rw [hpl, hbd] at hb'
            cases hb'
            exact nD hC5
      · rintro H2 ⟨s2, ps, hps, hpl, hpn, hpf, hpc⟩
        exact q D2 ps H2 (s1.trans s2) (s1.free hD2) (fun p hp => s1.free (hpf p hp)) ⟨hps, hpn, by rw [hpl, List.length_map]; omega, hpc⟩
abbrev s_law_bears : Stmt := top 83
abbrev N_law_bears : List Str := ["clock", "used", "told"]
theorem sc_law_bears : FnScope N_law_bears ["clock", "used"] (C8.fnScope s_law_bears) := C8.fnScope_by (by decide +kernel)
def sp_law_bears (K : PySem.W.Frag) (CC CB : Addr) : Sp := fun vs H Q _ => ∃ (p : Addr) (L u : Nat), vs = [.ref p, nV u] ∧ ClkAt K CC CB H p L (-1) ∧ L ≤ 9 ∧ u ≤ 1000000 ∧ ∀ H', Same H H' → Q (.bl (decide (u ≤ L))) H'
theorem ok_law_bears {CC CB f : Addr} {fd : FuncData} (F : C8.Def K mg "_law_bears" s_law_bears f fd) (b : Binds K fd ["clock", "used"] []) (T : Gb mg) (m_twin : C8.Met P w K mg base 5 CC "twin" (sp_twin K CC CB) []) (m_spend : C8.Met P w K mg base 4 CC "spend" (sp_spend K CC CB) []) : C8.Cal P w K mg base 6 "_law_bears" (sp_law_bears K CC CB) [] := by
  refine C8.cal0 F b .nil sc_law_bears (fun vs H Q E h => ?_) (fun cdv A outer s H vs Q E hr h => ?_)
  · obtain ⟨p, L, u, rfl, _⟩ := h
    rfl
  · obtain ⟨p, L, u, rfl, hC, hL, hu, q⟩ := h
    obtain ⟨dx, fs, ba, pa, e, h1, h2, h3, h4, h5, h6, h7⟩ := id hC.ex
    refine ⟨_, (pss_cons (ps_set (i := 2) sc_law_bears.nd rfl (Or.inl rfl) (C8.pe_mt m_spend hr (by decide) (C8.pe_mt0 m_twin hr (by decide) (pv 0)) (pa_cons (pv 1) pa_nil)))
(pss_one (ps_ret (pe_ifExp (pt_val (pe_callB call_isi (by rfl) T.isinstance (by decide +kernel) (pa_cons (pv 2) (pa_cons (pe_bltn (v := .ty "bool") (by rfl) T.bool (by decide +kernel) rfl) pa_nil)))) (pv 2) pe_non)))), ?_⟩
    refine ⟨_, rfl, p, dx, fs, rfl, e, h4 _ (by decide +kernel) (by decide +kernel) (by decide +kernel), p, L, -1, rfl, hC, fun t H1 s1 ht hC1 => ?_⟩
    obtain ⟨tdx, tfs, tba, tpa, te, t1, t2, t3, t4, t5, t6, t7⟩ := id hC1.ex
    refine ⟨t, tdx, tfs, rfl, te, t4 _ (by decide +kernel) (by decide +kernel) (by decide +kernel), _, rfl, t, L, u, rfl, hC1, hL, hu, fun H2 o2 _ => ?_⟩
    have s2 := off_same s1 o2 fun a ha => by rw [List.mem_singleton] at ha; rw [ha]; exact ht
    refine ⟨_, rfl, .bl _, .ty "bool", .type "bool", .type "bool", true, rfl, .ty _, .base (.bl _), kit_ty (by decide +kernel), true, rfl, ?_⟩
    refine iteT ?_
    exact ⟨_, rfl, q H2 s2⟩
end
end My
namespace My
open PySem L2
/-! ### _law_turns -/
theorem ClkAt.lst {K : PySem.W.Frag} {C CB : Addr} {H : Hp} {p d : Addr} {L : Nat} {x : Int} {xs : List V} {o : HO} (e : H d = some (.lst xs)) (h : ClkAt K C CB H p L x) : ClkAt K C CB (upd H d o) p L x := by
  obtain ⟨cdx, cfs, cba, cpa, c1, c2, c3, c4, c5, c6, c7, c8⟩ := h.ex
  have nb : ∀ {z : Addr} {o : HO}, H z = some o → (∀ ys, o ≠ .lst ys) → z ≠ d := fun {z o} e' ho ez => by
    rw [ez, e] at e'
    exact ho _ (Option.some.inj e').symm
  have oo : Off K [d] H (upd H d o) := ⟨fun a o n e => (upd_ne (fun z => n (List.mem_singleton.mpr z))).trans e, tup_lst e⟩
  refine ⟨cdx, cfs, cba, cpa, (upd_ne (nb c1 fun ys z => by cases z)).trans c1, c2, c3, c4, c5, c6, c7.off oo (fun z => ?_), oo.tup _ _ c8⟩
  rw [List.mem_singleton] at z
  obtain ⟨_, _, _, _, e', _⟩ := c7.ex
  exact nb e' (fun ys z => by cases z) z
theorem ixN_natQ {n j : Nat} (hj : j < n) : ixN n (j : Int) = some j := by
  unfold ixN
  rw [if_pos (by omega), if_pos (by omega)]
  simp
theorem nodup_idx {α : Type} {l : List α} (h : l.Nodup) {i j : Nat} {a : α} (h1 : l[i]? = some a) (h2 : l[j]? = some a) : i = j := by
  obtain ⟨e1, e2⟩ := List.getElem?_eq_some_iff.mp h1
  obtain ⟨e3, e4⟩ := List.getElem?_eq_some_iff.mp h2
  have hp := List.pairwise_iff_getElem.mp h
  rcases Nat.lt_trichotomy i j with h | h | h
  · exact absurd (e2.trans e4.symm) (hp i j e1 e3 h)
  · exact h
  · exact absurd (e4.trans e2.symm) (hp j i e3 e1 h)
structure TrI (K : PySem.W.Frag) (w : World) (CC CB : Addr) (H0 H' : Hp) (bs : List Bd) (L : List Pl) (ch : Pl → Int) (d cl : Addr) (ps : List Addr) (sl : Addr) (sns : List Nat) : Prop where
  same : Same H0 H'
  dl : DF K w pk H' d L (fun k => .int (ch k))
  ck : Clks K CC CB H' cl ps bs
  at_ : H' sl = some (.lst (sns.map nV))
  len : sns.length = bs.length
  ne : cl ≠ sl
section
variable {K : PySem.W.Frag} {w : World} {CC CB : Addr} {H0 H' H'' : Hp} {bs : List Bd} {L : List Pl} {ch : Pl → Int} {d cl : Addr} {ps : List Addr} {sl : Addr} {sns : List Nat}
theorem TrI.mono (t : Same H' H'') (h : TrI K w CC CB H0 H' bs L ch d cl ps sl sns) : TrI K w CC CB H0 H'' bs L ch d cl ps sl sns :=
  ⟨h.same.trans t, h.dl.same t, ⟨t _ _ h.ck.1, h.ck.2.1, h.ck.2.2.1, fun i p b h1 h2 => (h.ck.2.2.2 i p b h1 h2).mono t⟩, t _ _ h.at_, h.len, h.ne⟩
theorem TrI.spend {k : Nat} {p : Addr} {b : Bd} (h : TrI K w CC CB H0 H' bs L ch d cl ps sl sns) (hp : ps[k]? = some p) (hb : bs[k]? = some b) (h0 : H0 p = none) (o : Off K [p] H' H'') (hc : ClkAt K CC CB H'' p b.limit (-1)) : TrI K w CC CB H0 H'' bs L ch d cl ps sl sns := by
  have hc0 := h.ck.2.2.2 k p b hp hb
  obtain ⟨cdx, cfs, cba, cpa, c1, _⟩ := id hc0.ex
  have nl : ∀ {z : Addr} {xs : List V}, H' z = some (.lst xs) → z ∉ [p] := fun {z xs} e q => by
    rw [List.mem_singleton] at q
    rw [q, c1] at e
    cases e
  have nd : d ∉ [p] := fun q => by
    rw [List.mem_singleton] at q
    obtain ⟨x, e⟩ := h.dl.obj
    rw [q, c1] at e
    cases e
  obtain ⟨kvs, k1, k2, k3, k4⟩ := h.dl
  refine ⟨off_same h.same o fun a ha => by rw [List.mem_singleton] at ha; rw [ha]; exact h0, ⟨kvs, o.same _ _ nd k1, k2.tups o.tup, k3, k4⟩, ⟨o.same _ _ (nl h.ck.1) h.ck.1, h.ck.2.1, h.ck.2.2.1, fun i p' b' h1 h2 => ?_⟩, o.same _ _ (nl h.at_) h.at_, h.len, h.ne⟩
  by_cases e : i = k
  · subst e
    rw [hp] at h1
    rw [hb] at h2
    cases h1
    cases h2
    exact hc
  · refine (h.ck.2.2.2 i p' b' h1 h2).off o (fun z => ?_) (fun a ha => by rw [List.mem_singleton] at ha; rw [ha]; exact hc0.is)
    rw [List.mem_singleton] at z
    subst z
    exact e (nodup_idx h.ck.2.1 h1 hp)
theorem TrI.setS {sns' : List Nat} (h : TrI K w CC CB H0 H' bs L ch d cl ps sl sns) (h0 : H0 sl = none) (hl : sns'.length = sns.length) : TrI K w CC CB H0 (upd H' sl (.lst (sns'.map nV))) bs L ch d cl ps sl sns' := by
  have nd : d ≠ sl := fun q => by
    obtain ⟨x, e⟩ := h.dl.obj
    rw [q, h.at_] at e
    cases e
  exact ⟨same_mut h.same h0, h.dl.keep (tup_lst h.at_) (upd_ne nd), ⟨(upd_ne h.ne).trans h.ck.1, h.ck.2.1, h.ck.2.2.1, fun i p b h1 h2 => (h.ck.2.2.2 i p b h1 h2).lst h.at_⟩, upd_same, hl.trans h.len, h.ne⟩
end
/-- the ticks that a side has sat -/
def Sat (p : Pl) (sns : List Nat) : Prop := ∀ (i : Nat) (pr : S2) (n : Nat), p[i]? = some pr → sns[i]? = some n → pr.1 = 0 → n = pr.2
def StV (K : PySem.W.Frag) (H : Hp) (v : V) (_ : Unit) : Prop := ∃ t pa, v = .ref t ∧ SqT K H t [.ref pa, .int 0] ∧ SqT K H pa [.int (-1), .int 0]
theorem StV.tups {K : PySem.W.Frag} {H H' : Hp} (s : Tup K H H') {v : V} {u : Unit} (h : StV K H v u) : StV K H' v u := let ⟨t, pa, e, h1, h2⟩ := h; ⟨t, pa, e, s _ _ h1, s _ _ h2⟩
abbrev D0 : PyData := .tuple [.tuple [.int (-1), .int 0], .int 0]
theorem stV_dp {K : PySem.W.Frag} {H : Hp} {v : V} {u : Unit} (h : StV K H v u) : Dp K H v D0 := by
  obtain ⟨t, pa, rfl, h1, h2⟩ := h
  exact .tup h1 (.cons (.tup h2 (.cons (.int _) (.cons (.int _) .nil))) (.cons (.int _) .nil))
theorem stVs_dp {K : PySem.W.Frag} {H : Hp} : ∀ {xs : List V} {n : Nat}, Paired (StV K H) xs (List.replicate n ()) → DpAll K H xs (List.replicate n D0)
  | _, 0, h => by cases h; exact .nil
  | _, n + 1, h => by
    rw [List.replicate_succ] at h ⊢
    cases h with
    | cons h t => exact .cons (stV_dp h) (stVs_dp t)
theorem rep_paired {K : PySem.W.Frag} {H : Hp} {x : V} (h : StV K H x ()) : ∀ n, Paired (StV K H) (List.replicate n x) (List.replicate n ())
  | 0 => .nil
  | n + 1 => by rw [List.replicate_succ, List.replicate_succ]; exact .cons h (rep_paired h n)
theorem d0_eq {n : Nat} (h : n ≤ 2) : PyData.eqv (.list (List.replicate n D0)) (.list (List.replicate n D0)) = true := by
  rcases (show n = 0 ∨ n = 1 ∨ n = 2 by omega) with rfl | rfl | rfl <;> decide +kernel
theorem d0_shaped {n : Nat} (h : n ≤ 2) : SeqAt.shaped (.list (List.replicate n D0)) = true := by
  rcases (show n = 0 ∨ n = 1 ∨ n = 2 by omega) with rfl | rfl | rfl <;> decide +kernel
theorem set_at {α : Type} {l : List α} {k : Nat} {v : α} (h : k < l.length) : (l.set k v)[k]? = some v := by rw [List.getElem?_set]; simp [h]
theorem set_off {α : Type} {l : List α} {k j : Nat} {v : α} (h : k ≠ j) : (l.set k v)[j]? = l[j]? := by rw [List.getElem?_set]; simp [h]
section
variable {P : Program} {w : World} {K : PySem.W.Frag} {mg : Str → Option Value} {base : Heap}
abbrev s_law_turns : Stmt := top 84
abbrev N_law_turns : List Str := ["script", "boards", "lot", "start", "clocks", "place", "k", "since", "turn", "pick", "ticks", "led_v", "n", "after", "clock"]
theorem sc_law_turns : FnScope N_law_turns ["script", "boards", "lot", "start"] (C8.fnScope s_law_turns) := C8.fnScope_by (by decide +kernel)
def sp_law_turns (K : PySem.W.Frag) (w : World) : Sp := fun vs H Q _ => ∃ (sa ba d : Addr) (v : V) (ns : List Int) (bs : List Bd) (start : Pl) (L : List Pl) (ch : Pl → Int), vs = [.ref sa, .ref ba, .ref d, v] ∧ SqL K H sa (ns.map V.int) ∧ BdsAt K H ba bs ∧ BdsLaw bs ∧ DF K w pk H d L (fun k => .int (ch k)) ∧ LotOk bs start L ch ∧ PlV K H v start ∧
  ∀ H', Same H H' → Q (.bl true) H'
theorem ok_law_turns {CC CB f : Addr} {fd : FuncData} (F : C8.Def K mg "_law_turns" s_law_turns f fd) (b : Binds K fd ["script", "boards", "lot", "start"] []) (T : Gb mg) (c__law_clocks : C8.Cal P w K mg base 7 "_law_clocks" (sp_law_clocks K CC CB) []) (c__law_bears : C8.Cal P w K mg base 6 "_law_bears" (sp_law_bears K CC CB) []) (m_spend : C8.Met P w K mg base 4 CC "spend" (sp_spend K CC CB) []) (m_standing : C8.Met P w K mg base 1 CC "standing" (sp_standing K CC CB) [])
    (c__law_led : C8.Cal P w K mg base 2 "_law_led" (sp_law_led K) []) (c__law_cell : C8.Cal P w K mg base 1 "_law_cell" (sp_law_cell K) []) (c__law_numbers : C8.Cal P w K mg base 1 "_law_numbers" sp_law_numbers []) : C8.Cal P w K mg base 8 "_law_turns" (sp_law_turns K w) [] := by
  refine C8.cal0 F b .nil sc_law_turns (fun vs H Q E h => ?_) (fun cdv A outer s H vs Q E hr h => ?_)
  · obtain ⟨sa, ba, d, v, ns, bs, start, L, ch, rfl, _⟩ := h
    rfl
  · obtain ⟨sa, ba, d, v, ns, bs, start, L, ch, rfl, hsa, hB, hbs, dl, hL, hv, q⟩ := h
    obtain ⟨xs, hxs, hxp⟩ := hB.ex
    have l1 := hxp.length
    have hok := hbs.ok
    have n2 := hok.n2
    refine ⟨_, (pss_cons (ps_set (i := 4) sc_law_turns.nd rfl (Or.inl rfl) (C8.pe_c c__law_clocks hr (by decide) (by rfl) (pa_cons (pv 1) pa_nil)))
(pss_cons (ps_set (i := 5) sc_law_turns.nd rfl (Or.inr rfl) (pv 3))
(pss_cons (ps_setLc (i := 7) (own := [("k", 6)]) rfl sc_law_turns.nd rfl rfl (sw_true rfl rfl rfl (by decide +kernel)) (pi_range1 (by rfl) T.range (pa_cons (pe_callB (call_lenK K rfl) (by rfl) T.len PySem.boot_len (pa_cons (pv 1) pa_nil)) pa_nil)) (blkOk_by (N := N_law_turns) (sc := C8.fnScope s_law_turns) (by decide +kernel)) (fun _ _ _ _ _ => (pg_name (i := 6) sc_law_turns.nd rfl (Or.inl rfl))) (fun _ _ _ _ _ => pts_nil) (fun _ _ _ _ _ => (pe_ix (ix_tupK K rfl) (pe_ix (ix_tupK K rfl) (pv 5) (pv 6) (fun _ _ => rfl)) pe_int (fun _ _ => rfl))))
(pss_cons (ps_for PassesOwn.never rfl (pi_range1 (by rfl) T.range (pa_cons pe_int pa_nil)) (pg_name (i := 8) sc_law_turns.nd rfl (Or.inl rfl))
(pss_cons (ps_for PassesOwn.never rfl (pi_range1 (by rfl) T.range (pa_cons (pe_callB (call_lenK K rfl) (by rfl) T.len PySem.boot_len (pa_cons (pv 1) pa_nil)) pa_nil)) (pg_name (i := 6) sc_law_turns.nd rfl (Or.inl rfl))
(pss_one (ps_if (PW.pt (pw_and (pt_cmpR op_eq (pe_ix (ix_tupK K rfl) (pe_ix (ix_tupK K rfl) (pv 5) (pv 6) (fun _ _ => rfl)) pe_int (fun _ _ => rfl)) pe_int (nomark _)) (pw_and1 (pt_cmpR op_notBl (C8.pe_c c__law_bears hr (by decide) (by rfl) (pa_cons (pe_ix (ix_listK K rfl) (pv 4) (pv 6) (fun _ _ => rfl)) (pa_cons (pe_ix (ix_listK K rfl) (pv 7) (pv 6) (fun _ _ => rfl)) pa_nil))) pe_bl (nomark _)))))
(pss_one (ps_ret pe_bl))
pss_nil)))
(pss_cons (ps_set (i := 9) sc_law_turns.nd rfl (Or.inl rfl) (pe_ix (ix_dNK (K := K) (w := w) rfl rfl (Nat.lt_of_le_of_lt (Nat.add_le_add_left (by decide) _) hr.un)) (pv 2) (pv 5) (fun _ _ => rfl)))
(C8.pss_cut (ps_set (i := 10) sc_law_turns.nd rfl (Or.inl rfl) (pe_ifExp (pt_cmpR op_lt (pv 9) pe_int (nomark _)) pe_int (pe_ix (ix_tupK K rfl) (pe_ix (ix_listK K rfl) (pv 1) (pv 9) (fun _ _ => rfl)) pe_int (fun _ _ => rfl))))
(C8.pss_cut (ps_if (PW.pt (pw_and (pt_cmpR op_ge (pv 9) pe_int (nomark _)) (pw_and1 (pt_cmpR op_notBl (C8.pe_mt m_spend hr (by decide) (pe_ix (ix_listK K rfl) (pv 4) (pv 9) (fun _ _ => rfl)) (pa_cons (pe_op op_add (pe_ix (ix_listK K rfl) (pv 7) (pv 9) (fun _ _ => rfl)) (pv 10)) pa_nil)) pe_bl (nomark _)))))
(pss_one (ps_ret pe_bl))
pss_nil)
(pss_cons (ps_set (i := 11) sc_law_turns.nd rfl (Or.inl rfl) (C8.pe_c c__law_led hr (by decide) (by rfl) (pa_cons (pv 1) (pa_cons (pv 5) (pa_cons (pv 9) pa_nil)))))
(pss_cons (ps_set (i := 12) sc_law_turns.nd rfl (Or.inl rfl) (C8.pe_c c__law_numbers hr (by decide) (by rfl) (pa_cons (C8.pe_c c__law_cell hr (by decide) (by rfl) (pa_cons (pv 0) (pa_cons (pe_op op_add pe_int (pe_op op_mod (pe_callTy call_int1 (by rfl) T.int (by decide +kernel) (pa_cons (pv 8) pa_nil)) pe_int)) pa_nil))) (pa_cons (pe_op op_add pe_int (pv 8)) (pa_cons pe_int (pa_cons pe_int pa_nil))))))
(pss_cons (ps_set (i := 13) sc_law_turns.nd rfl (Or.inl rfl) (pe_ix (ix_listK K rfl) (pe_ix (ix_listK K rfl) (pv 11) pe_int (fun _ _ => rfl)) (pe_op op_mod (pe_callTy call_int1 (by rfl) T.int (by decide +kernel) (pa_cons (pe_ix (ix_listK K rfl) (pv 12) pe_int (fun _ _ => rfl)) pa_nil)) (pe_callB (call_lenK K rfl) (by rfl) T.len PySem.boot_len (pa_cons (pe_ix (ix_listK K rfl) (pv 11) pe_int (fun _ _ => rfl)) pa_nil))) (fun _ _ => rfl)))
(pss_cons (ps_for PassesOwn.never rfl (pi_range1 (by rfl) T.range (pa_cons (pe_callB (call_lenK K rfl) (by rfl) T.len PySem.boot_len (pa_cons (pv 1) pa_nil)) pa_nil)) (pg_name (i := 6) sc_law_turns.nd rfl (Or.inl rfl))
(pss_one (ps_if (PW.pt (pw_and (pt_cmpR op_eq (pe_ix (ix_tupK K rfl) (pe_ix (ix_tupK K rfl) (pv 13) (pv 6) (fun _ _ => rfl)) pe_int (fun _ _ => rfl)) pe_int (nomark _)) (pw_and1 (pt_cmpR op_eq (pe_ix (ix_tupK K rfl) (pe_ix (ix_tupK K rfl) (pv 5) (pv 6) (fun _ _ => rfl)) pe_int (fun _ _ => rfl)) pe_int (nomark _)))))
(pss_one (ps_asg (pe_op op_add (pe_ix (ix_listK K rfl) (pv 7) (pv 6) (fun _ _ => rfl)) (pv 10)) (pg_sub (pv 7) (pv 6) set_list)))
(pss_one (ps_if (pt_cmpR op_eq (pe_ix (ix_tupK K rfl) (pe_ix (ix_tupK K rfl) (pv 13) (pv 6) (fun _ _ => rfl)) pe_int (fun _ _ => rfl)) pe_int (nomark _))
(pss_one (ps_asg (pe_ix (ix_tupK K rfl) (pe_ix (ix_tupK K rfl) (pv 13) (pv 6) (fun _ _ => rfl)) pe_int (fun _ _ => rfl)) (pg_sub (pv 7) (pv 6) set_list)))
(pss_one (ps_asg pe_int (pg_sub (pv 7) (pv 6) set_list))))))))
(pss_one (ps_set (i := 5) sc_law_turns.nd rfl (Or.inr rfl) (pv 13))))))))))))
(pss_one (ps_ret (pe_cmpR (op_eqD (Nat.lt_of_le_of_lt (Nat.add_le_add_left (by decide) _) hr.un)) (pe_lc (own := [("clock", 14)]) rfl sc_law_turns.nd (pi_listK K rfl (pv 4)) (blkOk_by (N := N_law_turns) (sc := C8.fnScope s_law_turns) (by decide +kernel)) (fun _ _ _ _ _ => (pg_name (i := 14) sc_law_turns.nd rfl (Or.inl rfl))) (fun _ _ _ _ _ => pts_nil) (fun _ _ _ _ _ => (C8.pe_mt0 m_standing hr (by decide) (pv 14)))) (pe_op op_rep (pe_lst (pa_cons (pe_tup (pa_cons (pe_tup (pa_cons (pe_un un_neg pe_int) (pa_cons pe_int pa_nil))) (pa_cons pe_int pa_nil))) pa_nil)) (pe_callB (call_lenK K rfl) (by rfl) T.len PySem.boot_len (pa_cons (pv 1) pa_nil))) (nomark _)))))))), ?_⟩
    refine ⟨_, rfl, ba, bs, rfl, hB, hbs, fun cl ps H1 s1 hcl hpsn hck => ?_⟩
    have hso := (hL.ok start hL.start).1
    have hsl := okPl_len hso
    have hv1 := hv.mono s1
    obtain ⟨va, vxs, rfl, hva, hvp⟩ := id hv1
    have l2 := hvp.length
    have hxs1 := s1.seq hxs
    have exs : (xs.length : Int).toNat = bs.length := by omega
    refine ⟨_, rfl, ?_⟩
    refine ⟨_, rfl, ba, _, rfl, .inl hxs1, (xs.length : Int), rfl, by omega, by omega, fun sl hsln => lc_it (walk_range (lo := 0) (n := (xs.length : Int).toNat)) (fun i H' => Same H1 H' ∧ H' sl = some (.lst ((start.take i).map fun pr => nV pr.2)))
      ⟨same_new (Same.refl _) hsln, upd_same⟩ (fun _ _ _ _ => trivial) ?_ ?_⟩
    · rintro i x H2 H2' hi ⟨s2, h2⟩ ⟨rfl, rfl⟩
      obtain ⟨pr, hpr⟩ := at_ex (l := start) (i := i) (by omega)
      obtain ⟨pv', hpv', ⟨pa, rfl, hpa⟩⟩ := paired_at2 hvp hpr
      have ei : (0 : Int) + (i : Int) = (i : Int) := Int.zero_add _
      refine ⟨rfl, yes_go ?_⟩
      refine ⟨_, rfl, _, rfl, va, vxs, _, _, rfl, rfl, s2.tup hva, (by rw [ei]; exact atI_nat hpv'), pa, _, 1, nV pr.2, rfl, rfl, s2.tup hpa, rfl, ?_⟩
      have := List.length_take_le i start
      refine ⟨_, h2, size_lt (by rw [List.length_map]; omega), same_mut s2 hsln, ?_⟩
      rw [take_snoc hpr, List.map_append]
      exact upd_same
    · rintro H2 ⟨s2, h2⟩
      have e0 : (start.take (xs.length : Int).toNat).map (fun pr => nV pr.2) = (start.map (·.2)).map nV := by
        rw [exs, ← hsl, List.take_length, List.map_map]
        rfl
      rw [e0] at h2
      have hslH : H sl = none := s1.free hsln
      have s02 := s1.trans s2
      have ncl : cl ≠ sl := fun z => by have := hck.1; rw [z, hsln] at this; cases this
      have T0 : TrI K w CC CB H H2 bs L ch d cl ps sl (start.map (·.2)) := ⟨s02, dl.same s02, ⟨s2 _ _ hck.1, hck.2.1, hck.2.2.1, fun i p b h1 h2 => (hck.2.2.2 i p b h1 h2).mono s2⟩, h2, by rw [List.length_map]; omega, ncl⟩
      have S0 : Sat start (start.map (·.2)) := fun i pr n h1 h2 _ => by
        rw [List.getElem?_map, h1] at h2
        exact (Option.some.inj h2).symm
      have lps := hck.2.2.1
      refine ⟨40, rfl, by decide, by decide, for_it (walk_range (lo := 0) (n := 40)) (fun t σ H' => ∃ p sns v5 v6 v8 v9 v10 v11 v12 v13, TrI K w CC CB H H' bs L ch d cl ps sl sns ∧ p ∈ L ∧ PlV K H' v5 p ∧ Sat p sns ∧ σ = [some (.ref sa), some (.ref ba), some (.ref d), some (.ref va), some (.ref cl), some v5, v6, some (.ref sl), v8, v9, v10, v11, v12, v13, none])
        ⟨start, _, _, _, _, _, _, _, _, _, T0, hL.start, hv1.mono s2, S0, rfl⟩ (fun _ _ _ _ _ => trivial) ?_ ?_⟩
      · rintro t x σ H3 H3' ht ⟨p, sns, v5, v6, v8, v9, v10, v11, v12, v13, T3, hpL, hpv, hS, rfl⟩ ⟨rfl, rfl⟩
        obtain ⟨hpo, hpa, hpr, hps⟩ := hL.ok p hpL
        have hpl := okPl_len hpo
        have et : (0 : Int) + (t : Int) = (t : Int) := Int.zero_add _
        obtain ⟨pva, pvxs, rfl, hpva, hpvp⟩ := id hpv
        have ez : ∀ n : Nat, decide (V.int (n : Int) = V.int 0) = decide (n = 0) := fun n => by rw [dec_int]; exact decide_eq_decide.mpr ⟨fun z => by omega, fun z => by omega⟩
        -- the clocks bear the ticks
        refine ⟨_, rfl, ba, _, rfl, .inl (T3.same.seq hxs), (xs.length : Int), rfl, by omega, by omega, for_it (walk_range (lo := 0) (n := (xs.length : Int).toNat)) (fun i σ H' => Same H3' H' ∧ ∃ v6, σ = [some (.ref sa), some (.ref ba), some (.ref d), some (.ref va), some (.ref cl), some (.ref pva), v6, some (.ref sl), some (.int (0 + (t : Int))), v9, v10, v11, v12, v13, none])
          ⟨Same.refl _, _, rfl⟩ (fun _ _ _ _ _ => trivial) ?_ ?_⟩
        · rintro i x σ H4 H4' hi ⟨s4, v6', rfl⟩ ⟨rfl, rfl⟩
          have hi : i < bs.length := by omega
          have ei : (0 : Int) + (i : Int) = (i : Int) := Int.zero_add _
          obtain ⟨bd, hbd⟩ := at_ex (l := bs) (i := i) hi
          obtain ⟨pr, hprr⟩ := at_ex (l := p) (i := i) (by omega)
          obtain ⟨pv', hpv', ⟨pa, rfl, hpa'⟩⟩ := paired_at2 hpvp hprr
          obtain ⟨cp, hcp⟩ := at_ex (l := ps) (i := i) (by omega)
          obtain ⟨sn, hsn⟩ := at_ex (l := sns) (i := i) (by have := T3.len; omega)
          have T4 := T3.mono s4
          refine ⟨_, rfl, _, rfl, pva, pvxs, _, _, rfl, rfl, s4.tup hpva, (by rw [ei]; exact atI_nat hpv'), pa, _, 0, nV pr.1, rfl, rfl, s4.tup hpa', rfl, rfl, _, rfl, ?_⟩
          rw [ez]
          by_cases h0 : pr.1 = 0
          · refine ifT h0 ?_
            have e2 := hS i pr sn hprr hsn h0
            have hbo := hok.ok bd (List.mem_of_getElem? hbd)
            have hb9 := hbs.lim bd (List.mem_of_getElem? hbd)
            have hlim : pr.2 ≤ bd.limit := by
              rcases okPl_at hpo hbd hprr with ⟨_, h⟩ | ⟨h, _⟩
              · exact h
              · omega
            refine ⟨_, rfl, _, rfl, cl, _, _, .ref cp, rfl, rfl, SqL.of T4.ck.1, (by rw [ei]; exact atI_nat (by rw [List.getElem?_map, hcp]; rfl)), _, rfl, _, rfl, sl, _, _, nV sn, rfl, rfl, SqL.of T4.at_, (by rw [ei]; exact atI_nat (nV_at hsn)), cp, bd.limit, sn, rfl, T4.ck.2.2.2 i cp bd hcp hbd, hb9, by omega, fun H5 s5 => ⟨_, _, rfl, rfl, _, rfl, ?_⟩⟩
            rw [decide_eq_true (show sn ≤ bd.limit by omega)]
            refine ifNF rfl ?_
            exact ⟨s4.trans s5, _, rfl⟩
          · refine ifF h0 ?_
            exact ⟨s4, _, rfl⟩
        rintro σ H4 ⟨s4, v6', rfl⟩
        have T4 := T3.mono s4
        have hpv4 := hpv.mono s4
        refine ⟨_, rfl, _, rfl, T4.dl.get hpL (plV_key hpv4) (pk_depth _) ?_⟩
        -- the ticks
        refine ⟨fun σ H' => H' = H4 ∧ σ = [some (.ref sa), some (.ref ba), some (.ref d), some (.ref va), some (.ref cl), some (.ref pva), v6', some (.ref sl), some (.int (0 + (t : Int))), some (.int (ch p)), some (nV (ticksF bs (ch p))), v11, v12, v13, none], ?_, ?_⟩
        · refine ⟨_, rfl, _, _, rfl, rfl, _, rfl, ?_⟩
          rcases able_ok hpa with hc | ⟨k, hk, hc⟩
          · rw [hc]
            refine ifT (by decide) ?_
            exact ⟨rfl, rfl⟩
          · obtain ⟨bd, hbd⟩ := at_ex (l := bs) (i := k) (by omega)
            obtain ⟨xv, hxv⟩ := at_ex (l := xs) (i := k) (by omega)
            obtain ⟨bd', hbd', z, rfl, hz⟩ := paired_at hxp hxv
            rw [hbd] at hbd'
            cases hbd'
            rw [hc]
            refine ifF (by omega) ?_
            refine ⟨_, rfl, _, rfl, ba, _, _, _, rfl, rfl, T4.same.seq hxs, atI_nat hxv, z, _, 0, nV bd.work, rfl, rfl, T4.same.tup hz, rfl, ?_⟩
            have et : ticksF bs (k : Int) = bd.work := by
              unfold ticksF
              rw [if_neg (by omega), show ((k : Int)).toNat = k by omega, hbd]
              rfl
            rw [et]
            exact ⟨rfl, rfl⟩
        rintro σ H4' ⟨rfl, rfl⟩
        have ht6 := ticks_le hok (ch p)
        -- the press
        refine ⟨fun σ H' => TrI K w CC CB H H' bs L ch d cl ps sl sns ∧ PlV K H' (.ref pva) p ∧ σ = [some (.ref sa), some (.ref ba), some (.ref d), some (.ref va), some (.ref cl), some (.ref pva), v6', some (.ref sl), some (.int (0 + (t : Int))), some (.int (ch p)), some (nV (ticksF bs (ch p))), v11, v12, v13, none], ?_, ?_⟩
        · refine ⟨_, rfl, _, _, rfl, rfl, _, rfl, ?_⟩
          rcases able_ok hpa with hc | ⟨k, hk, hc⟩
          · refine ifF (by rw [hc]; decide) ?_
            exact ⟨T4, hpv4, rfl⟩
          · refine ifT (by rw [hc]; omega) ?_
            obtain ⟨bd, hbd⟩ := at_ex (l := bs) (i := k) (by omega)
            obtain ⟨pr, hprr⟩ := at_ex (l := p) (i := k) hk
            obtain ⟨cp, hcp⟩ := at_ex (l := ps) (i := k) (by omega)
            obtain ⟨sn, hsn⟩ := at_ex (l := sns) (i := k) (by have := T3.len; omega)
            have hb9 := hbs.lim bd (List.mem_of_getElem? hbd)
            have h0 : pr.1 = 0 := able_hand (by rw [← hc]; exact hpa) hprr
            have e2 := hS k pr sn hprr hsn h0
            have hle := led_hand hpo hpr hbd hprr h0
            have hcl4 := T4.ck.2.2.2 k cp bd hcp hbd
            obtain ⟨cdx, cfs, cba, cpa, c1, c2, c3, c4, c5, c6, c7, c8⟩ := id hcl4.ex
            refine ⟨_, rfl, _, rfl, cl, _, _, .ref cp, rfl, rfl, SqL.of T4.ck.1, (by rw [hc]; exact atI_nat (by rw [List.getElem?_map, hcp]; rfl)), cp, cdx, cfs, rfl, c1, c5 _ (by decide +kernel) (by decide +kernel) (by decide +kernel), _, rfl, _, rfl, sl, _, _, nV sn, rfl, rfl, SqL.of T4.at_, (by rw [hc]; exact atI_nat (nV_at hsn)), _, rfl, _, _, rfl, rfl, cp, bd.limit, sn + ticksF bs (ch p), rfl, hcl4, hb9, by omega, fun H5 o5 hc5 => ⟨_, _, rfl, rfl, _, rfl, ?_⟩⟩
            rw [if_pos (show sn + ticksF bs (ch p) ≤ bd.limit by omega)] at hc5
            rw [decide_eq_true (show sn + ticksF bs (ch p) ≤ bd.limit by omega)]
            refine ifNF rfl ?_
            exact ⟨T4.spend hcp hbd (hpsn cp (List.mem_of_getElem? hcp)) o5 hc5, hpv4.tups o5.tup, rfl⟩
        rintro σ H5 ⟨T5, hpv5, rfl⟩
        refine ⟨_, rfl, _, rfl, _, rfl, ba, .ref pva, bs, p, ch p, rfl, hB.mono T5.same, hpv5, hok, hpo, hpa, fun ll H6 s6 hled => ?_⟩
        have ei2 : (10 : Int) + (0 + (t : Int)) % 50 = ((10 + t % 50 : Nat) : Int) := by omega
        have ei3 : (50 : Int) + (0 + (t : Int)) = ((50 + t : Nat) : Int) := by omega
        have T6 := T5.mono s6
        refine ⟨_, rfl, _, rfl, .inl ⟨_, rfl, _, _, rfl, rfl, by show (0 : Int) < 50; decide, _, _, rfl, rfl, sa, ns, 10 + t % 50, by rw [← ei2]; rfl, T6.same.seq hsa, fun c => ?_⟩⟩
        refine ⟨_, rfl, _, _, rfl, rfl, c, 50 + t, 1, 5040, by rw [← ei3]; rfl, by omega, by decide, by decide, by decide, fun ma m H7 s7 hma hm7 hml hmb => ?_⟩
        obtain ⟨rsl, hll, hrsl⟩ := hled
        obtain ⟨zs, hzs, hzp⟩ := hrsl
        have lz := hzp.length
        have hpos := led_some hok hpo hpr
        obtain ⟨m0, hm0⟩ := at_ex (l := m) (i := 0) (by omega)
        have hll7 := s7 _ _ hll
        have hzs7 := s7 _ _ hzs
        have hlt : m0 % zs.length < zs.length := Nat.mod_lt _ (by omega)
        obtain ⟨zv, hzv⟩ := at_ex hlt
        obtain ⟨af, haf, hafv⟩ := paired_at hzp hzv
        have hafm := List.mem_of_getElem? haf
        have hafL := hps af hafm
        have T7 := T6.mono s7
        have hpv7 := (hpv5.mono s6).mono s7
        have haf7 := hafv.mono s7
        refine ⟨_, rfl, ll, _, 2, _, rfl, rfl, SqL.of hll7, rfl, _, rfl, ma, _, 0, nV m0, rfl, rfl, SqL.of hm7, atI_nat (j := 0) (nV_at hm0), .inl ⟨_, rfl, _, rfl, ll, _, 2, _, rfl, rfl, SqL.of hll7, rfl, rsl, _, rfl, .inl (SqL.of hzs7), _, _, rfl, rfl, by show (0 : Int) < (zs.length : Int); omega, rsl, _, _, zv, rfl, rfl, SqL.of hzs7, atI_nat (j := m0 % zs.length) hzv, ?_⟩⟩
        obtain ⟨afa, afxs, rfl, hafa, hafp⟩ := id haf7
        have hafo := (hL.ok af hafL).1
        have hafl := okPl_len hafo
        -- how long each side has sat
        refine ⟨_, rfl, ba, _, rfl, .inl (T7.same.seq hxs), (xs.length : Int), rfl, by omega, by omega, for_it (walk_range (lo := 0) (n := (xs.length : Int).toNat)) (fun i σ H' => ∃ sns' v6, TrI K w CC CB H H' bs L ch d cl ps sl sns' ∧ PlV K H' (.ref pva) p ∧ PlV K H' (.ref afa) af ∧ (∀ (j : Nat) (qr : S2) (n : Nat), j < i → af[j]? = some qr → sns'[j]? = some n → qr.1 = 0 → n = qr.2) ∧ (∀ j, i ≤ j → sns'[j]? = sns[j]?) ∧ σ = [some (.ref sa), some (.ref ba), some (.ref d), some (.ref va), some (.ref cl), some (.ref pva), v6, some (.ref sl), some (.int (0 + (t : Int))), some (.int (ch p)), some (nV (ticksF bs (ch p))), some (.ref ll), some (.ref ma), some (.ref afa), none])
          ⟨sns, _, T7, hpv7, haf7, fun j _ _ hj => absurd hj (Nat.not_lt_zero _), fun _ _ => rfl, rfl⟩ (fun _ _ _ _ _ => trivial) ?_ ?_⟩
        · rintro i x σ H8 H8' hi ⟨sns', v6'', T8, hpv8, haf8, hlo, hhi, rfl⟩ ⟨rfl, rfl⟩
          have hi : i < bs.length := by omega
          have ei : (0 : Int) + (i : Int) = (i : Int) := Int.zero_add _
          obtain ⟨bd, hbd⟩ := at_ex (l := bs) (i := i) hi
          obtain ⟨pr, hprr⟩ := at_ex (l := p) (i := i) (by omega)
          obtain ⟨qr, hqr, hqm⟩ := led_at hpo hafm hbd hprr
          obtain ⟨pva', pvxs', epv, hpva8, hpvp8⟩ := hpv8
          cases epv
          obtain ⟨afa', afxs', eaf, hafa8, hafp8⟩ := haf8
          cases eaf
          have hpv8 : PlV K H8' (.ref pva) p := ⟨pva, pvxs', rfl, hpva8, hpvp8⟩
          have haf8 : PlV K H8' (.ref afa) af := ⟨afa, afxs', rfl, hafa8, hafp8⟩
          obtain ⟨pv', hpv', ⟨pa, rfl, hpa'⟩⟩ := paired_at2 hpvp8 hprr
          obtain ⟨qv', hqv', ⟨qa, rfl, hqa'⟩⟩ := paired_at2 hafp8 hqr
          have hsl8 := T8.len
          obtain ⟨sn, hsn⟩ := at_ex (l := sns') (i := i) (by omega)
          have hsn0 : sns[i]? = some sn := by rw [← hhi i (Nat.le_refl _)]; exact hsn
          have fin : ∀ n : Nat, (qr.1 = 0 → n = qr.2) → ∃ sns'' v6, TrI K w CC CB H (upd H8' sl (.lst ((sns'.map nV).set i (nV n)))) bs L ch d cl ps sl sns'' ∧ PlV K (upd H8' sl (.lst ((sns'.map nV).set i (nV n)))) (.ref pva) p ∧ PlV K (upd H8' sl (.lst ((sns'.map nV).set i (nV n)))) (.ref afa) af ∧ (∀ (j : Nat) (qr : S2) (n : Nat), j < i + 1 → af[j]? = some qr → sns''[j]? = some n → qr.1 = 0 → n = qr.2) ∧ (∀ j, i + 1 ≤ j → sns''[j]? = sns[j]?) ∧ [some (V.ref sa), some (.ref ba), some (.ref d), some (.ref va), some (.ref cl), some (.ref pva), some (.int (0 + (i : Int))), some (.ref sl), some (.int (0 + (t : Int))), some (.int (ch p)), some (nV (ticksF bs (ch p))), some (.ref ll), some (.ref ma), some (.ref afa), none] = [some (.ref sa), some (.ref ba), some (.ref d), some (.ref va), some (.ref cl), some (.ref pva), v6, some (.ref sl), some (.int (0 + (t : Int))), some (.int (ch p)), some (nV (ticksF bs (ch p))), some (.ref ll), some (.ref ma), some (.ref afa), none] := fun n hn => by
            have e9 : (sns'.map nV).set i (nV n) = (sns'.set i n).map nV := (List.map_set (f := nV)).symm
            rw [e9]
            refine ⟨sns'.set i n, _, T8.setS hslH (List.length_set ..), hpv8.tups (tup_lst T8.at_), haf8.tups (tup_lst T8.at_), fun j qr' n' hj h1 h2 h3 => ?_, fun j hj => ?_, rfl⟩
            · by_cases ej : j = i
              · subst ej
                rw [hqr] at h1
                cases h1
                rw [set_at (by omega)] at h2
                cases h2
                exact hn h3
              · rw [set_off (Ne.symm ej)] at h2
                exact hlo j qr' n' (by omega) h1 h2 h3
            · rw [set_off (by omega)]
              exact hhi j (by omega)
          have hix : ixN ((sns'.map nV).length) (0 + (i : Int)) = some i := by rw [ei, List.length_map]; exact ixN_natQ (by omega)
          refine ⟨_, rfl, _, rfl, afa, afxs', _, _, rfl, rfl, hafa8, (by rw [ei]; exact atI_nat hqv'), qa, _, 0, nV qr.1, rfl, rfl, hqa', rfl, rfl, _, rfl, ?_⟩
          rw [ez]
          by_cases hq0 : qr.1 = 0
          · refine ifT hq0 ?_
            refine ⟨_, rfl, _, rfl, pva, pvxs', _, _, rfl, rfl, hpva8, (by rw [ei]; exact atI_nat hpv'), pa, _, 0, nV pr.1, rfl, rfl, hpa', rfl, rfl, _, rfl, ?_⟩
            rw [ez]
            by_cases hp0 : pr.1 = 0
            · refine ifT hp0 ?_
              have e5 := passed_hand hqm hp0 hq0
              have e6 := hS i pr sn hprr hsn0 hp0
              refine ⟨_, rfl, _, rfl, sl, _, _, nV sn, rfl, rfl, SqL.of T8.at_, (by rw [ei]; exact atI_nat (nV_at hsn)), _, rfl, _, _, rfl, rfl, _, rfl, _, rfl, sl, _, _, i, rfl, rfl, T8.at_, hix, ?_⟩
              exact fin (sn + ticksF bs (ch p)) fun _ => by omega
            · refine ifF hp0 ?_
              refine ⟨_, rfl, _, rfl, afa, afxs', _, _, rfl, rfl, hafa8, (by rw [ei]; exact atI_nat hqv'), qa, _, 0, nV qr.1, rfl, rfl, hqa', rfl, rfl, _, rfl, ?_⟩
              rw [ez]
              refine ifT hq0 ?_
              refine ⟨_, rfl, _, rfl, afa, afxs', _, _, rfl, rfl, hafa8, (by rw [ei]; exact atI_nat hqv'), qa, _, 1, nV qr.2, rfl, rfl, hqa', rfl, _, rfl, _, rfl, sl, _, _, i, rfl, rfl, T8.at_, hix, ?_⟩
              exact fin qr.2 fun _ => rfl
          · refine ifF hq0 ?_
            refine ⟨_, rfl, _, rfl, afa, afxs', _, _, rfl, rfl, hafa8, (by rw [ei]; exact atI_nat hqv'), qa, _, 0, nV qr.1, rfl, rfl, hqa', rfl, rfl, _, rfl, ?_⟩
            rw [ez]
            refine ifF hq0 ?_
            refine ⟨_, rfl, _, rfl, sl, _, _, i, rfl, rfl, T8.at_, hix, ?_⟩
            exact fin 0 fun z => absurd z hq0
        · rintro σ H8 ⟨sns', v6'', T8, hpv8, haf8, hlo, hhi, rfl⟩
          refine ⟨_, rfl, af, sns', _, _, _, _, _, _, _, _, T8, hafL, haf8, fun i pr n h1 h2 h3 => ?_, rfl⟩
          refine hlo i pr n ?_ h1 h2 h3
          have := (List.getElem?_eq_some_iff.mp h1).1
          omega
      · rintro σ H3 ⟨p, sns, v5, v6, v8, v9, v10, v11, v12, v13, T3, hpL, hpv, hS, rfl⟩
        refine ⟨_, rfl, cl, rfl, ⟨_, SqL.of T3.ck.1⟩, fun D hD => lc_it (walk_list (xs := ps.map V.ref)) (fun i H' => Same H3 H' ∧ ∃ acc, H' D = some (.lst acc) ∧ Paired (StV K H') acc (List.replicate i ()))
          ⟨same_new (Same.refl _) hD, [], upd_same, .nil⟩ (fun i H' _ h => SqL.of (h.1 _ _ T3.ck.1)) ?_ ?_⟩
        · rintro i x H4 H4' hi ⟨s4, acc, ha, hap⟩ ⟨rfl, hx⟩
          obtain ⟨cp, hcp, rfl⟩ := at_map hx
          rw [List.length_map] at hi
          obtain ⟨bd, hbd⟩ := at_ex (l := bs) (i := i) (by omega)
          have hc4 := (T3.ck.2.2.2 i cp bd hcp hbd).mono s4
          obtain ⟨cdx, cfs, cba, cpa, c1, c2, c3, c4, c5, c6, c7, c8⟩ := id hc4.ex
          refine ⟨rfl, yes_go ?_⟩
          refine ⟨_, rfl, cp, cdx, cfs, rfl, c1, c5 _ (by decide +kernel) (by decide +kernel) (by decide +kernel), cp, bd.limit, -1, rfl, hc4, fun t pa H5 s5 ht hpa => ?_⟩
          have lac := hap.length
          rw [List.length_replicate] at lac
          have ha5 := s5 _ _ ha
          have t6 := tup_lst (K := K) (o := .lst (acc ++ [.ref t])) ha5
          refine ⟨acc, ha5, size_lt (by omega), same_mut (s4.trans s5) hD, _, upd_same, ?_⟩
          rw [List.replicate_succ']
          exact Paired.snoc (L2.Paired.mapP hap fun _ _ h => (StV.tups s5.tups h).tups t6) (StV.tups t6 ⟨t, pa, rfl, SqT.of ht, hpa⟩)
        · rintro H4 ⟨s4, acc, ha, hap⟩
          rw [List.length_map, lps] at hap
          have s04 := T3.same.trans s4
          refine ⟨_, rfl, by show 2 ≤ sizeLine; decide, fun t1 ht1 => ⟨by show 2 ≤ sizeLine; decide, fun t2 ht2 => ⟨by show 1 ≤ sizeLine; decide, fun t3 ht3 => ?_⟩⟩⟩
          have s5 := same_new (o := .tup [.int (-1), .int 0]) (Same.refl H4) ht1
          have e5 : upd H4 t1 (.tup [.int (-1), .int 0]) t1 = some (.tup [.int (-1), .int 0]) := upd_same
          have s6 := same_new (o := .tup [.ref t1, .int 0]) (Same.refl (upd H4 t1 (.tup [.int (-1), .int 0]))) ht2
          have e6 : upd (upd H4 t1 (.tup [.int (-1), .int 0])) t2 (.tup [.ref t1, .int 0]) t2 = some (.tup [.ref t1, .int 0]) := upd_same
          have s7 := same_new (o := .lst [.ref t2]) (Same.refl (upd (upd H4 t1 (.tup [.int (-1), .int 0])) t2 (.tup [.ref t1, .int 0]))) ht3
          have e7 : upd (upd (upd H4 t1 (.tup [.int (-1), .int 0])) t2 (.tup [.ref t1, .int 0])) t3 (.lst [.ref t2]) t3 = some (.lst [.ref t2]) := upd_same
          have st : StV K (upd (upd (upd H4 t1 (.tup [.int (-1), .int 0])) t2 (.tup [.ref t1, .int 0])) t3 (.lst [.ref t2])) (.ref t2) () := ⟨t2, t1, rfl, SqT.of (s7 _ _ e6), SqT.of (s7 _ _ (s6 _ _ e5))⟩
          have s47 := (s5.trans s6).trans s7
          show (_ : Prop)
          generalize upd (upd (upd H4 t1 (.tup [.int (-1), .int 0])) t2 (.tup [.ref t1, .int 0])) t3 (.lst [.ref t2]) = H7 at e7 st s47 ⊢
          refine ⟨_, rfl, ba, _, rfl, .inl ((s04.trans s47).seq hxs), t3, _, _, rfl, rfl, e7, by omega, by omega, size_le (by show 1 * (xs.length : Int).toNat ≤ 100000; omega), fun D2 hD2 => ?_⟩
          have s8 := same_new (o := .lst (List.replicate (xs.length : Int).toNat [V.ref t2]).flatten) (Same.refl H7) hD2
          have e8 : upd H7 D2 (.lst (List.replicate (xs.length : Int).toNat [V.ref t2]).flatten) D2 = some (.lst (List.replicate bs.length (V.ref t2))) := by
            rw [upd_same, exs, List.flatten_replicate_singleton]
          have hap8 : Paired (StV K (upd H7 D2 (.lst (List.replicate (xs.length : Int).toNat [V.ref t2]).flatten))) acc (List.replicate bs.length ()) := L2.Paired.mapP hap fun _ _ h => StV.tups (s47.trans s8).tups h
          have st8 := StV.tups s8.tups st
          refine ⟨_, _, .lst (SqL.of ((s47.trans s8) _ _ ha)) (stVs_dp hap8), .lst (SqL.of e8) (stVs_dp (rep_paired st8 bs.length)), d0_shaped n2, d0_shaped n2, ?_⟩
          rw [d0_eq n2]
          exact q _ (s04.trans (s47.trans s8))
end
end My
namespace My
open PySem L2
/-! ### _law_longest -/
def longI (b : Bd) (age t : Nat) : Nat → Nat
  | 0 => 0
  | n + 1 => if ansIn b age (n + 1) = true then max (longI b age t n) (t - (n + 1)) else longI b age t n
def longF (b : Bd) (p : S2) (t : Nat) : Nat := if p.1 = 0 then p.2 + t else longI b p.2 t t
theorem longI_ge {b : Bd} {age t : Nat} : ∀ {n i : Nat}, i < n → ansIn b age (i + 1) = true → t - (i + 1) ≤ longI b age t n
  | 0, _, h, _ => absurd h (Nat.not_lt_zero _)
  | n + 1, i, h, ha => by
    show _ ≤ (if ansIn b age (n + 1) = true then max (longI b age t n) (t - (n + 1)) else longI b age t n)
    by_cases e : i = n
    · subst e
      rw [if_pos ha]
      exact Nat.le_max_right _ _
    · have ih := longI_ge (b := b) (age := age) (t := t) (n := n) (i := i) (by omega) ha
      split
      · exact Nat.le_trans ih (Nat.le_max_left _ _)
      · exact ih
theorem longI_le {b : Bd} {age t : Nat} : ∀ n, longI b age t n ≤ t
  | 0 => Nat.zero_le _
  | n + 1 => by
    have ih := longI_le (b := b) (age := age) (t := t) n
    show (if ansIn b age (n + 1) = true then max (longI b age t n) (t - (n + 1)) else longI b age t n) ≤ t
    split
    · omega
    · exact ih
/-- a risk is a clock that falls -/
theorem risk_long {b : Bd} {p : S2} {c : Bool} {t : Nat} (h : (passedF b p c t).1 = true) : p.1 = 0 ∨ p.1 = 1 → b.limit < longF b p t := by
  intro h01
  unfold passedF at h
  unfold longF
  by_cases h1 : p.1 = 1
  · rw [if_pos h1] at h
    rw [if_neg (show ¬ p.1 = 0 by omega)]
    obtain ⟨i, hi, hr⟩ := List.any_eq_true.mp (show ansF b p.2 t t = true from h)
    have hr := Bool.and_eq_true_iff.mp hr
    exact Nat.lt_of_lt_of_le (of_decide_eq_true hr.2) (longI_ge (List.mem_range.mp hi) hr.1)
  · rw [if_neg h1] at h
    rw [if_pos (show p.1 = 0 by omega)]
    by_cases e : b.limit < p.2 + t
    · exact e
    · rw [if_neg e] at h
      split at h <;> cases h
section
variable {P : Program} {w : World} {K : PySem.W.Frag} {mg : Str → Option Value} {base : Heap}
abbrev s_law_longest : Stmt := top 85
abbrev N_law_longest : List Str := ["board", "pair", "ticks", "longest", "tick"]
theorem sc_law_longest : FnScope N_law_longest ["board", "pair", "ticks"] (C8.fnScope s_law_longest) := C8.fnScope_by (by decide +kernel)
def sp_law_longest (K : PySem.W.Frag) : Sp := fun vs H Q _ => ∃ (v u : V) (b : Bd) (p : S2) (t : Nat), vs = [v, u, nV t] ∧ BdV K H v b ∧ PairV K H u p ∧ t ≤ 1000 ∧ ∀ H', Same H H' → Q (nV (longF b p t)) H'
theorem ok_law_longest {f : Addr} {fd : FuncData} (F : C8.Def K mg "_law_longest" s_law_longest f fd) (b : Binds K fd ["board", "pair", "ticks"] []) (T : Gb mg) : C8.Cal P w K mg base 1 "_law_longest" (sp_law_longest K) [] := by
  refine C8.cal0 F b .nil sc_law_longest (fun vs H Q E h => ?_) (fun cdv A outer s H vs Q E hr h => ?_)
  · obtain ⟨v, u, bd, p, t, rfl, _⟩ := h
    rfl
  · obtain ⟨v, u, bd, p, t, rfl, ⟨ba, rfl, hba⟩, ⟨pa, rfl, hpa⟩, ht, q⟩ := h
    refine ⟨_, (pss_cons (ps_if (pt_cmpR op_eq (pe_ix (ix_tupK K rfl) (pv 1) pe_int (fun _ _ => rfl)) pe_int (nomark _))
(pss_one (ps_ret (pe_op op_add (pe_ix (ix_tupK K rfl) (pv 1) pe_int (fun _ _ => rfl)) (pv 2))))
pss_nil)
(pss_cons (ps_set (i := 3) sc_law_longest.nd rfl (Or.inl rfl) pe_int)
(pss_cons (ps_for PassesOwn.never rfl (pi_range2 (by rfl) T.range (pa_cons pe_int (pa_cons (pe_op op_add (pv 2) pe_int) pa_nil))) (pg_name (i := 4) sc_law_longest.nd rfl (Or.inl rfl))
(pss_one (ps_if (PW.pt (pw_and (pt_cmpR op_ge (pe_op op_add (pe_ix (ix_tupK K rfl) (pv 1) pe_int (fun _ _ => rfl)) (pv 4)) (pe_ix (ix_tupK K rfl) (pv 0) pe_int (fun _ _ => rfl)) (nomark _)) (pw_and1 (pt_cmpR op_le (pe_op op_add (pe_ix (ix_tupK K rfl) (pv 1) pe_int (fun _ _ => rfl)) (pv 4)) (pe_ix (ix_tupK K rfl) (pv 0) pe_int (fun _ _ => rfl)) (nomark _)))))
(pss_one (ps_set (i := 3) sc_law_longest.nd rfl (Or.inl rfl) (pe_callB (call_max2 rfl) (by rfl) T.max (by decide +kernel) (pa_cons (pv 3) (pa_cons (pe_op op_sub (pv 2) (pv 4)) pa_nil)))))
pss_nil)))
(pss_one (ps_ret (pv 3)))))), ?_⟩
    have ez : ∀ n : Nat, decide (V.int (n : Int) = V.int 0) = decide (n = 0) := fun n => by rw [dec_int]; exact decide_eq_decide.mpr ⟨fun z => by omega, fun z => by omega⟩
    refine ⟨_, rfl, pa, _, 0, _, rfl, rfl, hpa, rfl, rfl, _, rfl, ?_⟩
    rw [ez]
    unfold longF at q
    by_cases h0 : p.1 = 0
    · rw [if_pos h0] at q
      refine ifT h0 ?_
      exact ⟨_, rfl, pa, _, 1, _, rfl, rfl, hpa, rfl, _, rfl, _, _, rfl, rfl, q H (Same.refl H)⟩
    · rw [if_neg h0] at q
      refine ifF h0 ?_
      refine ⟨_, rfl, _, _, rfl, rfl, 1, (t : Int) + 1, rfl, ⟨by decide, by decide, by omega, by omega⟩, for_it (walk_range (lo := 1) (n := ((t : Int) + 1 - 1).toNat)) (fun i σ H' => Same H H' ∧ ∃ v4, σ = [some (.ref ba), some (.ref pa), some (nV t), some (nV (longI bd p.2 t i)), v4])
        ⟨Same.refl _, _, rfl⟩ (fun _ _ _ _ _ => trivial) ?_ ?_⟩
      · rintro i x σ H1 H1' hi ⟨s1, v4, rfl⟩ ⟨rfl, rfl⟩
        have hi : i < t := by omega
        have hba1 := s1.tup hba
        have hpa1 := s1.tup hpa
        have e1 : longI bd p.2 t (i + 1) = if ansIn bd p.2 (i + 1) = true then max (longI bd p.2 t i) (t - (i + 1)) else longI bd p.2 t i := rfl
        have ea : ansIn bd p.2 (i + 1) = (decide (bd.soon ≤ p.2 + (i + 1)) && decide (p.2 + (i + 1) ≤ bd.late)) := rfl
        rw [e1, ea]
        refine ⟨_, rfl, pa, _, 1, _, rfl, rfl, hpa1, rfl, _, rfl, _, _, rfl, rfl, _, rfl, ba, _, 2, _, rfl, rfl, hba1, rfl, _, _, rfl, rfl, _, rfl, ?_⟩
        by_cases h1 : bd.soon ≤ p.2 + (i + 1)
        · refine ifT (by show (p.2 : Int) + (1 + (i : Int)) ≥ bd.soon; omega) ?_
          refine ⟨_, rfl, pa, _, 1, _, rfl, rfl, hpa1, rfl, _, rfl, _, _, rfl, rfl, _, rfl, ba, _, 3, _, rfl, rfl, hba1, rfl, _, _, rfl, rfl, _, rfl, ?_⟩
          rw [decide_eq_true h1, Bool.true_and]
          by_cases h2 : p.2 + (i + 1) ≤ bd.late
          · refine ifT (by show (p.2 : Int) + (1 + (i : Int)) ≤ bd.late; omega) ?_
            rw [decide_eq_true h2, if_pos rfl]
            refine ⟨_, rfl, _, rfl, _, rfl, _, _, rfl, rfl, _, _, rfl, ?_⟩
            have em : (if (t : Int) - (1 + (i : Int)) > ((longI bd p.2 t i : Nat) : Int) then (t : Int) - (1 + (i : Int)) else ((longI bd p.2 t i : Nat) : Int)) = ((max (longI bd p.2 t i) (t - (i + 1)) : Nat) : Int) := by
              split <;> omega
            exact ⟨s1, some (.int (1 + (i : Int))), congrArg (fun z : Int => [some (V.ref ba), some (V.ref pa), some (nV t), some (V.int z), some (V.int (1 + (i : Int)))]) em⟩
          · refine ifF (by show ¬ (p.2 : Int) + (1 + (i : Int)) ≤ bd.late; omega) ?_
            rw [decide_eq_false h2, if_neg Bool.false_ne_true]
            exact ⟨s1, _, rfl⟩
        · refine ifF (by show ¬ (p.2 : Int) + (1 + (i : Int)) ≥ bd.soon; omega) ?_
          rw [decide_eq_false h1, Bool.false_and, if_neg Bool.false_ne_true]
          exact ⟨s1, _, rfl⟩
      · rintro σ H1 ⟨s1, v4, rfl⟩
        have et : ((t : Int) + 1 - 1).toNat = t := by omega
        rw [et]
        exact ⟨_, rfl, q H1 s1⟩
end
end My
namespace My
open PySem L2
/-! ### _law_falls -/
theorem able_nodup (p : Pl) : (ableI p).Nodup := by
  unfold ableI ableN
  refine List.nodup_cons.mpr ⟨fun z => ?_, ?_⟩
  · obtain ⟨n, _, e⟩ := List.mem_map.mp z
    omega
  · refine List.Pairwise.map _ (fun a b h e => h (Int.ofNat.inj e)) (List.nodup_range.filter _)
theorem idxOf_at {l : List Int} (h : l.Nodup) {i : Nat} {c : Int} (e : l[i]? = some c) : l.idxOf c = i := by
  have hm := List.mem_of_getElem? e
  have hl := List.idxOf_lt_length_of_mem hm
  exact nodup_idx h (by rw [List.getElem?_eq_getElem hl, List.getElem_idxOf hl]) e
theorem cut_last (xs : List V) (x : V) : cutV (xs ++ [x]) none (some (-1)) = xs := by
  unfold cutV
  rw [HT.sIx_none]
  have e : HT.sIx (xs ++ [x]).length (xs ++ [x]).length (some (-1)) = xs.length := by
    show (if (-1 : Int) < 0 then ((-1 : Int) + ((xs ++ [x]).length : Int)).toNat else min ((-1 : Int)).toNat (xs ++ [x]).length) = xs.length
    rw [if_pos (by decide), List.length_append, List.length_singleton]
    omega
  rw [e, List.drop_zero, Nat.sub_zero, List.take_append_of_le_length (Nat.le_refl _), List.take_length]
theorem eqv_pls (L : List Pl) : PyData.eqv (.list (L.map fun p => (pk p).data)) (.list (L.map fun p => (pk p).data)) = true := by
  refine PySem.W.eqv_refl_alike _ ?_
  show PySem.W.alikeAll (L.map fun p => (pk p).data) (L.map fun p => (pk p).data) = true
  induction L with
  | nil => rfl
  | cons p L ih =>
    show (PySem.W.alike (pk p).data (pk p).data && PySem.W.alikeAll (L.map fun p => (pk p).data) (L.map fun p => (pk p).data)) = true
    rw [alike_pk, ih]
    rfl
/-- the hand so far leads from start to p -/
structure Along (bs : List Bd) (R : List Pl) (rk : Pl → Nat) (start : Pl) (hs : List Int) (pre : List Pl) (p : Pl) : Prop where
  go : ∀ rest, (courseF bs R rk start (hs ++ rest)).1 = pre ++ (courseF bs R rk p rest).1 ∧ (courseF bs R rk start (hs ++ rest)).2 = (courseF bs R rk p rest).2
  ok : ∀ rest, courseOk bs R rk p rest → courseOk bs R rk start (hs ++ rest)
theorem Along.nil {bs : List Bd} {R : List Pl} {rk : Pl → Nat} {start : Pl} : Along bs R rk start [] [] start := ⟨fun _ => ⟨rfl, rfl⟩, fun _ h => h⟩
theorem Along.step {bs : List Bd} {R : List Pl} {rk : Pl → Nat} {start : Pl} {hs : List Int} {pre : List Pl} {p q : Pl} {c : Int} (h : Along bs R rk start hs pre p) (hc : c ∈ ableI p) (e : (picksF bs R rk p)[(ableI p).idxOf c]? = some (some q)) : Along bs R rk start (hs ++ [c]) (pre ++ [p]) q := by
  refine ⟨fun rest => ?_, fun rest hr => ?_⟩
  · obtain ⟨h1, h2⟩ := h.go (c :: rest)
    rw [courseF_go e] at h1 h2
    rw [List.append_assoc, List.append_assoc]
    exact ⟨h1, h2⟩
  · rw [List.append_assoc]
    refine h.ok (c :: rest) ⟨hc, fun q' e' => ?_⟩
    rw [e] at e'
    cases e'
    exact hr
section
variable {P : Program} {w : World} {K : PySem.W.Frag} {mg : Str → Option Value} {base : Heap}
abbrev s_law_falls : Stmt := top 86
abbrev N_law_falls : List Str := ["script", "boards", "paper", "start", "place", "due", "hand", "fallen", "turn", "able", "n", "at", "handed", "told", "ticks", "clocks", "down", "k", "used"]
theorem sc_law_falls : FnScope N_law_falls ["script", "boards", "paper", "start"] (C8.fnScope s_law_falls) := C8.fnScope_by (by decide +kernel)
def sp_law_falls (K : PySem.W.Frag) (w : World) : Sp := fun vs H Q _ => ∃ (sa ba d va : Addr) (vxs : List V) (ns : List Int) (bs : List Bd) (start : Pl) (ks R L : List Pl) (rk : Pl → Nat) (f : Pl → V), vs = [.ref sa, .ref ba, .ref d, .ref va] ∧ SqL K H sa (ns.map V.int) ∧ BdsAt K H ba bs ∧ BdsLaw bs ∧ SqT K H va vxs ∧ Paired (PairV K H) vxs start ∧ Ranks bs start ks R rk ∧ start ∈ R ∧ PapL bs start ks R rk L ∧
  DF K w pk H d L f ∧ (∀ k ∈ L, PapV K H bs R rk (f k) k) ∧ ∀ H', Same H H' → Q (.bl true) H'
theorem ok_law_falls {CC CB f fp pp : Addr} {fd fdp : FuncData} (F : C8.Def K mg "_law_falls" s_law_falls f fd) (b : Binds K fd ["script", "boards", "paper", "start"] []) (T : Gb mg) (cc : ClsC K CC) (c__law_able : C8.Cal P w K mg base 1 "_law_able" (sp_law_able K) []) (c__law_cell : C8.Cal P w K mg base 1 "_law_cell" (sp_law_cell K) []) (c__law_numbers : C8.Cal P w K mg base 1 "_law_numbers" sp_law_numbers [])
    (c_courseL : C8.Cal P w K mg base 6 "course" (sp_courseL K) []) (c_courseT : C8.Cal P w K mg base 6 "course" (sp_courseT K) []) (c__law_clocks : C8.Cal P w K mg base 7 "_law_clocks" (sp_law_clocks K CC CB) []) (c__law_longest : C8.Cal P w K mg base 1 "_law_longest" (sp_law_longest K) []) (m_spend : C8.Met P w K mg base 4 CC "spend" (sp_spend K CC CB) [])
    (Fp : FnOk P w K mg base C8.CX0 1 fp fdp ["self"] (sp_fallen K CC CB)) (hpr : PropOf K CC "fallen" pp fp) (bp : Binds K fdp ["self"] []) : C8.Cal P w K mg base 8 "_law_falls" (sp_law_falls K w) [] := by
  refine C8.cal0 F b .nil sc_law_falls (fun vs H Q E h => ?_) (fun cdv A outer s H vs Q E hr h => ?_)
  · obtain ⟨sa, ba, d, va, vxs, ns, bs, start, ks, R, L, rk, ff, rfl, _⟩ := h
    rfl
  · obtain ⟨sa, ba, d, va, vxs, ns, bs, start, ks, R, L, rk, ff, rfl, hsa, hB, hbs, hva, hvp, RK, hin, hL, dl, hff, q⟩ := h
    obtain ⟨xs, hxs, hxp⟩ := hB.ex
    have l1 := hxp.length
    have hok := hbs.ok
    have n2 := hok.n2
    have hso := RK.pls start RK.start
    have hsl := okPl_len hso
    have hrk : rk start ≤ 190 := by
      have h1 := (RK.ok.low start hin).2.1
      have h2 := nodup_len RK.nd (m := allPl bs) fun k hk => mem_allPl (RK.pls k hk)
      have h3 := hbs.few
      omega
    refine ⟨_, (pss_cons (ps_set (i := 4) sc_law_falls.nd rfl (Or.inl rfl) (pv 3))
(pss_cons (ps_set (i := 5) sc_law_falls.nd rfl (Or.inl rfl) (pe_lst (pa_cons (pv 3) pa_nil)))
(pss_cons (ps_set (i := 6) sc_law_falls.nd rfl (Or.inl rfl) (pe_lst pa_nil))
(pss_cons (ps_set (i := 7) sc_law_falls.nd rfl (Or.inl rfl) pe_bl)
(C8.pss_cut (ps_for PassesOwn.never rfl (pi_range1 (by rfl) T.range (pa_cons pe_int pa_nil)) (pg_name (i := 8) sc_law_falls.nd rfl (Or.inl rfl))
(pss_cons (ps_set (i := 9) sc_law_falls.nd rfl (Or.inl rfl) (C8.pe_c c__law_able hr (by decide) (by rfl) (pa_cons (pv 4) pa_nil)))
(pss_cons (ps_set (i := 10) sc_law_falls.nd rfl (Or.inl rfl) (C8.pe_c c__law_numbers hr (by decide) (by rfl) (pa_cons (C8.pe_c c__law_cell hr (by decide) (by rfl) (pa_cons (pv 0) (pa_cons (pe_op op_add pe_int (pe_op op_mod (pe_callTy call_int1 (by rfl) T.int (by decide +kernel) (pa_cons (pv 8) pa_nil)) pe_int)) pa_nil))) (pa_cons (pe_op op_add pe_int (pv 8)) (pa_cons pe_int (pa_cons pe_int pa_nil))))))
(pss_cons (ps_set (i := 11) sc_law_falls.nd rfl (Or.inl rfl) (pe_op op_mod (pe_callTy call_int1 (by rfl) T.int (by decide +kernel) (pa_cons (pe_ix (ix_listK K rfl) (pv 10) pe_int (fun _ _ => rfl)) pa_nil)) (pe_callB (call_lenK K rfl) (by rfl) T.len PySem.boot_len (pa_cons (pv 9) pa_nil))))
(pss_cons (ps_expr (pe_bm PySem.F.plainAttrs_list PySem.F.slot_list_append PySem.F.type_list_append mt_append (pv 6) (pa_cons (pe_ix (ix_listK K rfl) (pv 9) (pv 11) (fun _ _ => rfl)) pa_nil)))
(pss_cons (ps_if (pt_cmpR op_isN (pe_ix (ix_tupK K rfl) (pe_ix (ix_tupK K rfl) (pe_ix (ix_dNK (K := K) (w := w) rfl rfl (Nat.lt_of_le_of_lt (Nat.add_le_add_left (by decide) _) hr.un)) (pv 2) (pv 4) (fun _ _ => rfl)) pe_int (fun _ _ => rfl)) (pv 11) (fun _ _ => rfl)) pe_non (nomark _))
(pss_cons (ps_set (i := 7) sc_law_falls.nd rfl (Or.inl rfl) pe_bl)
(pss_one ps_break))
pss_nil)
(pss_cons (ps_set (i := 4) sc_law_falls.nd rfl (Or.inl rfl) (pe_ix (ix_tupK K rfl) (pe_ix (ix_tupK K rfl) (pe_ix (ix_dNK (K := K) (w := w) rfl rfl (Nat.lt_of_le_of_lt (Nat.add_le_add_left (by decide) _) hr.un)) (pv 2) (pv 4) (fun _ _ => rfl)) pe_int (fun _ _ => rfl)) (pv 11) (fun _ _ => rfl)))
(pss_one (ps_expr (pe_bm PySem.F.plainAttrs_list PySem.F.slot_list_append PySem.F.type_list_append mt_append (pv 5) (pa_cons (pv 4) pa_nil)))))))))))
(pss_cons (ps_set (i := 12) sc_law_falls.nd rfl (Or.inl rfl) (pe_op op_cat (pv 6) (pe_lst (pa_cons pe_int pa_nil))))
(pss_cons (ps_set (i := 13) sc_law_falls.nd rfl (Or.inl rfl) (C8.pe_c c_courseL hr (by decide) (by rfl) (pa_cons (pv 1) (pa_cons (pv 3) (pa_cons (pv 12) pa_nil)))))
(pss_cons (ps_if (PW.pt (pw_or (pt_not (pt_val (pv 7))) (pw_or (pt_not (pt_val (pe_callB call_isi (by rfl) T.isinstance (by decide +kernel) (pa_cons (pv 13) (pa_cons (pe_bltn (v := .ty "tuple") (by rfl) T.tuple (by decide +kernel) rfl) pa_nil))))) (pw_or (pt_cmpR op_ne (pe_callB (call_lenK K rfl) (by rfl) T.len PySem.boot_len (pa_cons (pv 13) pa_nil)) pe_int (nomark _)) (pw_or (pt_cmpR op_notBl (pe_ix (ix_tupK K rfl) (pv 13) pe_int (fun _ _ => rfl)) pe_bl (nomark _)) (pw_or1 (pt_cmpR (op_neD (Nat.lt_of_le_of_lt (Nat.add_le_add_left (by decide) _) hr.un)) (pe_ix (ix_tupK K rfl) (pv 13) pe_int (fun _ _ => rfl)) (pv 5) (nomark _))))))))
(pss_one (ps_ret pe_bl))
pss_nil)
(pss_cons (ps_set (i := 13) sc_law_falls.nd rfl (Or.inl rfl) (C8.pe_c c_courseT hr (by decide) (by rfl) (pa_cons (pe_callTy call_list_of (by rfl) T.list (by decide +kernel) (pa_cons (pv 1) pa_nil)) (pa_cons (pv 3) (pa_cons (pe_callTy (call_tupK K rfl) (by rfl) T.tuple (by decide +kernel) (pa_cons (pe_slice sl_list (pv 6) po_none (po_some (pe_un un_neg pe_int))) pa_nil)) pa_nil)))))
(pss_cons (ps_if (PW.pt (pw_or (pt_not (pt_val (pe_callB call_isi (by rfl) T.isinstance (by decide +kernel) (pa_cons (pv 13) (pa_cons (pe_bltn (v := .ty "tuple") (by rfl) T.tuple (by decide +kernel) rfl) pa_nil))))) (pw_or (pt_cmpR op_ne (pe_callB (call_lenK K rfl) (by rfl) T.len PySem.boot_len (pa_cons (pv 13) pa_nil)) pe_int (nomark _)) (pw_or (pt_cmpR op_notBl (pe_ix (ix_tupK K rfl) (pv 13) pe_int (fun _ _ => rfl)) pe_bl (nomark _)) (pw_or1 (pt_cmpR (op_neD (Nat.lt_of_le_of_lt (Nat.add_le_add_left (by decide) _) hr.un)) (pe_ix (ix_tupK K rfl) (pv 13) pe_int (fun _ _ => rfl)) (pv 5) (nomark _)))))))
(pss_one (ps_ret pe_bl))
pss_nil)
(C8.pss_cut (ps_set (i := 14) sc_law_falls.nd rfl (Or.inl rfl) (pe_ifExp (pt_cmpR op_lt (pe_ix (ix_listK K rfl) (pv 6) (pe_un un_neg pe_int) (fun _ _ => rfl)) pe_int (nomark _)) pe_int (pe_ix (ix_tupK K rfl) (pe_ix (ix_listK K rfl) (pv 1) (pe_ix (ix_listK K rfl) (pv 6) (pe_un un_neg pe_int) (fun _ _ => rfl)) (fun _ _ => rfl)) pe_int (fun _ _ => rfl))))
(pss_cons (ps_set (i := 15) sc_law_falls.nd rfl (Or.inl rfl) (C8.pe_c c__law_clocks hr (by decide) (by rfl) (pa_cons (pv 1) pa_nil)))
(pss_cons (ps_set (i := 16) sc_law_falls.nd rfl (Or.inl rfl) pe_int)
(pss_cons (ps_for PassesOwn.never rfl (pi_range1 (by rfl) T.range (pa_cons (pe_callB (call_lenK K rfl) (by rfl) T.len PySem.boot_len (pa_cons (pv 1) pa_nil)) pa_nil)) (pg_name (i := 17) sc_law_falls.nd rfl (Or.inl rfl))
(pss_cons (ps_set (i := 18) sc_law_falls.nd rfl (Or.inl rfl) (C8.pe_c c__law_longest hr (by decide) (by rfl) (pa_cons (pe_ix (ix_listK K rfl) (pv 1) (pv 17) (fun _ _ => rfl)) (pa_cons (pe_ix (ix_tupK K rfl) (pv 4) (pv 17) (fun _ _ => rfl)) (pa_cons (pv 14) pa_nil)))))
(pss_cons (ps_if (pt_cmpR op_ne (C8.pe_mt m_spend hr (by decide) (pe_ix (ix_listK K rfl) (pv 15) (pv 17) (fun _ _ => rfl)) (pa_cons (pv 18) pa_nil)) (pe_cmpR op_le (pv 18) (pe_ix (ix_tupK K rfl) (pe_ix (ix_listK K rfl) (pv 1) (pv 17) (fun _ _ => rfl)) pe_int (fun _ _ => rfl)) (nomark _)) (nomark _))
(pss_one (ps_ret pe_bl))
pss_nil)
(pss_one (ps_if (pt_cmpR op_gt (pv 18) (pe_ix (ix_tupK K rfl) (pe_ix (ix_listK K rfl) (pv 1) (pv 17) (fun _ _ => rfl)) pe_int (fun _ _ => rfl)) (nomark _))
(pss_cons (ps_set (i := 16) sc_law_falls.nd rfl (Or.inl rfl) (pe_op op_add (pv 16) pe_int))
(pss_one (ps_if (pt_not (pt_val (pe_prop (E := C8.E0) (pe_ix (ix_listK K rfl) (pv 15) (pv 17) (fun _ _ => rfl)) cc.cl hpr Fp (hr.mono (by decide)) bp .nil C8.pass0 rfl)))
(pss_one (ps_ret pe_bl))
pss_nil)))
pss_nil)))))
(pss_one (ps_ret (pe_cmpR op_gt (pv 16) pe_int (nomark _)))))))))))))))))), ?_⟩
    have hvP : PlV K H (.ref va) start := ⟨va, vxs, rfl, hva, hvp⟩
    refine ⟨_, rfl, ?_⟩
    refine ⟨_, rfl, by show 1 ≤ sizeLine; decide, fun du hdu => ?_⟩
    refine ⟨by show 0 ≤ sizeLine; decide, fun ha hha => ?_⟩
    have s1 := same_new (o := .lst [.ref va]) (Same.refl H) hdu
    have hdu1 : upd H du (.lst [.ref va]) du = some (.lst [.ref va]) := upd_same
    have s2 := s1.trans (same_new (o := .lst []) (Same.refl _) hha)
    have hdu2 := same_new (o := .lst []) (Same.refl _) hha _ _ hdu1
    have hha2 : upd (upd H du (.lst [.ref va])) ha (.lst []) ha = some (.lst []) := upd_same
    have hhaH : H ha = none := s1.free hha
    have nda : du ≠ ha := ne_of_none' hdu1 hha
    generalize upd (upd H du (.lst [.ref va])) ha (.lst []) = H2 at s2 hdu2 hha2 ⊢
    -- along the hand
    refine ⟨fun σ H' => ∃ pre p hs c v4 v8 v9 v10 v11, Same H H' ∧ RowsPl K H' du (pre ++ [p]) ∧ H' ha = some (.lst ((hs ++ [c]).map V.int)) ∧ PlV K H' v4 p ∧ p ∈ L ∧ c ∈ ableI p ∧ (picksF bs R rk p)[(ableI p).idxOf c]? = some none ∧ Along bs R rk start hs pre p ∧ hs.length ≤ 200 ∧ σ = [some (.ref sa), some (.ref ba), some (.ref d), some (.ref va), some v4, some (.ref du), some (.ref ha), some (.bl true), v8, v9, v10, v11, none, none, none, none, none, none, none], ?_, ?_⟩
    · refine ⟨200, rfl, by decide, by decide, for_it (walk_range (lo := 0) (n := 200)) (fun i σ H' => ∃ pre p hs v4 v8 v9 v10 v11, Same H H' ∧ RowsPl K H' du (pre ++ [p]) ∧ H' ha = some (.lst (hs.map V.int)) ∧ PlV K H' v4 p ∧ p ∈ L ∧ Along bs R rk start hs pre p ∧ hs.length = i ∧ rk p + i ≤ rk start ∧ σ = [some (.ref sa), some (.ref ba), some (.ref d), some (.ref va), some v4, some (.ref du), some (.ref ha), some (.bl false), v8, v9, v10, v11, none, none, none, none, none, none, none])
        ⟨[], start, [], .ref va, _, _, _, _, s2, ⟨[.ref va], hdu2, .cons (hvP.mono s2) .nil⟩, hha2, hvP.mono s2, hL.start, Along.nil, rfl, Nat.le_refl _, rfl⟩ (fun _ _ _ _ _ => trivial) ?_ ?_⟩
      · rintro i x σ H3 H3' hi ⟨pre, p, hs, v4, v8, v9, v10, v11, s3, ⟨dvs, hdv, hdp⟩, hha3, hpv, hpL, hAl, hhl, hri, rfl⟩ ⟨rfl, rfl⟩
        obtain ⟨hpk, hpR⟩ := hL.sub p hpL
        have hpo := RK.pls p hpk
        have hpl := okPl_len hpo
        refine ⟨_, rfl, _, p, rfl, hpv, by omega, fun oc H4 s4 hoc hocl => ?_⟩
        have ei2 : (10 : Int) + (0 + (i : Int)) % 50 = ((10 + i % 50 : Nat) : Int) := by omega
        have ei3 : (50 : Int) + (0 + (i : Int)) = ((50 + i : Nat) : Int) := by omega
        refine ⟨_, rfl, _, rfl, .inl ⟨_, rfl, _, _, rfl, rfl, by show (0 : Int) < 50; decide, _, _, rfl, rfl, sa, ns, 10 + i % 50, by rw [← ei2]; rfl, (s3.trans s4).seq hsa, fun c => ?_⟩⟩
        refine ⟨_, rfl, _, _, rfl, rfl, c, 50 + i, 1, 5040, by rw [← ei3]; rfl, by omega, by decide, by decide, by decide, fun ma m H5 s5 hma hm5 hml hmb => ?_⟩
        have s34 := s4.trans s5
        have s05 := s3.trans s34
        obtain ⟨m0, hm0⟩ := at_ex (l := m) (i := 0) (by omega)
        have hocl5 := s5 _ _ hocl
        have hap : 0 < (ableI p).length := by unfold ableI; rw [List.length_cons]; omega
        have lmap : ((ableI p).map V.int).length = (ableI p).length := List.length_map _
        refine ⟨_, rfl, ma, _, 0, nV m0, rfl, rfl, SqL.of hm5, atI_nat (j := 0) (nV_at hm0), .inl ⟨_, rfl, _, rfl, oc, _, rfl, .inl (SqL.of hocl5), _, _, rfl, rfl, by show (0 : Int) < (((ableI p).map V.int).length : Int); omega, ?_⟩⟩
        have hlt : m0 % ((ableI p).map V.int).length < ((ableI p).map V.int).length := Nat.mod_lt _ (by omega)
        have em : (m0 : Int) % ((((ableI p).map V.int).length : Nat) : Int) = ((m0 % ((ableI p).map V.int).length : Nat) : Int) := rfl
        dsimp only
        rw [em]
        generalize m0 % ((ableI p).map V.int).length = at_ at hlt ⊢
        obtain ⟨ca, hca⟩ := at_ex (l := ableI p) (i := at_) (by omega)
        have hcam := List.mem_of_getElem? hca
        have hidx := idxOf_at (able_nodup p) hca
        have hha5 := s34 _ _ hha3
        refine ⟨_, rfl, .inl ⟨rfl, _, SqL.of hha5⟩, _, rfl, _, rfl, oc, _, _, .int ca, rfl, rfl, SqL.of hocl5, atI_nat (by rw [List.getElem?_map, hca]; rfl), ha, _, _, rfl, rfl, hha5, size_lt (by rw [List.length_map]; omega), ?_⟩
        have t6 := tup_lst (K := K) (o := .lst (hs.map V.int ++ [.int ca])) hha5
        have s6 : Same H (upd H5 ha (.lst (hs.map V.int ++ [.int ca]))) := same_mut s05 hhaH
        have hha6 : upd H5 ha (.lst (hs.map V.int ++ [.int ca])) ha = some (.lst ((hs ++ [ca]).map V.int)) := by rw [upd_same, List.map_append]; rfl
        have hdv6 : upd H5 ha (.lst (hs.map V.int ++ [.int ca])) du = some (.lst dvs) := (upd_ne nda).trans (s34 _ _ hdv)
        have hdp6 : Paired (PlV K (upd H5 ha (.lst (hs.map V.int ++ [.int ca])))) dvs (pre ++ [p]) := L2.Paired.mapP hdp fun _ _ h => (PlV.mono s34 h).tups t6
        have hpv6 := (hpv.mono s34).tups t6
        generalize upd H5 ha (.lst (hs.map V.int ++ [.int ca])) = H6 at s6 hha6 hdv6 hdp6 hpv6 ⊢
        obtain ⟨vb, vbx, rfl, hvb, hvbp⟩ := id hpv6
        obtain ⟨ra, xv, aa, axs, er, hra, hxv, haa, hax⟩ := (hff p hpL).tups s6.tups
        have dl6 := dl.same s6
        have lpk : (picksF bs R rk p).length = (rowF bs p).length := List.length_map _
        have lrow : (rowF bs p).length = (ableI p).length := List.length_map _
        obtain ⟨pk0, hpk0⟩ := at_ex (l := picksF bs R rk p) (i := at_) (by omega)
        obtain ⟨av, hav, havV⟩ := paired_at2 hax hpk0
        refine ⟨_, rfl, _, rfl, dl6.get hpL (plV_key hpv6) (pk_depth _) ?_⟩
        rw [er]
        refine ⟨ra, _, 2, _, rfl, rfl, hra, rfl, _, rfl, aa, axs, _, av, rfl, rfl, haa, atI_nat hav, rfl, _, rfl, ?_⟩
        cases pk0 with
        | none =>
          have e : av = .non := havV
          subst e
          refine ifT rfl ?_
          exact ⟨pre, p, hs, ca, _, _, _, _, _, s6, ⟨dvs, hdv6, hdp6⟩, hha6, hpv6, hpL, hcam, by rw [hidx]; exact hpk0, hAl, by omega, rfl⟩
        | some q' =>
          have havV : PlV K H6 av q' := havV
          obtain ⟨ya, yxs, rfl, hya, hyp⟩ := id havV
          refine ifF (fun z => nomatch z) ?_
          refine ⟨_, rfl, _, rfl, dl6.get hpL (plV_key hpv6) (pk_depth _) ?_⟩
          rw [er]
          refine ⟨ra, _, 2, _, rfl, rfl, hra, rfl, _, rfl, aa, axs, _, _, rfl, rfl, haa, atI_nat hav, ?_⟩
          have hqm : some q' ∈ picksF bs R rk p := List.mem_of_getElem? hpk0
          have hqL := hL.closed p hpL q' hqm
          have hlow : rk q' < rk p := by
            obtain ⟨r, hr, e⟩ := List.mem_map.mp hqm
            cases hb : r.1 with
            | true => rw [(RK.ok.pick hpR hr).1 hb] at e; cases e
            | false =>
              obtain ⟨q2, e2, _, _, h4⟩ := (RK.ok.pick hpR hr).2 hb
              rw [e] at e2
              cases e2
              exact h4
          have ldv := hdp6.length
          rw [List.length_append, List.length_singleton] at ldv
          have lpre : pre.length ≤ 1000 := by
            have h1 := (hAl.go []).1
            have : ∀ (hs : List Int) (s : Pl), (courseF bs R rk s hs).1.length ≤ hs.length + 1 := fun hs => by
              induction hs with
              | nil => intro s; exact Nat.le_refl _
              | cons c hs ih =>
                intro s
                show (match (picksF bs R rk s)[(ableI s).idxOf c]? with | some (some q) => (s :: (courseF bs R rk q hs).1, (courseF bs R rk q hs).2) | _ => ([s], true)).1.length ≤ _
                split
                · rename_i q _
                  have := ih q
                  show ((courseF bs R rk q hs).1.length + 1) ≤ _
                  rw [List.length_cons]
                  omega
                · show 1 ≤ _
                  omega
            have h2 := this (hs ++ []) start
            rw [h1, List.length_append, List.length_append] at h2
            have : hs.length < 200 := by omega
            rw [List.length_nil] at h2
            omega
          refine ⟨_, rfl, .inl ⟨rfl, _, SqL.of hdv6⟩, _, rfl, du, dvs, _, rfl, rfl, hdv6, size_lt (by omega), ?_⟩
          have t7 := tup_lst (K := K) (o := .lst (dvs ++ [.ref ya])) hdv6
          exact ⟨pre ++ [p], q', hs ++ [ca], _, _, _, _, _, same_mut s6 hdu, ⟨_, upd_same, Paired.snoc (L2.Paired.mapP hdp6 fun _ _ h => PlV.tups t7 h) (havV.tups t7)⟩, (upd_ne (Ne.symm nda)).trans hha6, havV.tups t7, hqL, hAl.step hcam (by rw [hidx]; exact hpk0), by rw [List.length_append, hhl]; rfl, by omega, rfl⟩
      · rintro σ H3 ⟨pre, p, hs, v4, v8, v9, v10, v11, s3, hdv, hha3, hpv, hpL, hAl, hhl, hri, rfl⟩
        have := (RK.ok.low p (hL.sub p hpL).2).1
        omega
    rintro σ H3 ⟨pre, p, hs, c, v4, v8, v9, v10, v11, s3, ⟨dvs, hdv, hdp⟩, hha3, hpv, hpL, hcm, hpick, hAl, hhl, rfl⟩
    obtain ⟨hpk, hpR⟩ := hL.sub p hpL
    have hpo := RK.pls p hpk
    have hpl := okPl_len hpo
    have c7 : courseF bs R rk p [c, 7] = ([p], true) := courseF_end hpick
    have c0 : courseF bs R rk p [] = ([p], false) := rfl
    have hgo7 := hAl.go [c, 7]
    have hgo0 := hAl.go []
    rw [c7] at hgo7
    rw [c0, List.append_nil] at hgo0
    have ok7 : courseOk bs R rk start (hs ++ [c, 7]) := hAl.ok _ ⟨hcm, fun q' e => by rw [hpick] at e; cases e⟩
    have ok0 : courseOk bs R rk start hs := by have := hAl.ok [] trivial; rw [List.append_nil] at this; exact this
    -- the hand and one more
    refine ⟨_, rfl, by show 1 ≤ sizeLine; decide, fun t1 ht1 => ?_⟩
    have s4 := same_new (o := .lst [.int 7]) (Same.refl H3) ht1
    have ht14 : upd H3 t1 (.lst [.int 7]) t1 = some (.lst [.int 7]) := upd_same
    show (_ : Prop)
    generalize upd H3 t1 (.lst [.int 7]) = H4 at s4 ht14 ⊢
    refine ⟨ha, t1, _, _, rfl, rfl, s4 _ _ hha3, ht14, size_le (by rw [List.length_map, List.length_append]; show hs.length + 1 + 1 ≤ 100000; omega), fun t2 ht2 => ?_⟩
    have s5 := s4.trans (same_new (o := .lst ((hs ++ [c]).map V.int ++ [.int 7])) (Same.refl H4) ht2)
    have ht25 : upd H4 t2 (.lst ((hs ++ [c]).map V.int ++ [.int 7])) t2 = some (.lst ((hs ++ [c, 7]).map V.int)) := by
      rw [upd_same, List.map_append, List.map_append, List.append_assoc]
      rfl
    generalize upd H4 t2 (.lst ((hs ++ [c]).map V.int ++ [.int 7])) = H5 at s5 ht25 ⊢
    have s05 := s3.trans s5
    refine ⟨_, rfl, _, rfl, _, rfl, ba, va, t2, vxs, bs, start, ks, R, rk, hs ++ [c, 7], rfl, hB.mono s05, s05.tup hva, L2.Paired.mapP hvp (fun _ _ => PairV.mono s05), hso, hok, RK, hin, SqL.of ht25, by rw [List.length_append]; show hs.length + 2 ≤ 1000; omega, ok7, fun t sl H6 s6 ht6 hsl6 => ?_⟩
    rw [hgo7.2] at ht6
    rw [hgo7.1] at hsl6
    have s36 := s5.trans s6
    have hdu6 : RowsPl K H6 du (pre ++ [p]) := RowsPl.mono s36 ⟨dvs, hdv, hdp⟩
    refine ⟨_, rfl, true, rfl, ?_⟩
    refine iteF ?_
    refine ⟨_, rfl, .ref t, .ty "tuple", .type "tuple", .type "tuple", true, rfl, .ty _, .base (.tup ht6), kit_ty (by decide +kernel), true, rfl, ?_⟩
    refine iteF ?_
    refine ⟨_, rfl, t, _, rfl, .inr (SqT.of ht6), rfl, _, rfl, ?_⟩
    refine ifNF rfl ?_
    refine ⟨_, rfl, t, _, 1, _, rfl, rfl, SqT.of ht6, rfl, _, _, rfl, rfl, _, rfl, ?_⟩
    refine ifNF rfl ?_
    refine ⟨_, rfl, t, _, 0, _, rfl, rfl, SqT.of ht6, rfl, _, rfl, _, _, rowsPl_dp hsl6, rowsPl_dp hdu6, shaped_pls _, shaped_pls _, _, rfl, ?_⟩
    rw [eqv_pls]
    refine iteF ?_
    -- the hand without its last choice
    have s06 := s3.trans s36
    have hxs6 := s06.seq hxs
    refine ⟨_, rfl, ba, xs, rfl, .inl hxs6, fun l2 hl2 => ?_⟩
    have s7 := same_new (o := .lst xs) (Same.refl H6) hl2
    have hl27 : upd H6 l2 (.lst xs) l2 = some (.lst xs) := upd_same
    show (_ : Prop)
    generalize upd H6 l2 (.lst xs) = H7 at s7 hl27 ⊢
    have hha7 := (s36.trans s7) _ _ hha3
    refine ⟨_, rfl, _, rfl, _, rfl, _, rfl, ha, _, rfl, SqL.of hha7, fun t3 ht3 => ?_⟩
    have ecut : cutV ((hs ++ [c]).map V.int) none (some (-1)) = hs.map V.int := by rw [List.map_append]; exact cut_last _ _
    have s8 := s7.trans (same_new (o := .lst (cutV ((hs ++ [c]).map V.int) none (some (-1)))) (Same.refl H7) ht3)
    have ht38 : upd H7 t3 (.lst (cutV ((hs ++ [c]).map V.int) none (some (-1)))) t3 = some (.lst (hs.map V.int)) := by rw [upd_same, ecut]
    have hl28 := same_new (o := .lst (cutV ((hs ++ [c]).map V.int) none (some (-1)))) (Same.refl H7) ht3 _ _ hl27
    show (_ : Prop)
    refine ⟨t3, hs.map V.int, rfl, .inl ⟨SqL.of ht38, fun t4 ht4 => ?_⟩⟩
    have s8' : Same H6 (upd H7 t3 (.lst (cutV ((hs ++ [c]).map V.int) none (some (-1))))) := s8
    have s9 := s8'.trans (same_new (o := .tup (hs.map V.int)) (Same.refl _) ht4)
    have hl29 := same_new (o := .tup (hs.map V.int)) (Same.refl _) ht4 _ _ hl28
    have ht49 : upd (upd H7 t3 (.lst (cutV ((hs ++ [c]).map V.int) none (some (-1))))) t4 (.tup (hs.map V.int)) t4 = some (.tup (hs.map V.int)) := upd_same
    have s09 := s06.trans s9
    refine ⟨l2, va, t4, vxs, bs, start, ks, R, rk, hs, rfl, ⟨xs, SqL.of hl29, L2.Paired.mapP hxp fun _ _ => BdV.mono s09⟩, s09.tup hva, L2.Paired.mapP hvp (fun _ _ => PairV.mono s09), hso, hok, RK, hin, SqT.of ht49, by omega, ok0, fun tt sl2 H10 s10 ht10 hsl10 => ?_⟩
    rw [hgo0.2] at ht10
    rw [hgo0.1] at hsl10
    have s610 := s9.trans s10
    have hdu10 := hdu6.mono s610
    refine ⟨_, rfl, .ref tt, .ty "tuple", .type "tuple", .type "tuple", true, rfl, .ty _, .base (.tup ht10), kit_ty (by decide +kernel), true, rfl, ?_⟩
    refine iteF ?_
    refine ⟨_, rfl, tt, _, rfl, .inr (SqT.of ht10), rfl, _, rfl, ?_⟩
    refine ifNF rfl ?_
    refine ⟨_, rfl, tt, _, 1, _, rfl, rfl, SqT.of ht10, rfl, _, _, rfl, rfl, _, rfl, ?_⟩
    refine ifNF rfl ?_
    refine ⟨_, rfl, tt, _, 0, _, rfl, rfl, SqT.of ht10, rfl, _, rfl, _, _, rowsPl_dp hsl10, rowsPl_dp hdu10, shaped_pls _, shaped_pls _, _, rfl, ?_⟩
    rw [eqv_pls]
    refine iteF ?_
    -- the ticks of the last choice
    have s010 := s06.trans s610
    have hha10 : H10 ha = some (.lst (hs.map V.int ++ [.int c])) := by have := (s36.trans s610) _ _ hha3; rw [List.map_append] at this; exact this
    have hpv10 := hpv.mono (s36.trans s610)
    refine ⟨fun σ H' => H' = H10 ∧ σ = [some (.ref sa), some (.ref ba), some (.ref d), some (.ref va), some v4, some (.ref du), some (.ref ha), some (.bl true), v8, v9, v10, v11, some (.ref t2), some (.ref tt), some (nV (ticksF bs c)), none, none, none, none], ?_, ?_⟩
    · refine ⟨_, rfl, _, rfl, ha, _, _, .int c, rfl, rfl, SqL.of hha10, atI_last _ _, _, _, rfl, rfl, _, rfl, ?_⟩
      rcases able_ok hcm with hc | ⟨k, hk, hc⟩
      · refine ifT (by rw [hc]; decide) ?_
        refine ⟨rfl, ?_⟩
        rw [hc]
        rfl
      · obtain ⟨bd, hbd⟩ := at_ex (l := bs) (i := k) (by omega)
        obtain ⟨xv, hxv⟩ := at_ex (l := xs) (i := k) (by omega)
        obtain ⟨bd', hbd', z, rfl, hz⟩ := paired_at hxp hxv
        rw [hbd] at hbd'
        cases hbd'
        refine ifF (by rw [hc]; omega) ?_
        refine ⟨_, rfl, _, rfl, _, rfl, ha, _, _, .int c, rfl, rfl, SqL.of hha10, atI_last _ _, ba, _, _, _, rfl, rfl, s010.seq hxs, (by rw [hc]; exact atI_nat hxv), z, _, 0, nV bd.work, rfl, rfl, s010.tup hz, rfl, ?_⟩
        have et : ticksF bs c = bd.work := by
          unfold ticksF
          rw [hc, if_neg (by omega), show ((k : Int)).toNat = k by omega, hbd]
          rfl
        rw [et]
        exact ⟨rfl, rfl⟩
    rintro σ H10' ⟨rfl, rfl⟩
    have ht6' := ticks_le hok c
    refine ⟨_, rfl, ba, bs, rfl, hB.mono s010, hbs, fun cl ps H11 s11 hcl hpsn hck => ?_⟩
    have lps := hck.2.2.1
    have s011 := s010.trans s11
    have exs : (xs.length : Int).toNat = bs.length := by omega
    refine ⟨_, rfl, ba, _, rfl, .inl (s011.seq hxs), (xs.length : Int), rfl, by omega, by omega, for_it (walk_range (lo := 0) (n := (xs.length : Int).toNat)) (fun k σ H' => Same H10' H' ∧ H' cl = some (.lst (ps.map V.ref)) ∧ (∀ (i : Nat) (cp : Addr) (b : Bd), k ≤ i → ps[i]? = some cp → bs[i]? = some b → ClkAt K CC CB H' cp b.limit (-1)) ∧ ∃ (dn : Nat) (v17 v18 : Option V), (∀ (i : Nat) (b : Bd) (pr : S2), i < k → bs[i]? = some b → p[i]? = some pr → b.limit < longF b pr (ticksF bs c) → 0 < dn) ∧ σ = [some (.ref sa), some (.ref ba), some (.ref d), some (.ref va), some v4, some (.ref du), some (.ref ha), some (.bl true), v8, v9, v10, v11, some (.ref t2), some (.ref tt), some (nV (ticksF bs c)), some (.ref cl), some (nV dn), v17, v18])
      ⟨s11, hck.1, fun i cp b _ h1 h2 => hck.2.2.2 i cp b h1 h2, 0, _, _, fun i _ _ hi => absurd hi (Nat.not_lt_zero _), rfl⟩ (fun _ _ _ _ _ => trivial) ?_ ?_⟩
    · rintro k x σ H12 H12' hk ⟨s12, hcl12, hck12, dn, v17, v18, hdn, rfl⟩ ⟨rfl, rfl⟩
      have hk : k < bs.length := by omega
      have ek : (0 : Int) + (k : Int) = (k : Int) := Int.zero_add _
      obtain ⟨bd, hbd⟩ := at_ex (l := bs) (i := k) hk
      obtain ⟨bv, hbv, ⟨bda, rfl, hbda⟩⟩ := paired_at2 hxp hbd
      obtain ⟨pr, hprr⟩ := at_ex (l := p) (i := k) (by omega)
      obtain ⟨cp, hcp⟩ := at_ex (l := ps) (i := k) (by omega)
      have hpv12 := hpv10.mono s12
      obtain ⟨vb, vbx, rfl, hvb, hvbp⟩ := id hpv12
      obtain ⟨pv', hpv', hpairv⟩ := paired_at2 hvbp hprr
      have s012 := s010.trans s12
      have hxs12 := s012.seq hxs
      have hbda12 := s012.tup hbda
      have hag := okPl_age hok hpo hprr
      have hb9 := hbs.lim bd (List.mem_of_getElem? hbd)
      refine ⟨_, rfl, _, rfl, ba, _, _, _, rfl, rfl, hxs12, (by rw [ek]; exact atI_nat hbv), _, rfl, _, rfl, vb, vbx, _, pv', rfl, rfl, hvb, (by rw [ek]; exact atI_nat hpv'), _, rfl, .ref bda, pv', bd, pr, ticksF bs c, rfl, ⟨bda, rfl, hbda12⟩, hpairv, by omega, fun H13 s13 => ?_⟩
      have hck13 := (hck12 k cp bd (Nat.le_refl _) hcp hbd).mono s13
      have hlf : longF bd pr (ticksF bs c) ≤ 2000 := by
        unfold longF
        split
        · omega
        · have := longI_le (b := bd) (age := pr.2) (t := ticksF bs c) (ticksF bs c)
          omega
      have hdn' : ∀ dn' : Nat, dn ≤ dn' → (bd.limit < longF bd pr (ticksF bs c) → 0 < dn') → ∀ (i : Nat) (b : Bd) (pr : S2), i < k + 1 → bs[i]? = some b → p[i]? = some pr → b.limit < longF b pr (ticksF bs c) → 0 < dn' := fun dn' h1 h2 i b' pr' hi hb' hp' hlt => by
        by_cases e : i = k
        · subst e
          rw [hbd] at hb'
          rw [hprr] at hp'
          cases hb'
          cases hp'
          exact h2 hlt
        · exact Nat.lt_of_lt_of_le (hdn i b' pr' (by omega) hb' hp' hlt) h1
      generalize longF bd pr (ticksF bs c) = u at hlf hdn' ⊢
      obtain ⟨cdx, cfs, cba, cpa, c1, c2, c3, c4, c5, c6, c7', c8⟩ := id hck13.ex
      have hcl13 := s13 _ _ hcl12
      refine ⟨_, rfl, _, rfl, cl, _, _, .ref cp, rfl, rfl, SqL.of hcl13, (by rw [ek]; exact atI_nat (by rw [List.getElem?_map, hcp]; rfl)), cp, cdx, cfs, rfl, c1, c5 _ (by decide +kernel) (by decide +kernel) (by decide +kernel), _, rfl, cp, bd.limit, u, rfl, hck13, hb9, by omega, fun H14 o14 hc14 => ?_⟩
      have hcpn : H10' cp = none := hpsn cp (List.mem_of_getElem? hcp)
      have s1013 := s12.trans s13
      have s1014 : Same H10' H14 := off_same s1013 o14 fun a ha => by rw [List.mem_singleton] at ha; rw [ha]; exact hcpn
      have s014 := s010.trans s1014
      have ncl : cl ∉ [cp] := fun z => by
        rw [List.mem_singleton] at z
        rw [z, c1] at hcl13
        cases hcl13
      have hcl14 := o14.same _ _ ncl hcl13
      have hnext : ∀ (i : Nat) (cp' : Addr) (b : Bd), k + 1 ≤ i → ps[i]? = some cp' → bs[i]? = some b → ClkAt K CC CB H14 cp' b.limit (-1) := fun i cp' b' hi h1 h2 => by
        refine ((hck12 i cp' b' (by omega) h1 h2).mono s13).off o14 (fun z => ?_) (fun a ha => by rw [List.mem_singleton] at ha; rw [ha]; exact hck13.is)
        rw [List.mem_singleton] at z
        subst z
        have := nodup_idx hck.2.1 h1 hcp
        omega
      refine ⟨_, rfl, _, rfl, _, rfl, ba, _, _, _, rfl, rfl, s014.seq hxs, (by rw [ek]; exact atI_nat hbv), bda, _, 1, _, rfl, rfl, s014.tup hbda, rfl, _, _, rfl, rfl, rfl, _, rfl, ?_⟩
      have eD : decide ((u : Int) ≤ (bd.limit : Int)) = decide (u ≤ bd.limit) := decide_eq_decide.mpr ⟨fun z => by omega, fun z => by omega⟩
      refine ifNF (congrArg V.bl eD.symm) ?_
      refine ⟨_, rfl, _, rfl, _, rfl, ba, _, _, _, rfl, rfl, s014.seq hxs, (by rw [ek]; exact atI_nat hbv), bda, _, 1, _, rfl, rfl, s014.tup hbda, rfl, _, _, rfl, rfl, _, rfl, ?_⟩
      by_cases eu : u ≤ bd.limit
      · refine ifF (by show ¬ (u : Int) > bd.limit; omega) ?_
        exact ⟨s1014, hcl14, hnext, dn, _, _, hdn' dn (Nat.le_refl _) (fun z => by omega), rfl⟩
      · refine ifT (by show (u : Int) > bd.limit; omega) ?_
        rw [if_neg eu] at hc14
        obtain ⟨ddx, dfs, dba, dpa, d1, d2, d3, d4, d5, d6, d7, d8⟩ := id hc14.ex
        refine ⟨_, rfl, _, _, rfl, rfl, ?_⟩
        refine ⟨_, rfl, _, rfl, cl, _, _, .ref cp, rfl, rfl, SqL.of hcl14, (by rw [ek]; exact atI_nat (by rw [List.getElem?_map, hcp]; rfl)), cp, ddx, dfs, rfl, d1, cp, bd.limit, -2, rfl, hc14, .inr ⟨rfl, _, rfl, ?_⟩⟩
        refine iteF ?_
        exact ⟨s1014, hcl14, hnext, dn + 1, _, _, hdn' (dn + 1) (by omega) (fun _ => by omega), rfl⟩
    · rintro σ H12 ⟨s12, hcl12, hck12, dn, v17, v18, hdn, rfl⟩
      have hrisk : (ledF bs p c).1 = true := by
        obtain ⟨j, hj⟩ := List.mem_iff_getElem?.mp hcm
        rw [idxOf_at (able_nodup p) hj] at hpick
        have hrow : (rowF bs p)[j]? = some (ledF bs p c) := by unfold rowF; rw [List.getElem?_map, hj]; rfl
        have hp2 : pickF R rk (ledF bs p c) = none := by
          unfold picksF at hpick
          rw [List.getElem?_map, hrow] at hpick
          exact Option.some.inj hpick
        cases hb : (ledF bs p c).1 with
        | true => rfl
        | false =>
          obtain ⟨q2, e2, _⟩ := (RK.ok.pick hpR (List.mem_of_getElem? hrow)).2 hb
          rw [hp2] at e2
          cases e2
      obtain ⟨i, b', pr, hi, hb', hp', hrr⟩ := ledI_risky hpl (Nat.le_refl _) hrisk
      have h01 : pr.1 = 0 ∨ pr.1 = 1 := (okPl_at hpo hb' hp').elim (fun h => .inl h.1) fun h => .inr h.1
      have hpos := hdn i b' pr (by omega) hb' hp' (risk_long hrr h01)
      refine ⟨_, rfl, _, _, rfl, rfl, ?_⟩
      have ed : decide ((0 : Int) < (dn : Int)) = true := decide_eq_true (by omega)
      show Q (.bl (decide ((0 : Int) < (dn : Int)))) H12
      rw [ed]
      exact q H12 (s010.trans s12)
end
end My
namespace My
open PySem L2
/-! ### law -/
section
variable {P : Program} {w : World} {K : PySem.W.Frag} {mg : Str → Option Value} {base : Heap}
abbrev s_law : Stmt := top 87
abbrev N_law : List Str := ["script", "n", "boards", "start", "told", "lot", "paper"]
theorem sc_law : FnScope N_law ["script"] (C8.fnScope s_law) := C8.fnScope_by (by decide +kernel)
def sp_law (K : PySem.W.Frag) : Sp := fun vs H Q _ => ∃ (a : Addr) (ns : List Int), vs = [.ref a] ∧ SqL K H a (ns.map V.int) ∧ ∀ H', Q (.bl true) H'
theorem fn_law {f : Addr} {fd : FuncData} {CC CB : Addr} (F : C8.Def K mg "law" s_law f fd) (T : Gb mg) (c__law_cell : C8.Cal P w K mg base 1 "_law_cell" (sp_law_cell K) []) (c__law_numbers : C8.Cal P w K mg base 1 "_law_numbers" sp_law_numbers [])
    (c__law_boards : C8.Cal P w K mg base 2 "_law_boards" (sp_law_boards K) []) (c__law_start : C8.Cal P w K mg base 1 "_law_start" (sp_law_start K) []) (c_keep : C8.Cal P w K mg base 5 "keep" (sp_keep K w) []) (c__law_lot : C8.Cal P w K mg base 3 "_law_lot" (sp_law_lot K w) []) (c__law_turns : C8.Cal P w K mg base 8 "_law_turns" (sp_law_turns K w) [])
    (c_fall_paper : C8.Cal P w K mg base 6 "fall_paper" (sp_fall_paper K) []) (c__law_paper : C8.Cal P w K mg base 3 "_law_paper" (sp_law_paper K w) []) (c__law_falls : C8.Cal P w K mg base 8 "_law_falls" (sp_law_falls K w) []) :
    FnOk P w K mg base C8.CX0 9 f fd ["script"] (sp_law K) := by
  refine C8.fn0 F.fn sc_law (fun vs H Q E h => ?_) (fun cdv A outer s H vs Q E hr h => ?_)
  · obtain ⟨sa, ns, rfl, _⟩ := h
    rfl
  · obtain ⟨sa, ns, rfl, hS, q⟩ := h
    refine ⟨_, (pss_cons (ps_set (i := 1) sc_law.nd rfl (Or.inl rfl) (C8.pe_c c__law_numbers hr (by decide) (by rfl) (pa_cons (C8.pe_c c__law_cell hr (by decide) (by rfl) (pa_cons (pv 0) (pa_cons pe_int pa_nil))) (pa_cons pe_int (pa_cons pe_int (pa_cons pe_int pa_nil))))))
(pss_cons (ps_set (i := 2) sc_law.nd rfl (Or.inl rfl) (C8.pe_c c__law_boards hr (by decide) (by rfl) (pa_cons (pv 0) (pa_cons (pv 1) pa_nil))))
(pss_cons (ps_set (i := 3) sc_law.nd rfl (Or.inl rfl) (C8.pe_c c__law_start hr (by decide) (by rfl) (pa_cons (pv 2) (pa_cons (pv 1) pa_nil))))
(pss_cons (ps_set (i := 4) sc_law.nd rfl (Or.inl rfl) (C8.pe_c c_keep hr (by decide) (by rfl) (pa_cons (pe_callTy call_list_of (by rfl) T.list (by decide +kernel) (pa_cons (pv 2) pa_nil)) (pa_cons (pv 3) pa_nil))))
(pss_cons (ps_if (PW.pt (pw_or (pt_not (pt_val (pe_callB call_isi (by rfl) T.isinstance (by decide +kernel) (pa_cons (pv 4) (pa_cons (pe_bltn (v := .ty "tuple") (by rfl) T.tuple (by decide +kernel) rfl) pa_nil))))) (pw_or (pt_cmpR op_ne (pe_callB (call_lenK K rfl) (by rfl) T.len PySem.boot_len (pa_cons (pv 4) pa_nil)) pe_int (nomark _)) (pw_or1 (pt_cmpR (op_notInK K rfl) (pe_ix (ix_tupK K rfl) (pv 4) pe_int (fun _ _ => rfl)) (pe_lst (pa_cons pe_str (pa_cons pe_str pa_nil))) rfl)))))
(pss_one (ps_ret pe_bl))
pss_nil)
(pss_cons (ps_if (pt_cmpR op_eq (pe_ix (ix_tupK K rfl) (pv 4) pe_int (fun _ _ => rfl)) pe_str (nomark _))
(pss_cons (ps_set (i := 5) sc_law.nd rfl (Or.inl rfl) (C8.pe_c c__law_lot hr (by decide) (by rfl) (pa_cons (pv 2) (pa_cons (pv 3) (pa_cons (pe_ix (ix_tupK K rfl) (pv 4) pe_int (fun _ _ => rfl)) pa_nil)))))
(pss_one (ps_ret (pe_and (pe_cmpR op_notN (pv 5) pe_non (nomark _)) (pe_one (C8.pe_c c__law_turns hr (by decide) (by rfl) (pa_cons (pv 0) (pa_cons (pv 2) (pa_cons (pv 5) (pa_cons (pv 3) pa_nil))))))))))
pss_nil)
(pss_cons (ps_set (i := 6) sc_law.nd rfl (Or.inl rfl) (C8.pe_c c__law_paper hr (by decide) (by rfl) (pa_cons (pv 2) (pa_cons (pv 3) (pa_cons (C8.pe_c c_fall_paper hr (by decide) (by rfl) (pa_cons (pv 2) (pa_cons (pe_callTy call_list_of (by rfl) T.list (by decide +kernel) (pa_cons (pv 3) pa_nil)) pa_nil))) (pa_cons (pe_ix (ix_tupK K rfl) (pv 4) pe_int (fun _ _ => rfl)) pa_nil))))))
(pss_one (ps_ret (pe_and (pe_cmpR op_notN (pv 6) pe_non (nomark _)) (pe_one (C8.pe_c c__law_falls hr (by decide) (by rfl) (pa_cons (pv 0) (pa_cons (pv 2) (pa_cons (pv 6) (pa_cons (pv 3) pa_nil)))))))))))))))), ?_⟩
    refine ⟨_, rfl, sa, ns, 0, rfl, hS, fun c => ⟨c, 0, 3, 5040, rfl, by decide, by decide, by decide, by decide, fun na n H1 s1 hna hn1 hnl hnb => ?_⟩⟩
    refine ⟨_, rfl, _, rfl, sa, na, ns, n, rfl, s1.seq hS, hn1, hnl, fun ba bs H2 s2 hB hbs => ?_⟩
    have hok := hbs.ok
    refine ⟨_, rfl, _, rfl, ba, na, bs, n, rfl, hB, hok, s2 _ _ hn1, hnl, fun va vxs start H3 s3 hva hvp hso => ?_⟩
    have hB3 := hB.mono s3
    obtain ⟨xs, hxs, hxp⟩ := hB3.ex
    refine ⟨_, rfl, ba, xs, rfl, .inl hxs, fun l hl => ?_⟩
    have s4 := same_new (o := .lst xs) (Same.refl H3) hl
    have hl4 : upd H3 l (.lst xs) l = some (.lst xs) := upd_same
    show (_ : Prop)
    generalize upd H3 l (.lst xs) = H4 at s4 hl4 ⊢
    have hB4 := hB3.mono s4
    have s04 := ((s1.trans s2).trans s3).trans s4
    refine ⟨_, rfl, l, va, vxs, bs, start, rfl, ⟨xs, SqL.of hl4, L2.Paired.mapP hxp fun _ _ => BdV.mono s4⟩, SqT.of (s4 _ _ hva), L2.Paired.mapP hvp (fun _ _ => PairV.mono s4), hso, hok, fun t lo L ch H5 s5 ht hL hLA => ?_, fun t ks R rk H5 s5 ht RK hin => ?_⟩
    · refine ⟨_, rfl, .ref t, .ty "tuple", .type "tuple", .type "tuple", true, rfl, .ty _, .base (.tup ht), kit_ty (by decide +kernel), true, rfl, ?_⟩
      refine iteF ?_
      refine ⟨_, rfl, t, _, rfl, .inr (SqT.of ht), rfl, _, rfl, ?_⟩
      refine ifNF rfl ?_
      refine ⟨_, rfl, t, _, 0, _, rfl, rfl, SqT.of ht, rfl, ?_⟩
      refine ⟨by show 2 ≤ sizeLine; decide, fun p hp => ?_⟩
      refine ⟨p, _, rfl, .inl (SqL.of upd_same), rfl, rfl, _, rfl, ?_⟩
      refine iteF ?_
      have s6 := s5.trans (same_new (o := .lst [.str "kept", .str "falls"]) (Same.refl H5) hp)
      have ht6 := same_new (o := .lst [.str "kept", .str "falls"]) (Same.refl H5) hp _ _ ht
      have hLA6 := hLA.mono (same_new (o := .lst [.str "kept", .str "falls"]) (Same.refl H5) hp)
      show (_ : Prop)
      generalize upd H5 p (.lst [.str "kept", .str "falls"]) = H6 at s6 ht6 hLA6 ⊢
      have s36 := s4.trans s6
      have s06 := s04.trans s6
      refine ⟨_, rfl, t, _, 0, _, rfl, rfl, SqT.of ht6, rfl, rfl, _, rfl, ?_⟩
      refine ifT rfl ?_
      have hvP : PlV K H6 (.ref va) start := ⟨va, vxs, rfl, SqT.of (s36 _ _ hva), L2.Paired.mapP hvp (fun _ _ => PairV.mono s36)⟩
      refine ⟨_, rfl, _, rfl, _, rfl, t, _, 1, _, rfl, rfl, SqT.of ht6, rfl, ba, lo, .ref va, bs, start, L, ch, rfl, hB3.mono s36, hok, hvP, hL, hLA6, fun d H7 s7 dl => ?_⟩
      refine ⟨_, rfl, rfl, true, rfl, ?_⟩
      refine iteT ?_
      have s7' := s06.trans s7
      refine ⟨_, rfl, _, rfl, _, rfl, _, rfl, sa, ba, d, .ref va, ns, bs, start, L, ch, rfl, s7'.seq hS, hB3.mono (s36.trans s7), hbs, dl, hL, hvP.mono s7, fun H8 s8 => ?_⟩
      exact q H8
    · refine ⟨_, rfl, .ref t, .ty "tuple", .type "tuple", .type "tuple", true, rfl, .ty _, .base (.tup ht), kit_ty (by decide +kernel), true, rfl, ?_⟩
      refine iteF ?_
      refine ⟨_, rfl, t, _, rfl, .inr (SqT.of ht), rfl, _, rfl, ?_⟩
      refine ifNF rfl ?_
      refine ⟨_, rfl, t, _, 0, _, rfl, rfl, SqT.of ht, rfl, ?_⟩
      refine ⟨by show 2 ≤ sizeLine; decide, fun p hp => ?_⟩
      refine ⟨p, _, rfl, .inl (SqL.of upd_same), rfl, rfl, _, rfl, ?_⟩
      refine iteF ?_
      have s6 := s5.trans (same_new (o := .lst [.str "kept", .str "falls"]) (Same.refl H5) hp)
      have ht6 := same_new (o := .lst [.str "kept", .str "falls"]) (Same.refl H5) hp _ _ ht
      show (_ : Prop)
      generalize upd H5 p (.lst [.str "kept", .str "falls"]) = H6 at s6 ht6 ⊢
      have s36 := s4.trans s6
      have s06 := s04.trans s6
      refine ⟨_, rfl, t, _, 0, _, rfl, rfl, SqT.of ht6, rfl, rfl, _, rfl, ?_⟩
      refine ifF (by decide) ?_
      have hva6 := s36 _ _ hva
      have hvp6 : Paired (PairV K H6) vxs start := L2.Paired.mapP hvp (fun _ _ => PairV.mono s36)
      have hvP : PlV K H6 (.ref va) start := ⟨va, vxs, rfl, SqT.of hva6, hvp6⟩
      refine ⟨_, rfl, _, rfl, _, rfl, _, rfl, va, vxs, rfl, .inr (SqT.of hva6), fun l2 hl2 => ?_⟩
      have s7 := same_new (o := .lst vxs) (Same.refl H6) hl2
      have hl27 : upd H6 l2 (.lst vxs) l2 = some (.lst vxs) := upd_same
      show (_ : Prop)
      generalize upd H6 l2 (.lst vxs) = H7 at s7 hl27 ⊢
      have s37 := s36.trans s7
      refine ⟨ba, l2, vxs, bs, start, ks, R, rk, rfl, hB3.mono s37, SqL.of hl27, L2.Paired.mapP hvp (fun _ _ => PairV.mono s37), hso, hok, RK, hin, fun pa L H8 s8 _ hLs hPL hPA => ?_⟩
      have s38 := s37.trans s8
      have ht8 := s8 _ _ (s7 _ _ ht6)
      refine ⟨_, rfl, t, _, 1, _, rfl, rfl, SqT.of ht8, rfl, ba, pa, .ref va, bs, start, ks, R, L, rk, rfl, hB3.mono s38, hok, (hvP.mono s7).mono s8, RK, hLs, hPL, hPA, fun d ff H9 s9 dl hff => ?_⟩
      have s39 := s38.trans s9
      refine ⟨_, rfl, rfl, true, rfl, ?_⟩
      refine iteT ?_
      refine ⟨_, rfl, _, rfl, _, rfl, _, rfl, sa, ba, d, va, vxs, ns, bs, start, ks, R, L, rk, ff, rfl, (((s1.trans s2).trans s3).trans s39).seq hS, hB3.mono s39, hbs, SqT.of (s39 _ _ hva), L2.Paired.mapP hvp (fun _ _ => PairV.mono s39), RK, hin, hPL, dl, hff, fun HA sA => ?_⟩
      exact q HA
end
end My
namespace My
open PySem L2 ClX
theorem fun8 {K : PySem.W.Frag} {x qual : Str} {st : Stmt} {f : Addr} {oc : Value} {od an : Option Addr} {osl : Array (Option Value)} {dV kV doc pm cdv ct : Value} (l : K.lookup f = some ⟨oc, od, .func (PySem.W.fnOf x qual (C8.fnArgs st) (C8.fnBody st) (C8.fnScope st) dV kV doc pm an cdv ct), osl⟩)
    (c : PySem.W.codeIn K cdv qual = true) : C8.Fun K x qual st f (PySem.W.fnOf x qual (C8.fnArgs st) (C8.fnBody st) (C8.fnScope st) dV kV doc pm an cdv ct) := ⟨oc, od, dV, kV, doc, pm, an, cdv, ct, osl, rfl, l, c⟩
theorem book_binds {K : PySem.W.Frag} {f TD T1 T2 : Addr} {oc ocT : Value} {od an odT : Option Addr} {osl slT : Array (Option Value)} {kV doc pm cdv ct : Value} {nT : Nat}
    (l : K.lookup f = some ⟨oc, od, .func (PySem.W.fnOf "__init__" "Book.__init__" (C8.fnArgs s_Book_init) (C8.fnBody s_Book_init) (C8.fnScope s_Book_init) (.ref TD) kV doc pm an cdv ct), osl⟩) (c : PySem.W.codeIn K cdv "Book.__init__" = true) (k : PySem.W.keepIn K (.ref f) = true)
    (lT : K.lookup TD = some ⟨ocT, odT, .seq #[.ref T1, .ref T2] nT, slT⟩) : Binds K (PySem.W.fnOf "__init__" "Book.__init__" (C8.fnArgs s_Book_init) (C8.fnBody s_Book_init) (C8.fnScope s_Book_init) (.ref TD) kV doc pm an cdv ct) ["self", "kind", "allowance", "stages", "overtime"] [] := by
  have F : FunD K "__init__" "Book.__init__" (C8.fnArgs s_Book_init) (C8.fnBody s_Book_init) (C8.fnScope s_Book_init) [V.ref T1, V.ref T2] [] f _ :=
    ⟨⟨oc, od, _, kV, doc, pm, an, cdv, ct, osl, rfl, l, c, .inr ⟨by simp, TD, _, [.ref T1, .ref T2], nT, rfl, lT, rfl, .cons rfl (.cons rfl .nil)⟩, .inl rfl⟩, k⟩
  obtain ⟨ds, hv, hb⟩ := F.binds1 (ps := ["self", "kind", "allowance", "stages", "overtime"]) 5 2 (by simp) rfl fun T kV doc pm an cdv ct us its hl hl2 => match us, its, hl, hl2 with | [_, _, _, _, _], [_, _], _, _ => ⟨_, rfl, rfl⟩
  cases hv
  exact hb
theorem clock_binds {K : PySem.W.Frag} {f D : Addr} {oc : Value} {od an : Option Addr} {osl : Array (Option Value)} {doc pm cdv ct : Value}
    (l : K.lookup f = some ⟨oc, od, .func (PySem.W.fnOf "__init__" "Clock.__init__" (C8.fnArgs s_Clock_init) (C8.fnBody s_Clock_init) (C8.fnScope s_Clock_init) .none (.ref D) doc pm an cdv ct), osl⟩) (c : PySem.W.codeIn K cdv "Clock.__init__" = true) (k : PySem.W.keepIn K (.ref f) = true)
    (hD : PySem.W.nsIn K D "phase" = some (some .none)) : ∃ ds, Binds K (PySem.W.fnOf "__init__" "Clock.__init__" (C8.fnArgs s_Clock_init) (C8.fnBody s_Clock_init) (C8.fnScope s_Clock_init) .none (.ref D) doc pm an cdv ct) ["self", "book", "main", "phase"] ds ∧ Vals [V.non] ds := by
  have F : FunD K "__init__" "Clock.__init__" (C8.fnArgs s_Clock_init) (C8.fnBody s_Clock_init) (C8.fnScope s_Clock_init) [] [("phase", V.non)] f _ :=
    ⟨⟨oc, od, .none, .ref D, doc, pm, an, cdv, ct, osl, rfl, l, c, .inl ⟨rfl, rfl⟩, .inr ⟨D, rfl, fun q hq => by rw [List.mem_singleton.mp hq]; exact ⟨_, hD, rfl⟩⟩⟩, k⟩
  obtain ⟨ds, h1, h2⟩ := F.binds0 (ps := ["self", "book", "main", "phase"]) 3 (by simp) rfl fun D doc pm an cdv ct us ks h1 h2 => match us, ks, h1, h2 with
    | [_, _, _], [_], _, _ => ⟨_, _, _, _, _, _, rfl, rfl, rfl⟩
  exact ⟨ds, h2, h1⟩
theorem clock_kbinds {K : PySem.W.Frag} {D : Addr} {an : Option Addr} {doc pm cdv ct : Value} : KBn K (PySem.W.fnOf "__init__" "Clock.__init__" (C8.fnArgs s_Clock_init) (C8.fnBody s_Clock_init) (C8.fnScope s_Clock_init) .none (.ref D) doc pm an cdv ct) ["self", "book", "main", "phase"] 3 ["phase"] (fun us ws => us ++ ws) (fun vs zs => vs ++ zs) :=
  ⟨fun s us ws _ h1 h2 => match us, ws, h1, h2 with | [_, _, _], [_], _, _ => .of_eq rfl, fun r1 r2 => r1.append r2⟩
theorem seqT3 {K : PySem.W.Frag} {H : Hp} {a : Addr} {od : Option Addr} {sl : Array (Option Value)} {n : Nat} {x y z : Str} {t1 t2 t3 : Tok} (l : K.lookup a = some ⟨.type "tuple", od, .seq #[.str x t1, .str y t2, .str z t3] n, sl⟩) : SqT K H a [.str x, .str y, .str z] :=
  .inr ⟨_, _, n, l, rfl, rfl, by show 3 ≤ sizeLine; decide, .cons ⟨_, rfl⟩ (.cons ⟨_, rfl⟩ (.cons ⟨_, rfl⟩ .nil))⟩
theorem seqT2 {K : PySem.W.Frag} {H : Hp} {a : Addr} {od : Option Addr} {sl : Array (Option Value)} {n : Nat} {x y : Int} {t1 t2 : Tok} (l : K.lookup a = some ⟨.type "tuple", od, .seq #[.int x t1, .int y t2] n, sl⟩) : SqT K H a [.int x, .int y] :=
  .inr ⟨_, _, n, l, rfl, rfl, by show 2 ≤ sizeLine; decide, .cons ⟨_, rfl⟩ (.cons ⟨_, rfl⟩ .nil)⟩
section
variable {P : Program} {w : World} {K : PySem.W.Frag} {mg : Str → Option Value} {base : Heap}
theorem clockN_mak {CC CB f : Addr} {fd : FuncData} {ds : List Value} (M : Mk K CC f) (Fn : FnOk P w K mg base C8.CX0 3 f fd ["self", "book", "main", "phase"] (sp_ClockN K CC CB)) (h : mg "Clock" = some (.ref CC)) (b : Binds K fd ["self", "book", "main", "phase"] ds) (v : Vals [V.non] ds) :
    C8.Mak P w K mg base 3 "Clock" CC (sp_ClockN K CC CB) [.non] := ⟨f, fd, _, ds, M, Fn, h, b, v⟩
theorem clockK_mak {CC CB f : Addr} {fd : FuncData} (M : Mk K CC f) (Fn : FnOk P w K mg base C8.CX0 3 f fd ["self", "book", "main", "phase"] (sp_ClockK K CC CB)) (h : mg "Clock" = some (.ref CC)) (b : KBn K fd ["self", "book", "main", "phase"] 3 ["phase"] (fun us ws => us ++ ws) (fun vs zs => vs ++ zs)) :
    MakK P w K mg base 3 "Clock" CC 2 ["phase"] (sp_ClockK K CC CB) := ⟨f, fd, _, M, Fn, h, b⟩
end
theorem all_mk {l : PySem.W.OpenLaw} {w : World} {K : PySem.W.Frag} {h : Heap} {mg : Str → Option Value} {fa CB CC f0 f1 f2 f3 f4 f5 f6 f7 f8 f9 f10 f11 f12 f13 f14 f15 f16 f17 f18 f19 f20 f21 f22 f23 f24 f25 f26 f27 f28 f29 f30 f31 f32 f33 f34 f35 f36 f37 f38 f39 f40 f41 f42 f43 f44 f45 f46 f47 f48 fmBinit TD T1 T2 fmBstage_phase fmBopening fmBphases fmBovertime_step fmCinit kD fmCfallen fmCgo_on fmCovertime_after fmCspend fmCstanding fmCtwin bk fal pp : Addr} (X : K.In h) (G : h.Ns mainGlobals mg) (hfa : mg "law" = some (.ref fa))
    {od0 an0 od1 an1 od2 an2 od3 an3 od4 an4 od5 an5 od6 an6 od7 an7 od8 an8 od9 an9 od10 an10 od11 an11 od12 an12 od13 an13 od14 an14 od15 an15 od16 an16 od17 an17 od18 an18 od19 an19 od20 an20 od21 an21 od22 an22 od23 an23 od24 an24 od25 an25 od26 an26 od27 an27 od28 an28 od29 an29 od30 an30 od31 an31 od32 an32 od33 an33 od34 an34 od35 an35 od36 an36 od37 an37 od38 an38 od39 an39 od40 an40 od41 an41 od42 an42 od43 an43 od44 an44 od45 an45 od46 an46 od47 an47 od48 an48 odmBinit anmBinit odT odmBstage_phase anmBstage_phase odmBopening anmBopening odmBphases anmBphases odmBovertime_step anmBovertime_step odmCinit anmCinit odmCfallen anmCfallen odmCgo_on anmCgo_on odmCovertime_after anmCovertime_after odmCspend anmCspend odmCstanding anmCstanding odmCtwin anmCtwin odk odf : Option Addr} {sl0 sl1 sl2 sl3 sl4 sl5 sl6 sl7 sl8 sl9 sl10 sl11 sl12 sl13 sl14 sl15 sl16 sl17 sl18 sl19 sl20 sl21 sl22 sl23 sl24 sl25 sl26 sl27 sl28 sl29 sl30 sl31 sl32 sl33 sl34 sl35 sl36 sl37 sl38 sl39 sl40 sl41 sl42 sl43 sl44 sl45 sl46 sl47 sl48 slmBinit slT slmBstage_phase slmBopening slmBphases slmBovertime_step slmCinit slmCfallen slmCgo_on slmCovertime_after slmCspend slmCstanding slmCtwin slk slf : Array (Option Value)} {nT nk nf : Nat} {prest : List Value}
    {oc0 dc0 pm0 cd0 ct0 kV0 oc1 dc1 pm1 cd1 ct1 kV1 oc2 dc2 pm2 cd2 ct2 kV2 oc3 dc3 pm3 cd3 ct3 kV3 oc4 dc4 pm4 cd4 ct4 kV4 oc5 dc5 pm5 cd5 ct5 kV5 oc6 dc6 pm6 cd6 ct6 kV6 oc7 dc7 pm7 cd7 ct7 kV7 oc8 dc8 pm8 cd8 ct8 kV8 oc9 dc9 pm9 cd9 ct9 kV9 oc10 dc10 pm10 cd10 ct10 kV10 oc11 dc11 pm11 cd11 ct11 kV11 oc12 dc12 pm12 cd12 ct12 kV12 oc13 dc13 pm13 cd13 ct13 kV13 oc14 dc14 pm14 cd14 ct14 kV14 oc15 dc15 pm15 cd15 ct15 kV15 oc16 dc16 pm16 cd16 ct16 kV16 oc17 dc17 pm17 cd17 ct17 kV17 oc18 dc18 pm18 cd18 ct18 kV18 oc19 dc19 pm19 cd19 ct19 kV19 oc20 dc20 pm20 cd20 ct20 kV20 oc21 dc21 pm21 cd21 ct21 kV21 oc22 dc22 pm22 cd22 ct22 kV22 oc23 dc23 pm23 cd23 ct23 kV23 oc24 dc24 pm24 cd24 ct24 kV24 oc25 dc25 pm25 cd25 ct25 kV25 oc26 dc26 pm26 cd26 ct26 kV26 oc27 dc27 pm27 cd27 ct27 kV27 oc28 dc28 pm28 cd28 ct28 kV28 oc29 dc29 pm29 cd29 ct29 kV29 oc30 dc30 pm30 cd30 ct30 kV30 oc31 dc31 pm31 cd31 ct31 kV31 oc32 dc32 pm32 cd32 ct32 kV32 oc33 dc33 pm33 cd33 ct33 kV33 oc34 dc34 pm34 cd34 ct34 kV34 oc35 dc35 pm35 cd35 ct35 kV35 oc36 dc36 pm36 cd36 ct36 kV36 oc37 dc37 pm37 cd37 ct37 kV37 oc38 dc38 pm38 cd38 ct38 kV38 oc39 dc39 pm39 cd39 ct39 kV39 oc40 dc40 pm40 cd40 ct40 kV40 oc41 dc41 pm41 cd41 ct41 kV41 oc42 dc42 pm42 cd42 ct42 kV42 oc43 dc43 pm43 cd43 ct43 kV43 oc44 dc44 pm44 cd44 ct44 kV44 oc45 dc45 pm45 cd45 ct45 kV45 oc46 dc46 pm46 cd46 ct46 kV46 oc47 dc47 pm47 cd47 ct47 kV47 oc48 dc48 pm48 cd48 ct48 kV48 ocmBinit dcmBinit pmmBinit cdmBinit ctmBinit kVmBinit ocT ocmBstage_phase dcmBstage_phase pmmBstage_phase cdmBstage_phase ctmBstage_phase kVmBstage_phase ocmBopening dcmBopening pmmBopening cdmBopening ctmBopening kVmBopening ocmBphases dcmBphases pmmBphases cdmBphases ctmBphases kVmBphases ocmBovertime_step dcmBovertime_step pmmBovertime_step cdmBovertime_step ctmBovertime_step kVmBovertime_step ocmCinit dcmCinit pmmCinit cdmCinit ctmCinit ocmCfallen dcmCfallen pmmCfallen cdmCfallen ctmCfallen kVmCfallen ocmCgo_on dcmCgo_on pmmCgo_on cdmCgo_on ctmCgo_on kVmCgo_on ocmCovertime_after dcmCovertime_after pmmCovertime_after cdmCovertime_after ctmCovertime_after kVmCovertime_after ocmCspend dcmCspend pmmCspend cdmCspend ctmCspend kVmCspend ocmCstanding dcmCstanding pmmCstanding cdmCstanding ctmCstanding kVmCstanding ocmCtwin dcmCtwin pmmCtwin cdmCtwin ctmCtwin kVmCtwin mc : Value} {t_MOST_BOARDS t_MOST_WORK t_MOST_LIMIT t_MOST_LATEST t_MOST_STANDINGS t_WAIT t_HAND t_OTHER t_KEPT t_FALLS t_MOST t_MOST_ALLOWANCE t_MOST_STAGES t_MOST_STAGE_MOVES t_MOST_GAIN t_MOST_STATES t_TIMES t_MOST_LENGTH tk1 tk2 tk3 tf1 tf2 : Tok}
    (aCB : PySem.W.nsIn K mainGlobals "Book" = some (some (.ref CB)))
    (aCC : PySem.W.nsIn K mainGlobals "Clock" = some (some (.ref CC)))
    (p1 : PySem.W.findIn K (.ref CC) "fallen" = some (some (.ref pp)))
    (p2 : PySem.W.specialIn K (.ref pp) "__get__" = some (some (.builtin "property.__get__")))
    (p3 : PySem.W.takesIn K (.ref pp) = some true)
    (p4 : PySem.W.recIn K pp "property" = some (.ref fmCfallen :: prest))
    (a0 : PySem.W.nsIn K mainGlobals "board_fits" = some (some (.ref f0)))
    (l0 : K.lookup f0 = some ⟨oc0, od0, .func (PySem.W.fnOf "board_fits" "board_fits" (C8.fnArgs s_board_fits) (C8.fnBody s_board_fits) (C8.fnScope s_board_fits) .none kV0 dc0 pm0 an0 cd0 ct0), sl0⟩)
    (c0 : PySem.W.codeIn K cd0 "board_fits" = true)
    (k0 : PySem.W.keepIn K (.ref f0) = true)
    (a1 : PySem.W.nsIn K mainGlobals "checked_boards" = some (some (.ref f1)))
    (l1 : K.lookup f1 = some ⟨oc1, od1, .func (PySem.W.fnOf "checked_boards" "checked_boards" (C8.fnArgs s_checked_boards) (C8.fnBody s_checked_boards) (C8.fnScope s_checked_boards) .none kV1 dc1 pm1 an1 cd1 ct1), sl1⟩)
    (c1 : PySem.W.codeIn K cd1 "checked_boards" = true)
    (k1 : PySem.W.keepIn K (.ref f1) = true)
    (a2 : PySem.W.nsIn K mainGlobals "is_standing" = some (some (.ref f2)))
    (l2 : K.lookup f2 = some ⟨oc2, od2, .func (PySem.W.fnOf "is_standing" "is_standing" (C8.fnArgs s_is_standing) (C8.fnBody s_is_standing) (C8.fnScope s_is_standing) .none kV2 dc2 pm2 an2 cd2 ct2), sl2⟩)
    (c2 : PySem.W.codeIn K cd2 "is_standing" = true)
    (k2 : PySem.W.keepIn K (.ref f2) = true)
    (a3 : PySem.W.nsIn K mainGlobals "as_standing" = some (some (.ref f3)))
    (l3 : K.lookup f3 = some ⟨oc3, od3, .func (PySem.W.fnOf "as_standing" "as_standing" (C8.fnArgs s_as_standing) (C8.fnBody s_as_standing) (C8.fnScope s_as_standing) .none kV3 dc3 pm3 an3 cd3 ct3), sl3⟩)
    (c3 : PySem.W.codeIn K cd3 "as_standing" = true)
    (k3 : PySem.W.keepIn K (.ref f3) = true)
    (a4 : PySem.W.nsIn K mainGlobals "checked_standing" = some (some (.ref f4)))
    (l4 : K.lookup f4 = some ⟨oc4, od4, .func (PySem.W.fnOf "checked_standing" "checked_standing" (C8.fnArgs s_checked_standing) (C8.fnBody s_checked_standing) (C8.fnScope s_checked_standing) .none kV4 dc4 pm4 an4 cd4 ct4), sl4⟩)
    (c4 : PySem.W.codeIn K cd4 "checked_standing" = true)
    (k4 : PySem.W.keepIn K (.ref f4) = true)
    (a5 : PySem.W.nsIn K mainGlobals "open_choices" = some (some (.ref f5)))
    (l5 : K.lookup f5 = some ⟨oc5, od5, .func (PySem.W.fnOf "open_choices" "open_choices" (C8.fnArgs s_open_choices) (C8.fnBody s_open_choices) (C8.fnScope s_open_choices) .none kV5 dc5 pm5 an5 cd5 ct5), sl5⟩)
    (c5 : PySem.W.codeIn K cd5 "open_choices" = true)
    (k5 : PySem.W.keepIn K (.ref f5) = true)
    (a6 : PySem.W.nsIn K mainGlobals "answered" = some (some (.ref f6)))
    (l6 : K.lookup f6 = some ⟨oc6, od6, .func (PySem.W.fnOf "answered" "answered" (C8.fnArgs s_answered) (C8.fnBody s_answered) (C8.fnScope s_answered) .none kV6 dc6 pm6 an6 cd6 ct6), sl6⟩)
    (c6 : PySem.W.codeIn K cd6 "answered" = true)
    (k6 : PySem.W.keepIn K (.ref f6) = true)
    (a7 : PySem.W.nsIn K mainGlobals "passed" = some (some (.ref f7)))
    (l7 : K.lookup f7 = some ⟨oc7, od7, .func (PySem.W.fnOf "passed" "passed" (C8.fnArgs s_passed) (C8.fnBody s_passed) (C8.fnScope s_passed) .none kV7 dc7 pm7 an7 cd7 ct7), sl7⟩)
    (c7 : PySem.W.codeIn K cd7 "passed" = true)
    (k7 : PySem.W.keepIn K (.ref f7) = true)
    (a8 : PySem.W.nsIn K mainGlobals "led" = some (some (.ref f8)))
    (l8 : K.lookup f8 = some ⟨oc8, od8, .func (PySem.W.fnOf "led" "led" (C8.fnArgs s_led) (C8.fnBody s_led) (C8.fnScope s_led) .none kV8 dc8 pm8 an8 cd8 ct8), sl8⟩)
    (c8 : PySem.W.codeIn K cd8 "led" = true)
    (k8 : PySem.W.keepIn K (.ref f8) = true)
    (a9 : PySem.W.nsIn K mainGlobals "table_from" = some (some (.ref f9)))
    (l9 : K.lookup f9 = some ⟨oc9, od9, .func (PySem.W.fnOf "table_from" "table_from" (C8.fnArgs s_table_from) (C8.fnBody s_table_from) (C8.fnScope s_table_from) .none kV9 dc9 pm9 an9 cd9 ct9), sl9⟩)
    (c9 : PySem.W.codeIn K cd9 "table_from" = true)
    (k9 : PySem.W.keepIn K (.ref f9) = true)
    (a10 : PySem.W.nsIn K mainGlobals "sources_in" = some (some (.ref f10)))
    (l10 : K.lookup f10 = some ⟨oc10, od10, .func (PySem.W.fnOf "sources_in" "sources_in" (C8.fnArgs s_sources_in) (C8.fnBody s_sources_in) (C8.fnScope s_sources_in) .none kV10 dc10 pm10 an10 cd10 ct10), sl10⟩)
    (c10 : PySem.W.codeIn K cd10 "sources_in" = true)
    (k10 : PySem.W.keepIn K (.ref f10) = true)
    (a11 : PySem.W.nsIn K mainGlobals "lost_next" = some (some (.ref f11)))
    (l11 : K.lookup f11 = some ⟨oc11, od11, .func (PySem.W.fnOf "lost_next" "lost_next" (C8.fnArgs s_lost_next) (C8.fnBody s_lost_next) (C8.fnScope s_lost_next) .none kV11 dc11 pm11 an11 cd11 ct11), sl11⟩)
    (c11 : PySem.W.codeIn K cd11 "lost_next" = true)
    (k11 : PySem.W.keepIn K (.ref f11) = true)
    (a12 : PySem.W.nsIn K mainGlobals "ranks_in" = some (some (.ref f12)))
    (l12 : K.lookup f12 = some ⟨oc12, od12, .func (PySem.W.fnOf "ranks_in" "ranks_in" (C8.fnArgs s_ranks_in) (C8.fnBody s_ranks_in) (C8.fnScope s_ranks_in) .none kV12 dc12 pm12 an12 cd12 ct12), sl12⟩)
    (c12 : PySem.W.codeIn K cd12 "ranks_in" = true)
    (k12 : PySem.W.keepIn K (.ref f12) = true)
    (a13 : PySem.W.nsIn K mainGlobals "keeps" = some (some (.ref f13)))
    (l13 : K.lookup f13 = some ⟨oc13, od13, .func (PySem.W.fnOf "keeps" "keeps" (C8.fnArgs s_keeps) (C8.fnBody s_keeps) (C8.fnScope s_keeps) .none kV13 dc13 pm13 an13 cd13 ct13), sl13⟩)
    (c13 : PySem.W.codeIn K cd13 "keeps" = true)
    (k13 : PySem.W.keepIn K (.ref f13) = true)
    (a14 : PySem.W.nsIn K mainGlobals "lot_from" = some (some (.ref f14)))
    (l14 : K.lookup f14 = some ⟨oc14, od14, .func (PySem.W.fnOf "lot_from" "lot_from" (C8.fnArgs s_lot_from) (C8.fnBody s_lot_from) (C8.fnScope s_lot_from) .none kV14 dc14 pm14 an14 cd14 ct14), sl14⟩)
    (c14 : PySem.W.codeIn K cd14 "lot_from" = true)
    (k14 : PySem.W.keepIn K (.ref f14) = true)
    (a15 : PySem.W.nsIn K mainGlobals "keep" = some (some (.ref f15)))
    (l15 : K.lookup f15 = some ⟨oc15, od15, .func (PySem.W.fnOf "keep" "keep" (C8.fnArgs s_keep) (C8.fnBody s_keep) (C8.fnScope s_keep) .none kV15 dc15 pm15 an15 cd15 ct15), sl15⟩)
    (c15 : PySem.W.codeIn K cd15 "keep" = true)
    (k15 : PySem.W.keepIn K (.ref f15) = true)
    (a16 : PySem.W.nsIn K mainGlobals "answers_at" = some (some (.ref f16)))
    (l16 : K.lookup f16 = some ⟨oc16, od16, .func (PySem.W.fnOf "answers_at" "answers_at" (C8.fnArgs s_answers_at) (C8.fnBody s_answers_at) (C8.fnScope s_answers_at) .none kV16 dc16 pm16 an16 cd16 ct16), sl16⟩)
    (c16 : PySem.W.codeIn K cd16 "answers_at" = true)
    (k16 : PySem.W.keepIn K (.ref f16) = true)
    (a17 : PySem.W.nsIn K mainGlobals "fall_rows" = some (some (.ref f17)))
    (l17 : K.lookup f17 = some ⟨oc17, od17, .func (PySem.W.fnOf "fall_rows" "fall_rows" (C8.fnArgs s_fall_rows) (C8.fnBody s_fall_rows) (C8.fnScope s_fall_rows) .none kV17 dc17 pm17 an17 cd17 ct17), sl17⟩)
    (c17 : PySem.W.codeIn K cd17 "fall_rows" = true)
    (k17 : PySem.W.keepIn K (.ref f17) = true)
    (a18 : PySem.W.nsIn K mainGlobals "fall_paper" = some (some (.ref f18)))
    (l18 : K.lookup f18 = some ⟨oc18, od18, .func (PySem.W.fnOf "fall_paper" "fall_paper" (C8.fnArgs s_fall_paper) (C8.fnBody s_fall_paper) (C8.fnScope s_fall_paper) .none kV18 dc18 pm18 an18 cd18 ct18), sl18⟩)
    (c18 : PySem.W.codeIn K cd18 "fall_paper" = true)
    (k18 : PySem.W.keepIn K (.ref f18) = true)
    (a19 : PySem.W.nsIn K mainGlobals "course" = some (some (.ref f19)))
    (l19 : K.lookup f19 = some ⟨oc19, od19, .func (PySem.W.fnOf "course" "course" (C8.fnArgs s_course) (C8.fnBody s_course) (C8.fnScope s_course) .none kV19 dc19 pm19 an19 cd19 ct19), sl19⟩)
    (c19 : PySem.W.codeIn K cd19 "course" = true)
    (k19 : PySem.W.keepIn K (.ref f19) = true)
    (a20 : PySem.W.nsIn K mainGlobals "check_bounds" = some (some (.ref f20)))
    (l20 : K.lookup f20 = some ⟨oc20, od20, .func (PySem.W.fnOf "check_bounds" "check_bounds" (C8.fnArgs s_check_bounds) (C8.fnBody s_check_bounds) (C8.fnScope s_check_bounds) .none kV20 dc20 pm20 an20 cd20 ct20), sl20⟩)
    (c20 : PySem.W.codeIn K cd20 "check_bounds" = true)
    (k20 : PySem.W.keepIn K (.ref f20) = true)
    (a21 : PySem.W.nsIn K mainGlobals "check_states" = some (some (.ref f21)))
    (l21 : K.lookup f21 = some ⟨oc21, od21, .func (PySem.W.fnOf "check_states" "check_states" (C8.fnArgs s_check_states) (C8.fnBody s_check_states) (C8.fnScope s_check_states) .none kV21 dc21 pm21 an21 cd21 ct21), sl21⟩)
    (c21 : PySem.W.codeIn K cd21 "check_states" = true)
    (k21 : PySem.W.keepIn K (.ref f21) = true)
    (a22 : PySem.W.nsIn K mainGlobals "periods_used" = some (some (.ref f22)))
    (l22 : K.lookup f22 = some ⟨oc22, od22, .func (PySem.W.fnOf "periods_used" "periods_used" (C8.fnArgs s_periods_used) (C8.fnBody s_periods_used) (C8.fnScope s_periods_used) .none kV22 dc22 pm22 an22 cd22 ct22), sl22⟩)
    (c22 : PySem.W.codeIn K cd22 "periods_used" = true)
    (k22 : PySem.W.keepIn K (.ref f22) = true)
    (a23 : PySem.W.nsIn K mainGlobals "japanese" = some (some (.ref f23)))
    (l23 : K.lookup f23 = some ⟨oc23, od23, .func (PySem.W.fnOf "japanese" "japanese" (C8.fnArgs s_japanese) (C8.fnBody s_japanese) (C8.fnScope s_japanese) .none kV23 dc23 pm23 an23 cd23 ct23), sl23⟩)
    (c23 : PySem.W.codeIn K cd23 "japanese" = true)
    (k23 : PySem.W.keepIn K (.ref f23) = true)
    (a24 : PySem.W.nsIn K mainGlobals "checked_amount" = some (some (.ref f24)))
    (l24 : K.lookup f24 = some ⟨oc24, od24, .func (PySem.W.fnOf "checked_amount" "checked_amount" (C8.fnArgs s_checked_amount) (C8.fnBody s_checked_amount) (C8.fnScope s_checked_amount) .none kV24 dc24 pm24 an24 cd24 ct24), sl24⟩)
    (c24 : PySem.W.codeIn K cd24 "checked_amount" = true)
    (k24 : PySem.W.keepIn K (.ref f24) = true)
    (a25 : PySem.W.nsIn K mainGlobals "keeps_good" = some (some (.ref f25)))
    (l25 : K.lookup f25 = some ⟨oc25, od25, .func (PySem.W.fnOf "keeps_good" "keeps_good" (C8.fnArgs s_keeps_good) (C8.fnBody s_keeps_good) (C8.fnScope s_keeps_good) .none kV25 dc25 pm25 an25 cd25 ct25), sl25⟩)
    (c25 : PySem.W.codeIn K cd25 "keeps_good" = true)
    (k25 : PySem.W.keepIn K (.ref f25) = true)
    (a26 : PySem.W.nsIn K mainGlobals "good_pairs" = some (some (.ref f26)))
    (l26 : K.lookup f26 = some ⟨oc26, od26, .func (PySem.W.fnOf "good_pairs" "good_pairs" (C8.fnArgs s_good_pairs) (C8.fnBody s_good_pairs) (C8.fnScope s_good_pairs) .none kV26 dc26 pm26 an26 cd26 ct26), sl26⟩)
    (c26 : PySem.W.codeIn K cd26 "good_pairs" = true)
    (k26 : PySem.W.keepIn K (.ref f26) = true)
    (a27 : PySem.W.nsIn K mainGlobals "is_honest" = some (some (.ref f27)))
    (l27 : K.lookup f27 = some ⟨oc27, od27, .func (PySem.W.fnOf "is_honest" "is_honest" (C8.fnArgs s_is_honest) (C8.fnBody s_is_honest) (C8.fnScope s_is_honest) .none kV27 dc27 pm27 an27 cd27 ct27), sl27⟩)
    (c27 : PySem.W.codeIn K cd27 "is_honest" = true)
    (k27 : PySem.W.keepIn K (.ref f27) = true)
    (a28 : PySem.W.nsIn K mainGlobals "stages_fit" = some (some (.ref f28)))
    (l28 : K.lookup f28 = some ⟨oc28, od28, .func (PySem.W.fnOf "stages_fit" "stages_fit" (C8.fnArgs s_stages_fit) (C8.fnBody s_stages_fit) (C8.fnScope s_stages_fit) .none kV28 dc28 pm28 an28 cd28 ct28), sl28⟩)
    (c28 : PySem.W.codeIn K cd28 "stages_fit" = true)
    (k28 : PySem.W.keepIn K (.ref f28) = true)
    (a29 : PySem.W.nsIn K mainGlobals "overtime_fits" = some (some (.ref f29)))
    (l29 : K.lookup f29 = some ⟨oc29, od29, .func (PySem.W.fnOf "overtime_fits" "overtime_fits" (C8.fnArgs s_overtime_fits) (C8.fnBody s_overtime_fits) (C8.fnScope s_overtime_fits) .none kV29 dc29 pm29 an29 cd29 ct29), sl29⟩)
    (c29 : PySem.W.codeIn K cd29 "overtime_fits" = true)
    (k29 : PySem.W.keepIn K (.ref f29) = true)
    (a30 : PySem.W.nsIn K mainGlobals "_law_cell" = some (some (.ref f30)))
    (l30 : K.lookup f30 = some ⟨oc30, od30, .func (PySem.W.fnOf "_law_cell" "_law_cell" (C8.fnArgs s_law_cell) (C8.fnBody s_law_cell) (C8.fnScope s_law_cell) .none kV30 dc30 pm30 an30 cd30 ct30), sl30⟩)
    (c30 : PySem.W.codeIn K cd30 "_law_cell" = true)
    (k30 : PySem.W.keepIn K (.ref f30) = true)
    (a31 : PySem.W.nsIn K mainGlobals "_law_numbers" = some (some (.ref f31)))
    (l31 : K.lookup f31 = some ⟨oc31, od31, .func (PySem.W.fnOf "_law_numbers" "_law_numbers" (C8.fnArgs s_law_numbers) (C8.fnBody s_law_numbers) (C8.fnScope s_law_numbers) .none kV31 dc31 pm31 an31 cd31 ct31), sl31⟩)
    (c31 : PySem.W.codeIn K cd31 "_law_numbers" = true)
    (k31 : PySem.W.keepIn K (.ref f31) = true)
    (a32 : PySem.W.nsIn K mainGlobals "_law_is" = some (some (.ref f32)))
    (l32 : K.lookup f32 = some ⟨oc32, od32, .func (PySem.W.fnOf "_law_is" "_law_is" (C8.fnArgs s_law_is) (C8.fnBody s_law_is) (C8.fnScope s_law_is) .none kV32 dc32 pm32 an32 cd32 ct32), sl32⟩)
    (c32 : PySem.W.codeIn K cd32 "_law_is" = true)
    (k32 : PySem.W.keepIn K (.ref f32) = true)
    (a33 : PySem.W.nsIn K mainGlobals "_law_woven" = some (some (.ref f33)))
    (l33 : K.lookup f33 = some ⟨oc33, od33, .func (PySem.W.fnOf "_law_woven" "_law_woven" (C8.fnArgs s_law_woven) (C8.fnBody s_law_woven) (C8.fnScope s_law_woven) .none kV33 dc33 pm33 an33 cd33 ct33), sl33⟩)
    (c33 : PySem.W.codeIn K cd33 "_law_woven" = true)
    (k33 : PySem.W.keepIn K (.ref f33) = true)
    (a34 : PySem.W.nsIn K mainGlobals "_law_grown" = some (some (.ref f34)))
    (l34 : K.lookup f34 = some ⟨oc34, od34, .func (PySem.W.fnOf "_law_grown" "_law_grown" (C8.fnArgs s_law_grown) (C8.fnBody s_law_grown) (C8.fnScope s_law_grown) .none kV34 dc34 pm34 an34 cd34 ct34), sl34⟩)
    (c34 : PySem.W.codeIn K cd34 "_law_grown" = true)
    (k34 : PySem.W.keepIn K (.ref f34) = true)
    (a35 : PySem.W.nsIn K mainGlobals "_law_led" = some (some (.ref f35)))
    (l35 : K.lookup f35 = some ⟨oc35, od35, .func (PySem.W.fnOf "_law_led" "_law_led" (C8.fnArgs s_law_led) (C8.fnBody s_law_led) (C8.fnScope s_law_led) .none kV35 dc35 pm35 an35 cd35 ct35), sl35⟩)
    (c35 : PySem.W.codeIn K cd35 "_law_led" = true)
    (k35 : PySem.W.keepIn K (.ref f35) = true)
    (a36 : PySem.W.nsIn K mainGlobals "_law_boards" = some (some (.ref f36)))
    (l36 : K.lookup f36 = some ⟨oc36, od36, .func (PySem.W.fnOf "_law_boards" "_law_boards" (C8.fnArgs s_law_boards) (C8.fnBody s_law_boards) (C8.fnScope s_law_boards) .none kV36 dc36 pm36 an36 cd36 ct36), sl36⟩)
    (c36 : PySem.W.codeIn K cd36 "_law_boards" = true)
    (k36 : PySem.W.keepIn K (.ref f36) = true)
    (a37 : PySem.W.nsIn K mainGlobals "_law_start" = some (some (.ref f37)))
    (l37 : K.lookup f37 = some ⟨oc37, od37, .func (PySem.W.fnOf "_law_start" "_law_start" (C8.fnArgs s_law_start) (C8.fnBody s_law_start) (C8.fnScope s_law_start) .none kV37 dc37 pm37 an37 cd37 ct37), sl37⟩)
    (c37 : PySem.W.codeIn K cd37 "_law_start" = true)
    (k37 : PySem.W.keepIn K (.ref f37) = true)
    (a38 : PySem.W.nsIn K mainGlobals "_law_able" = some (some (.ref f38)))
    (l38 : K.lookup f38 = some ⟨oc38, od38, .func (PySem.W.fnOf "_law_able" "_law_able" (C8.fnArgs s_law_able) (C8.fnBody s_law_able) (C8.fnScope s_law_able) .none kV38 dc38 pm38 an38 cd38 ct38), sl38⟩)
    (c38 : PySem.W.codeIn K cd38 "_law_able" = true)
    (k38 : PySem.W.keepIn K (.ref f38) = true)
    (a39 : PySem.W.nsIn K mainGlobals "_law_pairs" = some (some (.ref f39)))
    (l39 : K.lookup f39 = some ⟨oc39, od39, .func (PySem.W.fnOf "_law_pairs" "_law_pairs" (C8.fnArgs s_law_pairs) (C8.fnBody s_law_pairs) (C8.fnScope s_law_pairs) .none kV39 dc39 pm39 an39 cd39 ct39), sl39⟩)
    (c39 : PySem.W.codeIn K cd39 "_law_pairs" = true)
    (k39 : PySem.W.keepIn K (.ref f39) = true)
    (a40 : PySem.W.nsIn K mainGlobals "_law_ascending" = some (some (.ref f40)))
    (l40 : K.lookup f40 = some ⟨oc40, od40, .func (PySem.W.fnOf "_law_ascending" "_law_ascending" (C8.fnArgs s_law_ascending) (C8.fnBody s_law_ascending) (C8.fnScope s_law_ascending) .none kV40 dc40 pm40 an40 cd40 ct40), sl40⟩)
    (c40 : PySem.W.codeIn K cd40 "_law_ascending" = true)
    (k40 : PySem.W.keepIn K (.ref f40) = true)
    (a41 : PySem.W.nsIn K mainGlobals "_law_lot" = some (some (.ref f41)))
    (l41 : K.lookup f41 = some ⟨oc41, od41, .func (PySem.W.fnOf "_law_lot" "_law_lot" (C8.fnArgs s_law_lot) (C8.fnBody s_law_lot) (C8.fnScope s_law_lot) .none kV41 dc41 pm41 an41 cd41 ct41), sl41⟩)
    (c41 : PySem.W.codeIn K cd41 "_law_lot" = true)
    (k41 : PySem.W.keepIn K (.ref f41) = true)
    (a42 : PySem.W.nsIn K mainGlobals "_law_paper" = some (some (.ref f42)))
    (l42 : K.lookup f42 = some ⟨oc42, od42, .func (PySem.W.fnOf "_law_paper" "_law_paper" (C8.fnArgs s_law_paper) (C8.fnBody s_law_paper) (C8.fnScope s_law_paper) .none kV42 dc42 pm42 an42 cd42 ct42), sl42⟩)
    (c42 : PySem.W.codeIn K cd42 "_law_paper" = true)
    (k42 : PySem.W.keepIn K (.ref f42) = true)
    (a43 : PySem.W.nsIn K mainGlobals "_law_clocks" = some (some (.ref f43)))
    (l43 : K.lookup f43 = some ⟨oc43, od43, .func (PySem.W.fnOf "_law_clocks" "_law_clocks" (C8.fnArgs s_law_clocks) (C8.fnBody s_law_clocks) (C8.fnScope s_law_clocks) .none kV43 dc43 pm43 an43 cd43 ct43), sl43⟩)
    (c43 : PySem.W.codeIn K cd43 "_law_clocks" = true)
    (k43 : PySem.W.keepIn K (.ref f43) = true)
    (a44 : PySem.W.nsIn K mainGlobals "_law_bears" = some (some (.ref f44)))
    (l44 : K.lookup f44 = some ⟨oc44, od44, .func (PySem.W.fnOf "_law_bears" "_law_bears" (C8.fnArgs s_law_bears) (C8.fnBody s_law_bears) (C8.fnScope s_law_bears) .none kV44 dc44 pm44 an44 cd44 ct44), sl44⟩)
    (c44 : PySem.W.codeIn K cd44 "_law_bears" = true)
    (k44 : PySem.W.keepIn K (.ref f44) = true)
    (a45 : PySem.W.nsIn K mainGlobals "_law_turns" = some (some (.ref f45)))
    (l45 : K.lookup f45 = some ⟨oc45, od45, .func (PySem.W.fnOf "_law_turns" "_law_turns" (C8.fnArgs s_law_turns) (C8.fnBody s_law_turns) (C8.fnScope s_law_turns) .none kV45 dc45 pm45 an45 cd45 ct45), sl45⟩)
    (c45 : PySem.W.codeIn K cd45 "_law_turns" = true)
    (k45 : PySem.W.keepIn K (.ref f45) = true)
    (a46 : PySem.W.nsIn K mainGlobals "_law_longest" = some (some (.ref f46)))
    (l46 : K.lookup f46 = some ⟨oc46, od46, .func (PySem.W.fnOf "_law_longest" "_law_longest" (C8.fnArgs s_law_longest) (C8.fnBody s_law_longest) (C8.fnScope s_law_longest) .none kV46 dc46 pm46 an46 cd46 ct46), sl46⟩)
    (c46 : PySem.W.codeIn K cd46 "_law_longest" = true)
    (k46 : PySem.W.keepIn K (.ref f46) = true)
    (a47 : PySem.W.nsIn K mainGlobals "_law_falls" = some (some (.ref f47)))
    (l47 : K.lookup f47 = some ⟨oc47, od47, .func (PySem.W.fnOf "_law_falls" "_law_falls" (C8.fnArgs s_law_falls) (C8.fnBody s_law_falls) (C8.fnScope s_law_falls) .none kV47 dc47 pm47 an47 cd47 ct47), sl47⟩)
    (c47 : PySem.W.codeIn K cd47 "_law_falls" = true)
    (k47 : PySem.W.keepIn K (.ref f47) = true)
    (a48 : PySem.W.nsIn K mainGlobals "law" = some (some (.ref f48)))
    (l48 : K.lookup f48 = some ⟨oc48, od48, .func (PySem.W.fnOf "law" "law" (C8.fnArgs s_law) (C8.fnBody s_law) (C8.fnScope s_law) .none kV48 dc48 pm48 an48 cd48 ct48), sl48⟩)
    (c48 : PySem.W.codeIn K cd48 "law" = true)
    (k48 : PySem.W.keepIn K (.ref f48) = true)
    (amBinit : PySem.W.findIn K (.ref CB) "__init__" = some (some (.ref fmBinit)))
    (imBinit : PySem.W.isFn K (.ref fmBinit) = true)
    (lmBinit : K.lookup fmBinit = some ⟨ocmBinit, odmBinit, .func (PySem.W.fnOf "__init__" "Book.__init__" (C8.fnArgs s_Book_init) (C8.fnBody s_Book_init) (C8.fnScope s_Book_init) (.ref TD) kVmBinit dcmBinit pmmBinit anmBinit cdmBinit ctmBinit), slmBinit⟩)
    (cmBinit : PySem.W.codeIn K cdmBinit "Book.__init__" = true)
    (kmBinit : PySem.W.keepIn K (.ref fmBinit) = true)
    (lT : K.lookup TD = some ⟨ocT, odT, .seq #[.ref T1, .ref T2] nT, slT⟩)
    (amBstage_phase : PySem.W.findIn K (.ref CB) "stage_phase" = some (some (.ref fmBstage_phase)))
    (imBstage_phase : PySem.W.isFn K (.ref fmBstage_phase) = true)
    (lmBstage_phase : K.lookup fmBstage_phase = some ⟨ocmBstage_phase, odmBstage_phase, .func (PySem.W.fnOf "stage_phase" "Book.stage_phase" (C8.fnArgs s_Book_stage_phase) (C8.fnBody s_Book_stage_phase) (C8.fnScope s_Book_stage_phase) .none kVmBstage_phase dcmBstage_phase pmmBstage_phase anmBstage_phase cdmBstage_phase ctmBstage_phase), slmBstage_phase⟩)
    (cmBstage_phase : PySem.W.codeIn K cdmBstage_phase "Book.stage_phase" = true)
    (kmBstage_phase : PySem.W.keepIn K (.ref fmBstage_phase) = true)
    (amBopening : PySem.W.findIn K (.ref CB) "opening" = some (some (.ref fmBopening)))
    (imBopening : PySem.W.isFn K (.ref fmBopening) = true)
    (lmBopening : K.lookup fmBopening = some ⟨ocmBopening, odmBopening, .func (PySem.W.fnOf "opening" "Book.opening" (C8.fnArgs s_Book_opening) (C8.fnBody s_Book_opening) (C8.fnScope s_Book_opening) .none kVmBopening dcmBopening pmmBopening anmBopening cdmBopening ctmBopening), slmBopening⟩)
    (cmBopening : PySem.W.codeIn K cdmBopening "Book.opening" = true)
    (kmBopening : PySem.W.keepIn K (.ref fmBopening) = true)
    (amBphases : PySem.W.findIn K (.ref CB) "phases" = some (some (.ref fmBphases)))
    (imBphases : PySem.W.isFn K (.ref fmBphases) = true)
    (lmBphases : K.lookup fmBphases = some ⟨ocmBphases, odmBphases, .func (PySem.W.fnOf "phases" "Book.phases" (C8.fnArgs s_Book_phases) (C8.fnBody s_Book_phases) (C8.fnScope s_Book_phases) .none kVmBphases dcmBphases pmmBphases anmBphases cdmBphases ctmBphases), slmBphases⟩)
    (cmBphases : PySem.W.codeIn K cdmBphases "Book.phases" = true)
    (kmBphases : PySem.W.keepIn K (.ref fmBphases) = true)
    (amBovertime_step : PySem.W.findIn K (.ref CB) "overtime_step" = some (some (.ref fmBovertime_step)))
    (imBovertime_step : PySem.W.isFn K (.ref fmBovertime_step) = true)
    (lmBovertime_step : K.lookup fmBovertime_step = some ⟨ocmBovertime_step, odmBovertime_step, .func (PySem.W.fnOf "overtime_step" "Book.overtime_step" (C8.fnArgs s_Book_overtime_step) (C8.fnBody s_Book_overtime_step) (C8.fnScope s_Book_overtime_step) .none kVmBovertime_step dcmBovertime_step pmmBovertime_step anmBovertime_step cdmBovertime_step ctmBovertime_step), slmBovertime_step⟩)
    (cmBovertime_step : PySem.W.codeIn K cdmBovertime_step "Book.overtime_step" = true)
    (kmBovertime_step : PySem.W.keepIn K (.ref fmBovertime_step) = true)
    (amCinit : PySem.W.findIn K (.ref CC) "__init__" = some (some (.ref fmCinit)))
    (imCinit : PySem.W.isFn K (.ref fmCinit) = true)
    (lmCinit : K.lookup fmCinit = some ⟨ocmCinit, odmCinit, .func (PySem.W.fnOf "__init__" "Clock.__init__" (C8.fnArgs s_Clock_init) (C8.fnBody s_Clock_init) (C8.fnScope s_Clock_init) .none (.ref kD) dcmCinit pmmCinit anmCinit cdmCinit ctmCinit), slmCinit⟩)
    (cmCinit : PySem.W.codeIn K cdmCinit "Clock.__init__" = true)
    (kmCinit : PySem.W.keepIn K (.ref fmCinit) = true)
    (nD : PySem.W.nsIn K kD "phase" = some (some .none))
    (lmCfallen : K.lookup fmCfallen = some ⟨ocmCfallen, odmCfallen, .func (PySem.W.fnOf "fallen" "Clock.fallen" (C8.fnArgs s_Clock_fallen) (C8.fnBody s_Clock_fallen) (C8.fnScope s_Clock_fallen) .none kVmCfallen dcmCfallen pmmCfallen anmCfallen cdmCfallen ctmCfallen), slmCfallen⟩)
    (cmCfallen : PySem.W.codeIn K cdmCfallen "Clock.fallen" = true)
    (kmCfallen : PySem.W.keepIn K (.ref fmCfallen) = true)
    (amCgo_on : PySem.W.findIn K (.ref CC) "go_on" = some (some (.ref fmCgo_on)))
    (imCgo_on : PySem.W.isFn K (.ref fmCgo_on) = true)
    (lmCgo_on : K.lookup fmCgo_on = some ⟨ocmCgo_on, odmCgo_on, .func (PySem.W.fnOf "go_on" "Clock.go_on" (C8.fnArgs s_Clock_go_on) (C8.fnBody s_Clock_go_on) (C8.fnScope s_Clock_go_on) .none kVmCgo_on dcmCgo_on pmmCgo_on anmCgo_on cdmCgo_on ctmCgo_on), slmCgo_on⟩)
    (cmCgo_on : PySem.W.codeIn K cdmCgo_on "Clock.go_on" = true)
    (kmCgo_on : PySem.W.keepIn K (.ref fmCgo_on) = true)
    (amCovertime_after : PySem.W.findIn K (.ref CC) "overtime_after" = some (some (.ref fmCovertime_after)))
    (imCovertime_after : PySem.W.isFn K (.ref fmCovertime_after) = true)
    (lmCovertime_after : K.lookup fmCovertime_after = some ⟨ocmCovertime_after, odmCovertime_after, .func (PySem.W.fnOf "overtime_after" "Clock.overtime_after" (C8.fnArgs s_Clock_overtime_after) (C8.fnBody s_Clock_overtime_after) (C8.fnScope s_Clock_overtime_after) .none kVmCovertime_after dcmCovertime_after pmmCovertime_after anmCovertime_after cdmCovertime_after ctmCovertime_after), slmCovertime_after⟩)
    (cmCovertime_after : PySem.W.codeIn K cdmCovertime_after "Clock.overtime_after" = true)
    (kmCovertime_after : PySem.W.keepIn K (.ref fmCovertime_after) = true)
    (amCspend : PySem.W.findIn K (.ref CC) "spend" = some (some (.ref fmCspend)))
    (imCspend : PySem.W.isFn K (.ref fmCspend) = true)
    (lmCspend : K.lookup fmCspend = some ⟨ocmCspend, odmCspend, .func (PySem.W.fnOf "spend" "Clock.spend" (C8.fnArgs s_Clock_spend) (C8.fnBody s_Clock_spend) (C8.fnScope s_Clock_spend) .none kVmCspend dcmCspend pmmCspend anmCspend cdmCspend ctmCspend), slmCspend⟩)
    (cmCspend : PySem.W.codeIn K cdmCspend "Clock.spend" = true)
    (kmCspend : PySem.W.keepIn K (.ref fmCspend) = true)
    (amCstanding : PySem.W.findIn K (.ref CC) "standing" = some (some (.ref fmCstanding)))
    (imCstanding : PySem.W.isFn K (.ref fmCstanding) = true)
    (lmCstanding : K.lookup fmCstanding = some ⟨ocmCstanding, odmCstanding, .func (PySem.W.fnOf "standing" "Clock.standing" (C8.fnArgs s_Clock_standing) (C8.fnBody s_Clock_standing) (C8.fnScope s_Clock_standing) .none kVmCstanding dcmCstanding pmmCstanding anmCstanding cdmCstanding ctmCstanding), slmCstanding⟩)
    (cmCstanding : PySem.W.codeIn K cdmCstanding "Clock.standing" = true)
    (kmCstanding : PySem.W.keepIn K (.ref fmCstanding) = true)
    (amCtwin : PySem.W.findIn K (.ref CC) "twin" = some (some (.ref fmCtwin)))
    (imCtwin : PySem.W.isFn K (.ref fmCtwin) = true)
    (lmCtwin : K.lookup fmCtwin = some ⟨ocmCtwin, odmCtwin, .func (PySem.W.fnOf "twin" "Clock.twin" (C8.fnArgs s_Clock_twin) (C8.fnBody s_Clock_twin) (C8.fnScope s_Clock_twin) .none kVmCtwin dcmCtwin pmmCtwin anmCtwin cdmCtwin ctmCtwin), slmCtwin⟩)
    (cmCtwin : PySem.W.codeIn K cdmCtwin "Clock.twin" = true)
    (kmCtwin : PySem.W.keepIn K (.ref fmCtwin) = true)
    (pgB : PySem.W.plainGet K CB Str.empty = true)
    (hdB : PySem.W.hasDictIn K CB = true)
    (poB : PySem.W.plainOver K CB = true)
    (saB : PySem.W.findIn K (.ref CB) "__setattr__" = some (some (.builtin "object.__setattr__")))
    (mkB : PySem.W.makesIn K CB = true)
    (kcB : PySem.W.keepIn K (.ref CB) = true)
    (nB_kind : PySem.W.findIn K (.ref CB) "kind" = some none)
    (nB_allowance : PySem.W.findIn K (.ref CB) "allowance" = some none)
    (nB_stages : PySem.W.findIn K (.ref CB) "stages" = some none)
    (nB_overtime : PySem.W.findIn K (.ref CB) "overtime" = some none)
    (pgC : PySem.W.plainGet K CC Str.empty = true)
    (hdC : PySem.W.hasDictIn K CC = true)
    (poC : PySem.W.plainOver K CC = true)
    (saC : PySem.W.findIn K (.ref CC) "__setattr__" = some (some (.builtin "object.__setattr__")))
    (mkC : PySem.W.makesIn K CC = true)
    (kcC : PySem.W.keepIn K (.ref CC) = true)
    (nC_book : PySem.W.findIn K (.ref CC) "book" = some none)
    (nC_phase : PySem.W.findIn K (.ref CC) "phase" = some none)
    (nC_left : PySem.W.findIn K (.ref CC) "left" = some none)
    (z_len : PySem.W.nsIn K mainGlobals "len" = some none)
    (z_range : PySem.W.nsIn K mainGlobals "range" = some none)
    (z_min : PySem.W.nsIn K mainGlobals "min" = some none)
    (z_max : PySem.W.nsIn K mainGlobals "max" = some none)
    (z_abs : PySem.W.nsIn K mainGlobals "abs" = some none)
    (z_int : PySem.W.nsIn K mainGlobals "int" = some none)
    (z_tuple : PySem.W.nsIn K mainGlobals "tuple" = some none)
    (z_list : PySem.W.nsIn K mainGlobals "list" = some none)
    (z_isinstance : PySem.W.nsIn K mainGlobals "isinstance" = some none)
    (z_enumerate : PySem.W.nsIn K mainGlobals "enumerate" = some none)
    (z_zip : PySem.W.nsIn K mainGlobals "zip" = some none)
    (z_sorted : PySem.W.nsIn K mainGlobals "sorted" = some none)
    (z_all : PySem.W.nsIn K mainGlobals "all" = some none)
    (z_bool : PySem.W.nsIn K mainGlobals "bool" = some none)
    (g_MOST_BOARDS : PySem.W.nsIn K mainGlobals "MOST_BOARDS" = some (some (.int 3 t_MOST_BOARDS)))
    (g_MOST_WORK : PySem.W.nsIn K mainGlobals "MOST_WORK" = some (some (.int 6 t_MOST_WORK)))
    (g_MOST_LIMIT : PySem.W.nsIn K mainGlobals "MOST_LIMIT" = some (some (.int 12 t_MOST_LIMIT)))
    (g_MOST_LATEST : PySem.W.nsIn K mainGlobals "MOST_LATEST" = some (some (.int 8 t_MOST_LATEST)))
    (g_MOST_STANDINGS : PySem.W.nsIn K mainGlobals "MOST_STANDINGS" = some (some (.int 2000 t_MOST_STANDINGS)))
    (g_WAIT : PySem.W.nsIn K mainGlobals "WAIT" = some (some (.int (-1) t_WAIT)))
    (g_HAND : PySem.W.nsIn K mainGlobals "HAND" = some (some (.int 0 t_HAND)))
    (g_OTHER : PySem.W.nsIn K mainGlobals "OTHER" = some (some (.int 1 t_OTHER)))
    (g_KEPT : PySem.W.nsIn K mainGlobals "KEPT" = some (some (.str "kept" t_KEPT)))
    (g_FALLS : PySem.W.nsIn K mainGlobals "FALLS" = some (some (.str "falls" t_FALLS)))
    (g_MOST : PySem.W.nsIn K mainGlobals "MOST" = some (some (.int 1000000000000000000000000000000 t_MOST)))
    (g_MOST_ALLOWANCE : PySem.W.nsIn K mainGlobals "MOST_ALLOWANCE" = some (some (.int 9 t_MOST_ALLOWANCE)))
    (g_MOST_STAGES : PySem.W.nsIn K mainGlobals "MOST_STAGES" = some (some (.int 3 t_MOST_STAGES)))
    (g_MOST_STAGE_MOVES : PySem.W.nsIn K mainGlobals "MOST_STAGE_MOVES" = some (some (.int 6 t_MOST_STAGE_MOVES)))
    (g_MOST_GAIN : PySem.W.nsIn K mainGlobals "MOST_GAIN" = some (some (.int 60 t_MOST_GAIN)))
    (g_MOST_STATES : PySem.W.nsIn K mainGlobals "MOST_STATES" = some (some (.int 12 t_MOST_STATES)))
    (g_TIMES : PySem.W.nsIn K mainGlobals "TIMES" = some (some (.int 10 t_TIMES)))
    (g_MOST_LENGTH : PySem.W.nsIn K mainGlobals "MOST_LENGTH" = some (some (.int 60 t_MOST_LENGTH)))
    (gK : PySem.W.nsIn K mainGlobals "BOOK_KINDS" = some (some (.ref bk)))
    (lK : K.lookup bk = some ⟨.type "tuple", odk, .seq #[.str "plain" tk1, .str "delay" tk2, .str "bonus" tk3] nk, slk⟩)
    (tC : PySem.W.typeIn K (.ref CC) = some mc)
    (rC : PySem.W.readsIn K CC mc = true)
    (sC : PySem.W.specialIn K (.ref CC) "__getattribute__" = some (some (.builtin "type.__getattribute__")))
    (fC : PySem.W.findCls K (.ref CC) mc "FALLEN" = some (.val (.ref fal)))
    (lF : K.lookup fal = some ⟨.type "tuple", odf, .seq #[.int (-2) tf1, .int 0 tf2] nf, slf⟩) :
    ∃ fd : FuncData, (∀ (s : Shared) (v : Value), BindsTo s fd ⟨[v], []⟩ [("script", v)]) ∧ ∀ base : Heap, K.In base → base.Ns mainGlobals mg → FnOk l.prog w K mg base C8.CX0 9 fa fd ["script"] (sp_law K) := by
  have e := hfa.symm.trans (PySem.W.mg_of X G a48)
  cases e
  have F0 : C8.Def K mg "board_fits" s_board_fits _ _ := ⟨fun8 l0 c0, PySem.W.mg_of X G a0, k0⟩
  have b0 := F0.fn.binds rfl (ps := ["board"]) fun _ _ _ _ _ _ us hl => match us, hl with | [_], _ => rfl
  have F1 : C8.Def K mg "checked_boards" s_checked_boards _ _ := ⟨fun8 l1 c1, PySem.W.mg_of X G a1, k1⟩
  have b1 := F1.fn.binds rfl (ps := ["boards"]) fun _ _ _ _ _ _ us hl => match us, hl with | [_], _ => rfl
  have F2 : C8.Def K mg "is_standing" s_is_standing _ _ := ⟨fun8 l2 c2, PySem.W.mg_of X G a2, k2⟩
  have b2 := F2.fn.binds rfl (ps := ["boards", "standing"]) fun _ _ _ _ _ _ us hl => match us, hl with | [_, _], _ => rfl
  have F3 : C8.Def K mg "as_standing" s_as_standing _ _ := ⟨fun8 l3 c3, PySem.W.mg_of X G a3, k3⟩
  have b3 := F3.fn.binds rfl (ps := ["pairs"]) fun _ _ _ _ _ _ us hl => match us, hl with | [_], _ => rfl
  have F4 : C8.Def K mg "checked_standing" s_checked_standing _ _ := ⟨fun8 l4 c4, PySem.W.mg_of X G a4, k4⟩
  have b4 := F4.fn.binds rfl (ps := ["boards", "standing"]) fun _ _ _ _ _ _ us hl => match us, hl with | [_, _], _ => rfl
  have F5 : C8.Def K mg "open_choices" s_open_choices _ _ := ⟨fun8 l5 c5, PySem.W.mg_of X G a5, k5⟩
  have b5 := F5.fn.binds rfl (ps := ["standing"]) fun _ _ _ _ _ _ us hl => match us, hl with | [_], _ => rfl
  have F6 : C8.Def K mg "answered" s_answered _ _ := ⟨fun8 l6 c6, PySem.W.mg_of X G a6, k6⟩
  have b6 := F6.fn.binds rfl (ps := ["board", "age", "ticks"]) fun _ _ _ _ _ _ us hl => match us, hl with | [_, _, _], _ => rfl
  have F7 : C8.Def K mg "passed" s_passed _ _ := ⟨fun8 l7 c7, PySem.W.mg_of X G a7, k7⟩
  have b7 := F7.fn.binds rfl (ps := ["board", "pair", "chosen", "ticks"]) fun _ _ _ _ _ _ us hl => match us, hl with | [_, _, _, _], _ => rfl
  have F8 : C8.Def K mg "led" s_led _ _ := ⟨fun8 l8 c8, PySem.W.mg_of X G a8, k8⟩
  have b8 := F8.fn.binds rfl (ps := ["boards", "standing", "choice"]) fun _ _ _ _ _ _ us hl => match us, hl with | [_, _, _], _ => rfl
  have F9 : C8.Def K mg "table_from" s_table_from _ _ := ⟨fun8 l9 c9, PySem.W.mg_of X G a9, k9⟩
  have b9 := F9.fn.binds rfl (ps := ["boards", "start"]) fun _ _ _ _ _ _ us hl => match us, hl with | [_, _], _ => rfl
  have F10 : C8.Def K mg "sources_in" s_sources_in _ _ := ⟨fun8 l10 c10, PySem.W.mg_of X G a10, k10⟩
  have b10 := F10.fn.binds rfl (ps := ["table"]) fun _ _ _ _ _ _ us hl => match us, hl with | [_], _ => rfl
  have F11 : C8.Def K mg "lost_next" s_lost_next _ _ := ⟨fun8 l11 c11, PySem.W.mg_of X G a11, k11⟩
  have b11 := F11.fn.binds rfl (ps := ["newest", "sources", "hopes", "spoilt"]) fun _ _ _ _ _ _ us hl => match us, hl with | [_, _, _, _], _ => rfl
  have F12 : C8.Def K mg "ranks_in" s_ranks_in _ _ := ⟨fun8 l12 c12, PySem.W.mg_of X G a12, k12⟩
  have b12 := F12.fn.binds rfl (ps := ["table"]) fun _ _ _ _ _ _ us hl => match us, hl with | [_], _ => rfl
  have F13 : C8.Def K mg "keeps" s_keeps _ _ := ⟨fun8 l13 c13, PySem.W.mg_of X G a13, k13⟩
  have b13 := F13.fn.binds rfl (ps := ["told", "ranks"]) fun _ _ _ _ _ _ us hl => match us, hl with | [_, _], _ => rfl
  have F14 : C8.Def K mg "lot_from" s_lot_from _ _ := ⟨fun8 l14 c14, PySem.W.mg_of X G a14, k14⟩
  have b14 := F14.fn.binds rfl (ps := ["table", "ranks", "start"]) fun _ _ _ _ _ _ us hl => match us, hl with | [_, _, _], _ => rfl
  have F15 : C8.Def K mg "keep" s_keep _ _ := ⟨fun8 l15 c15, PySem.W.mg_of X G a15, k15⟩
  have b15 := F15.fn.binds rfl (ps := ["boards", "standing"]) fun _ _ _ _ _ _ us hl => match us, hl with | [_, _], _ => rfl
  have F16 : C8.Def K mg "answers_at" s_answers_at _ _ := ⟨fun8 l16 c16, PySem.W.mg_of X G a16, k16⟩
  have b16 := F16.fn.binds rfl (ps := ["row", "ranks"]) fun _ _ _ _ _ _ us hl => match us, hl with | [_, _], _ => rfl
  have F17 : C8.Def K mg "fall_rows" s_fall_rows _ _ := ⟨fun8 l17 c17, PySem.W.mg_of X G a17, k17⟩
  have b17 := F17.fn.binds rfl (ps := ["boards", "start"]) fun _ _ _ _ _ _ us hl => match us, hl with | [_, _], _ => rfl
  have F18 : C8.Def K mg "fall_paper" s_fall_paper _ _ := ⟨fun8 l18 c18, PySem.W.mg_of X G a18, k18⟩
  have b18 := F18.fn.binds rfl (ps := ["boards", "standing"]) fun _ _ _ _ _ _ us hl => match us, hl with | [_, _], _ => rfl
  have F19 : C8.Def K mg "course" s_course _ _ := ⟨fun8 l19 c19, PySem.W.mg_of X G a19, k19⟩
  have b19 := F19.fn.binds rfl (ps := ["boards", "standing", "hand"]) fun _ _ _ _ _ _ us hl => match us, hl with | [_, _, _], _ => rfl
  have F20 : C8.Def K mg "check_bounds" s_check_bounds _ _ := ⟨fun8 l20 c20, PySem.W.mg_of X G a20, k20⟩
  have b20 := F20.fn.binds rfl (ps := ["one", "two"]) fun _ _ _ _ _ _ us hl => match us, hl with | [_, _], _ => rfl
  have F21 : C8.Def K mg "check_states" s_check_states _ _ := ⟨fun8 l21 c21, PySem.W.mg_of X G a21, k21⟩
  have b21 := F21.fn.binds rfl (ps := ["many"]) fun _ _ _ _ _ _ us hl => match us, hl with | [_], _ => rfl
  have F22 : C8.Def K mg "periods_used" s_periods_used _ _ := ⟨fun8 l22 c22, PySem.W.mg_of X G a22, k22⟩
  have b22 := F22.fn.binds rfl (ps := ["time", "length"]) fun _ _ _ _ _ _ us hl => match us, hl with | [_, _], _ => rfl
  have F23 : C8.Def K mg "japanese" s_japanese _ _ := ⟨fun8 l23 c23, PySem.W.mg_of X G a23, k23⟩
  have b23 := F23.fn.binds rfl (ps := ["periods", "length"]) fun _ _ _ _ _ _ us hl => match us, hl with | [_, _], _ => rfl
  have F24 : C8.Def K mg "checked_amount" s_checked_amount _ _ := ⟨fun8 l24 c24, PySem.W.mg_of X G a24, k24⟩
  have b24 := F24.fn.binds rfl (ps := ["amount"]) fun _ _ _ _ _ _ us hl => match us, hl with | [_], _ => rfl
  have F25 : C8.Def K mg "keeps_good" s_keeps_good _ _ := ⟨fun8 l25 c25, PySem.W.mg_of X G a25, k25⟩
  have b25 := F25.fn.binds rfl (ps := ["table", "one", "two"]) fun _ _ _ _ _ _ us hl => match us, hl with | [_, _, _], _ => rfl
  have F26 : C8.Def K mg "good_pairs" s_good_pairs _ _ := ⟨fun8 l26 c26, PySem.W.mg_of X G a26, k26⟩
  have b26 := F26.fn.binds rfl (ps := ["rows"]) fun _ _ _ _ _ _ us hl => match us, hl with | [_], _ => rfl
  have F27 : C8.Def K mg "is_honest" s_is_honest _ _ := ⟨fun8 l27 c27, PySem.W.mg_of X G a27, k27⟩
  have b27 := F27.fn.binds rfl (ps := ["rows"]) fun _ _ _ _ _ _ us hl => match us, hl with | [_], _ => rfl
  have F28 : C8.Def K mg "stages_fit" s_stages_fit _ _ := ⟨fun8 l28 c28, PySem.W.mg_of X G a28, k28⟩
  have b28 := F28.fn.binds rfl (ps := ["stages"]) fun _ _ _ _ _ _ us hl => match us, hl with | [_], _ => rfl
  have F29 : C8.Def K mg "overtime_fits" s_overtime_fits _ _ := ⟨fun8 l29 c29, PySem.W.mg_of X G a29, k29⟩
  have b29 := F29.fn.binds rfl (ps := ["rows"]) fun _ _ _ _ _ _ us hl => match us, hl with | [_], _ => rfl
  have F30 : C8.Def K mg "_law_cell" s_law_cell _ _ := ⟨fun8 l30 c30, PySem.W.mg_of X G a30, k30⟩
  have b30 := F30.fn.binds rfl (ps := ["script", "k"]) fun _ _ _ _ _ _ us hl => match us, hl with | [_, _], _ => rfl
  have F31 : C8.Def K mg "_law_numbers" s_law_numbers _ _ := ⟨fun8 l31 c31, PySem.W.mg_of X G a31, k31⟩
  have b31 := F31.fn.binds rfl (ps := ["cell", "salt", "count", "many"]) fun _ _ _ _ _ _ us hl => match us, hl with | [_, _, _, _], _ => rfl
  have F32 : C8.Def K mg "_law_is" s_law_is _ _ := ⟨fun8 l32 c32, PySem.W.mg_of X G a32, k32⟩
  have b32 := F32.fn.binds rfl (ps := ["actual", "expected"]) fun _ _ _ _ _ _ us hl => match us, hl with | [_, _], _ => rfl
  have F33 : C8.Def K mg "_law_woven" s_law_woven _ _ := ⟨fun8 l33 c33, PySem.W.mg_of X G a33, k33⟩
  have b33 := F33.fn.binds rfl (ps := ["board", "pair", "chosen", "ticks"]) fun _ _ _ _ _ _ us hl => match us, hl with | [_, _, _, _], _ => rfl
  have F34 : C8.Def K mg "_law_grown" s_law_grown _ _ := ⟨fun8 l34 c34, PySem.W.mg_of X G a34, k34⟩
  have b34 := F34.fn.binds rfl (ps := ["rows", "spots"]) fun _ _ _ _ _ _ us hl => match us, hl with | [_, _], _ => rfl
  have F35 : C8.Def K mg "_law_led" s_law_led _ _ := ⟨fun8 l35 c35, PySem.W.mg_of X G a35, k35⟩
  have b35 := F35.fn.binds rfl (ps := ["boards", "place", "choice"]) fun _ _ _ _ _ _ us hl => match us, hl with | [_, _, _], _ => rfl
  have F36 : C8.Def K mg "_law_boards" s_law_boards _ _ := ⟨fun8 l36 c36, PySem.W.mg_of X G a36, k36⟩
  have b36 := F36.fn.binds rfl (ps := ["script", "n"]) fun _ _ _ _ _ _ us hl => match us, hl with | [_, _], _ => rfl
  have F37 : C8.Def K mg "_law_start" s_law_start _ _ := ⟨fun8 l37 c37, PySem.W.mg_of X G a37, k37⟩
  have b37 := F37.fn.binds rfl (ps := ["boards", "n"]) fun _ _ _ _ _ _ us hl => match us, hl with | [_, _], _ => rfl
  have F38 : C8.Def K mg "_law_able" s_law_able _ _ := ⟨fun8 l38 c38, PySem.W.mg_of X G a38, k38⟩
  have b38 := F38.fn.binds rfl (ps := ["place"]) fun _ _ _ _ _ _ us hl => match us, hl with | [_], _ => rfl
  have F39 : C8.Def K mg "_law_pairs" s_law_pairs _ _ := ⟨fun8 l39 c39, PySem.W.mg_of X G a39, k39⟩
  have b39 := F39.fn.binds rfl (ps := ["boards", "told"]) fun _ _ _ _ _ _ us hl => match us, hl with | [_, _], _ => rfl
  have F40 : C8.Def K mg "_law_ascending" s_law_ascending _ _ := ⟨fun8 l40 c40, PySem.W.mg_of X G a40, k40⟩
  have b40 := F40.fn.binds rfl (ps := ["boards", "rows"]) fun _ _ _ _ _ _ us hl => match us, hl with | [_, _], _ => rfl
  have F41 : C8.Def K mg "_law_lot" s_law_lot _ _ := ⟨fun8 l41 c41, PySem.W.mg_of X G a41, k41⟩
  have b41 := F41.fn.binds rfl (ps := ["boards", "start", "told"]) fun _ _ _ _ _ _ us hl => match us, hl with | [_, _, _], _ => rfl
  have F42 : C8.Def K mg "_law_paper" s_law_paper _ _ := ⟨fun8 l42 c42, PySem.W.mg_of X G a42, k42⟩
  have b42 := F42.fn.binds rfl (ps := ["boards", "start", "told", "rank"]) fun _ _ _ _ _ _ us hl => match us, hl with | [_, _, _, _], _ => rfl
  have F43 : C8.Def K mg "_law_clocks" s_law_clocks _ _ := ⟨fun8 l43 c43, PySem.W.mg_of X G a43, k43⟩
  have b43 := F43.fn.binds rfl (ps := ["boards"]) fun _ _ _ _ _ _ us hl => match us, hl with | [_], _ => rfl
  have F44 : C8.Def K mg "_law_bears" s_law_bears _ _ := ⟨fun8 l44 c44, PySem.W.mg_of X G a44, k44⟩
  have b44 := F44.fn.binds rfl (ps := ["clock", "used"]) fun _ _ _ _ _ _ us hl => match us, hl with | [_, _], _ => rfl
  have F45 : C8.Def K mg "_law_turns" s_law_turns _ _ := ⟨fun8 l45 c45, PySem.W.mg_of X G a45, k45⟩
  have b45 := F45.fn.binds rfl (ps := ["script", "boards", "lot", "start"]) fun _ _ _ _ _ _ us hl => match us, hl with | [_, _, _, _], _ => rfl
  have F46 : C8.Def K mg "_law_longest" s_law_longest _ _ := ⟨fun8 l46 c46, PySem.W.mg_of X G a46, k46⟩
  have b46 := F46.fn.binds rfl (ps := ["board", "pair", "ticks"]) fun _ _ _ _ _ _ us hl => match us, hl with | [_, _, _], _ => rfl
  have F47 : C8.Def K mg "_law_falls" s_law_falls _ _ := ⟨fun8 l47 c47, PySem.W.mg_of X G a47, k47⟩
  have b47 := F47.fn.binds rfl (ps := ["script", "boards", "paper", "start"]) fun _ _ _ _ _ _ us hl => match us, hl with | [_, _, _, _], _ => rfl
  have F48 : C8.Def K mg "law" s_law _ _ := ⟨fun8 l48 c48, PySem.W.mg_of X G a48, k48⟩
  have b48 := F48.fn.binds rfl (ps := ["script"]) fun _ _ _ _ _ _ us hl => match us, hl with | [_], _ => rfl
  have FmBinit : C8.Fun K "__init__" "Book.__init__" s_Book_init fmBinit _ := fun8 lmBinit cmBinit
  have bmBinit := book_binds lmBinit cmBinit kmBinit lT
  have FmBstage_phase : C8.Fun K "stage_phase" "Book.stage_phase" s_Book_stage_phase fmBstage_phase _ := fun8 lmBstage_phase cmBstage_phase
  have bmBstage_phase := FmBstage_phase.binds rfl (ps := ["self", "stage"]) fun _ _ _ _ _ _ us hl => match us, hl with | [_, _], _ => rfl
  have memBstage_phase : Meth K CB "stage_phase" fmBstage_phase := ⟨amBstage_phase, imBstage_phase, kmBstage_phase⟩
  have FmBopening : C8.Fun K "opening" "Book.opening" s_Book_opening fmBopening _ := fun8 lmBopening cmBopening
  have bmBopening := FmBopening.binds rfl (ps := ["self"]) fun _ _ _ _ _ _ us hl => match us, hl with | [_], _ => rfl
  have memBopening : Meth K CB "opening" fmBopening := ⟨amBopening, imBopening, kmBopening⟩
  have FmBphases : C8.Fun K "phases" "Book.phases" s_Book_phases fmBphases _ := fun8 lmBphases cmBphases
  have bmBphases := FmBphases.binds rfl (ps := ["self"]) fun _ _ _ _ _ _ us hl => match us, hl with | [_], _ => rfl
  have memBphases : Meth K CB "phases" fmBphases := ⟨amBphases, imBphases, kmBphases⟩
  have FmBovertime_step : C8.Fun K "overtime_step" "Book.overtime_step" s_Book_overtime_step fmBovertime_step _ := fun8 lmBovertime_step cmBovertime_step
  have bmBovertime_step := FmBovertime_step.binds rfl (ps := ["self", "state", "time"]) fun _ _ _ _ _ _ us hl => match us, hl with | [_, _, _], _ => rfl
  have memBovertime_step : Meth K CB "overtime_step" fmBovertime_step := ⟨amBovertime_step, imBovertime_step, kmBovertime_step⟩
  have FmCinit : C8.Fun K "__init__" "Clock.__init__" s_Clock_init fmCinit _ := fun8 lmCinit cmCinit
  obtain ⟨dcl, bcl, vcl⟩ := clock_binds lmCinit cmCinit kmCinit nD
  have FmCfallen : C8.Fun K "fallen" "Clock.fallen" s_Clock_fallen fmCfallen _ := fun8 lmCfallen cmCfallen
  have bmCfallen := FmCfallen.binds rfl (ps := ["self"]) fun _ _ _ _ _ _ us hl => match us, hl with | [_], _ => rfl
  have FmCgo_on : C8.Fun K "go_on" "Clock.go_on" s_Clock_go_on fmCgo_on _ := fun8 lmCgo_on cmCgo_on
  have bmCgo_on := FmCgo_on.binds rfl (ps := ["self", "state"]) fun _ _ _ _ _ _ us hl => match us, hl with | [_, _], _ => rfl
  have memCgo_on : Meth K CC "go_on" fmCgo_on := ⟨amCgo_on, imCgo_on, kmCgo_on⟩
  have FmCovertime_after : C8.Fun K "overtime_after" "Clock.overtime_after" s_Clock_overtime_after fmCovertime_after _ := fun8 lmCovertime_after cmCovertime_after
  have bmCovertime_after := FmCovertime_after.binds rfl (ps := ["self", "used"]) fun _ _ _ _ _ _ us hl => match us, hl with | [_, _], _ => rfl
  have memCovertime_after : Meth K CC "overtime_after" fmCovertime_after := ⟨amCovertime_after, imCovertime_after, kmCovertime_after⟩
  have FmCspend : C8.Fun K "spend" "Clock.spend" s_Clock_spend fmCspend _ := fun8 lmCspend cmCspend
  have bmCspend := FmCspend.binds rfl (ps := ["self", "used"]) fun _ _ _ _ _ _ us hl => match us, hl with | [_, _], _ => rfl
  have memCspend : Meth K CC "spend" fmCspend := ⟨amCspend, imCspend, kmCspend⟩
  have FmCstanding : C8.Fun K "standing" "Clock.standing" s_Clock_standing fmCstanding _ := fun8 lmCstanding cmCstanding
  have bmCstanding := FmCstanding.binds rfl (ps := ["self"]) fun _ _ _ _ _ _ us hl => match us, hl with | [_], _ => rfl
  have memCstanding : Meth K CC "standing" fmCstanding := ⟨amCstanding, imCstanding, kmCstanding⟩
  have FmCtwin : C8.Fun K "twin" "Clock.twin" s_Clock_twin fmCtwin _ := fun8 lmCtwin cmCtwin
  have bmCtwin := FmCtwin.binds rfl (ps := ["self"]) fun _ _ _ _ _ _ us hl => match us, hl with | [_], _ => rfl
  have memCtwin : Meth K CC "twin" fmCtwin := ⟨amCtwin, imCtwin, kmCtwin⟩
  have cb : ClsB K CB := ⟨⟨pgB, hdB, poB, saB⟩, nB_kind, nB_allowance, nB_stages, nB_overtime⟩
  have cc : ClsC K CC := ⟨⟨pgC, hdC, poC, saC⟩, nC_book, nC_phase, nC_left⟩
  have T : Gb mg := ⟨PySem.W.mg_none_of X G z_len, PySem.W.mg_none_of X G z_range, PySem.W.mg_none_of X G z_min, PySem.W.mg_none_of X G z_max, PySem.W.mg_none_of X G z_abs, PySem.W.mg_none_of X G z_int, PySem.W.mg_none_of X G z_tuple, PySem.W.mg_none_of X G z_list, PySem.W.mg_none_of X G z_isinstance, PySem.W.mg_none_of X G z_enumerate, PySem.W.mg_none_of X G z_zip, PySem.W.mg_none_of X G z_sorted, PySem.W.mg_none_of X G z_all, PySem.W.mg_none_of X G z_bool, ⟨_, PySem.W.mg_of X G g_MOST_BOARDS, ⟨_, rfl⟩⟩, ⟨_, PySem.W.mg_of X G g_MOST_WORK, ⟨_, rfl⟩⟩, ⟨_, PySem.W.mg_of X G g_MOST_LIMIT, ⟨_, rfl⟩⟩, ⟨_, PySem.W.mg_of X G g_MOST_LATEST, ⟨_, rfl⟩⟩, ⟨_, PySem.W.mg_of X G g_MOST_STANDINGS, ⟨_, rfl⟩⟩, ⟨_, PySem.W.mg_of X G g_WAIT, ⟨_, rfl⟩⟩, ⟨_, PySem.W.mg_of X G g_HAND, ⟨_, rfl⟩⟩, ⟨_, PySem.W.mg_of X G g_OTHER, ⟨_, rfl⟩⟩, ⟨_, PySem.W.mg_of X G g_KEPT, ⟨_, rfl⟩⟩, ⟨_, PySem.W.mg_of X G g_FALLS, ⟨_, rfl⟩⟩, ⟨_, PySem.W.mg_of X G g_MOST, ⟨_, by rw [show My.MOST = 1000000000000000000000000000000 by decide +kernel]⟩⟩, ⟨_, PySem.W.mg_of X G g_MOST_ALLOWANCE, ⟨_, rfl⟩⟩, ⟨_, PySem.W.mg_of X G g_MOST_STAGES, ⟨_, rfl⟩⟩, ⟨_, PySem.W.mg_of X G g_MOST_STAGE_MOVES, ⟨_, rfl⟩⟩, ⟨_, PySem.W.mg_of X G g_MOST_GAIN, ⟨_, rfl⟩⟩, ⟨_, PySem.W.mg_of X G g_MOST_STATES, ⟨_, rfl⟩⟩, ⟨_, PySem.W.mg_of X G g_TIMES, ⟨_, rfl⟩⟩, ⟨_, PySem.W.mg_of X G g_MOST_LENGTH, ⟨_, rfl⟩⟩⟩
  have Tk : Gk K mg := ⟨⟨bk, PySem.W.mg_of X G gK, fun H => seqT3 lK⟩⟩
  have hmB := PySem.W.mg_of X G aCB
  have hmK := PySem.W.mg_of X G aCC
  have fc : FalC K mg CC := ⟨⟨mc, _, fal, hmK, ⟨rC, sC⟩, ⟨fC, rfl⟩, fun H => seqT2 lF⟩⟩
  have hpr : PropOf K CC "fallen" pp fmCfallen := ⟨p1, p2, p3, ⟨_, p4⟩⟩
  refine ⟨PySem.W.fnOf "law" "law" (C8.fnArgs s_law) (C8.fnBody s_law) (C8.fnScope s_law) .none kV48 dc48 pm48 an48 cd48 ct48, fun s v => .of_eq rfl, fun base _ _ => ?_⟩
  have c_board_fits : C8.Cal l.prog w K mg base 1 "board_fits" (sp_board_fits K) [] := ok_board_fits (P := l.prog) (w := w) (mg := mg) (base := base) F0 b0 T
  have c_checked_boards : C8.Cal l.prog w K mg base 2 "checked_boards" (sp_checked_boards K) [] := ok_checked_boards (P := l.prog) (w := w) (mg := mg) (base := base) F1 b1 T c_board_fits
  have c_is_standing : C8.Cal l.prog w K mg base 1 "is_standing" (sp_is_standing K) [] := ok_is_standing (P := l.prog) (w := w) (mg := mg) (base := base) F2 b2 T
  have c_as_standingT : C8.Cal l.prog w K mg base 1 "as_standing" (sp_as_standingT K) [] := ok_as_standingT (P := l.prog) (w := w) (mg := mg) (base := base) F3 b3 T
  have c_checked_standingT : C8.Cal l.prog w K mg base 2 "checked_standing" (sp_checked_standingT K) [] := ok_checked_standingT (P := l.prog) (w := w) (mg := mg) (base := base) F4 b4 c_as_standingT c_is_standing
  have c_as_standingL : C8.Cal l.prog w K mg base 1 "as_standing" (sp_as_standingL K) [] := ok_as_standingL (P := l.prog) (w := w) (mg := mg) (base := base) F3 b3 T
  have c_checked_standingL : C8.Cal l.prog w K mg base 2 "checked_standing" (sp_checked_standingL K) [] := ok_checked_standingL (P := l.prog) (w := w) (mg := mg) (base := base) F4 b4 c_as_standingL c_is_standing
  have c_open_choices : C8.Cal l.prog w K mg base 1 "open_choices" (sp_open_choices K) [] := ok_open_choices (P := l.prog) (w := w) (mg := mg) (base := base) F5 b5 T
  have c_answered : C8.Cal l.prog w K mg base 1 "answered" (sp_answered K) [] := ok_answered (P := l.prog) (w := w) (mg := mg) (base := base) F6 b6 T
  have c_passed : C8.Cal l.prog w K mg base 2 "passed" (sp_passed K) [] := ok_passed (P := l.prog) (w := w) (mg := mg) (base := base) F7 b7 T c_answered
  have c_led : C8.Cal l.prog w K mg base 3 "led" (sp_led K) [] := ok_led (P := l.prog) (w := w) (mg := mg) (base := base) F8 b8 T c_passed
  have c_table_from : C8.Cal l.prog w K mg base 4 "table_from" (sp_table_from K w) [] := ok_table_from (P := l.prog) (w := w) (mg := mg) (base := base) F9 b9 T c_open_choices c_led
  have c_sources_in : C8.Cal l.prog w K mg base 1 "sources_in" (sp_sources_in K w) [] := ok_sources_in (P := l.prog) (w := w) (mg := mg) (base := base) F10 b10 T
  have c_lost_next : C8.Cal l.prog w K mg base 1 "lost_next" (sp_lost_next K w) [] := ok_lost_next (P := l.prog) (w := w) (mg := mg) (base := base) F11 b11 T
  have c_ranks_in : C8.Cal l.prog w K mg base 2 "ranks_in" (sp_ranks_in K w) [] := ok_ranks_in (P := l.prog) (w := w) (mg := mg) (base := base) F12 b12 T c_sources_in c_lost_next
  have c_keeps : C8.Cal l.prog w K mg base 1 "keeps" (sp_keeps K w) [] := ok_keeps (P := l.prog) (w := w) (mg := mg) (base := base) F13 b13 T
  have c_lot_from : C8.Cal l.prog w K mg base 2 "lot_from" (sp_lot_from K w) [] := ok_lot_from (P := l.prog) (w := w) (mg := mg) (base := base) F14 b14 T c_open_choices c_keeps
  have c_keep : C8.Cal l.prog w K mg base 5 "keep" (sp_keep K w) [] := ok_keep (P := l.prog) (w := w) (mg := mg) (base := base) F15 b15 T c_checked_boards c_checked_standingT c_table_from c_ranks_in c_lot_from
  have c_answers_at : C8.Cal l.prog w K mg base 1 "answers_at" (sp_answers_at K w) [] := ok_answers_at (P := l.prog) (w := w) (mg := mg) (base := base) F16 b16 T
  have c_fall_rows : C8.Cal l.prog w K mg base 5 "fall_rows" (sp_fall_rows K w) [] := ok_fall_rows (P := l.prog) (w := w) (mg := mg) (base := base) F17 b17 T c_table_from c_ranks_in c_answers_at
  have c_fall_paper : C8.Cal l.prog w K mg base 6 "fall_paper" (sp_fall_paper K) [] := ok_fall_paper (P := l.prog) (w := w) (mg := mg) (base := base) F18 b18 T c_checked_boards c_checked_standingL c_fall_rows
  have c_courseL : C8.Cal l.prog w K mg base 6 "course" (sp_courseL K) [] := ok_courseL (P := l.prog) (w := w) (mg := mg) (base := base) F19 b19 T c_checked_boards c_checked_standingT c_fall_rows c_open_choices
  have c_courseT : C8.Cal l.prog w K mg base 6 "course" (sp_courseT K) [] := ok_courseT (P := l.prog) (w := w) (mg := mg) (base := base) F19 b19 T c_checked_boards c_checked_standingT c_fall_rows c_open_choices
  have c_check_bounds : C8.Cal l.prog w K mg base 1 "check_bounds" sp_check_bounds [] := ok_check_bounds (P := l.prog) (w := w) (mg := mg) (base := base) F20 b20 T
  have c_check_states : C8.Cal l.prog w K mg base 1 "check_states" sp_check_states [] := ok_check_states (P := l.prog) (w := w) (mg := mg) (base := base) F21 b21 T
  have c_periods_used : C8.Cal l.prog w K mg base 1 "periods_used" sp_periods_used [] := ok_periods_used (P := l.prog) (w := w) (mg := mg) (base := base) F22 b22
  have c_japanese : C8.Cal l.prog w K mg base 2 "japanese" sp_japanese [] := ok_japanese (P := l.prog) (w := w) (mg := mg) (base := base) F23 b23 T c_check_bounds c_check_states c_periods_used
  have c_checked_amount : C8.Cal l.prog w K mg base 1 "checked_amount" sp_checked_amount [] := ok_checked_amount (P := l.prog) (w := w) (mg := mg) (base := base) F24 b24 T
  have c_keeps_good : C8.Cal l.prog w K mg base 1 "keeps_good" (sp_keeps_good K) [] := ok_keeps_good (P := l.prog) (w := w) (mg := mg) (base := base) F25 b25 T
  have c_good_pairs : C8.Cal l.prog w K mg base 2 "good_pairs" (sp_good_pairs K) [] := ok_good_pairs (P := l.prog) (w := w) (mg := mg) (base := base) F26 b26 T c_keeps_good
  have c_is_honest : C8.Cal l.prog w K mg base 3 "is_honest" (sp_is_honest K) [] := ok_is_honest (P := l.prog) (w := w) (mg := mg) (base := base) F27 b27 T c_good_pairs
  have c_stages_fit : C8.Cal l.prog w K mg base 1 "stages_fit" (sp_stages_fit K) [] := ok_stages_fit (P := l.prog) (w := w) (mg := mg) (base := base) F28 b28 T
  have c_overtime_fits : C8.Cal l.prog w K mg base 4 "overtime_fits" (sp_overtime_fits K) [] := ok_overtime_fits (P := l.prog) (w := w) (mg := mg) (base := base) F29 b29 T c_is_honest
  have c_Book : C8.Mak l.prog w K mg base 5 "Book" CB (sp_Book K CB) [] := ok_Book_init (P := l.prog) (w := w) (mg := mg) (base := base) FmBinit bmBinit cb ⟨mkB, amBinit, imBinit, kcB⟩ hmB T Tk c_stages_fit c_overtime_fits
  have m_stage_phase : C8.Met l.prog w K mg base 1 CB "stage_phase" (sp_stage_phase K CB) [] := ok_stage_phase (P := l.prog) (w := w) (mg := mg) (base := base) FmBstage_phase bmBstage_phase cb memBstage_phase T
  have m_opening : C8.Met l.prog w K mg base 2 CB "opening" (sp_opening K CB) [] := ok_opening (P := l.prog) (w := w) (mg := mg) (base := base) FmBopening bmBopening cb memBopening m_stage_phase
  have m_phases : C8.Met l.prog w K mg base 1 CB "phases" (sp_phases K CB) [] := ok_phases (P := l.prog) (w := w) (mg := mg) (base := base) FmBphases bmBphases cb memBphases T
  have m_overtime_step : C8.Met l.prog w K mg base 2 CB "overtime_step" (sp_overtime_step K CB) [] := ok_overtime_step (P := l.prog) (w := w) (mg := mg) (base := base) FmBovertime_step bmBovertime_step cb memBovertime_step T c_checked_amount
  have c_ClockN : C8.Mak l.prog w K mg base 3 "Clock" CC (sp_ClockN K CC CB) [.non] := clockN_mak ⟨mkC, amCinit, imCinit, kcC⟩ (fn_Clock_initN (P := l.prog) (w := w) (base := base) FmCinit cc T c_checked_amount m_opening m_phases) hmK bcl vcl
  have k_ClockK : MakK l.prog w K mg base 3 "Clock" CC 2 ["phase"] (sp_ClockK K CC CB) := clockK_mak ⟨mkC, amCinit, imCinit, kcC⟩ (fn_Clock_initK (P := l.prog) (w := w) (base := base) FmCinit cc T c_checked_amount m_opening m_phases) hmK clock_kbinds
  have Fp : FnOk l.prog w K mg base C8.CX0 1 _ _ ["self"] (sp_fallen K CC CB) := fn_fallen (P := l.prog) (w := w) (base := base) FmCfallen cc fc
  have m_go_on : C8.Met l.prog w K mg base 1 CC "go_on" (sp_go_on K CC CB) [] := ok_go_on (P := l.prog) (w := w) (mg := mg) (base := base) FmCgo_on bmCgo_on cc memCgo_on fc
  have m_overtime_after : C8.Met l.prog w K mg base 3 CC "overtime_after" (sp_overtime_after K CC CB) [] := ok_overtime_after (P := l.prog) (w := w) (mg := mg) (base := base) FmCovertime_after bmCovertime_after cc cb memCovertime_after T m_overtime_step
  have m_spend : C8.Met l.prog w K mg base 4 CC "spend" (sp_spend K CC CB) [] := ok_spend (P := l.prog) (w := w) (mg := mg) (base := base) FmCspend bmCspend cc memCspend T c_checked_amount Fp hpr bmCfallen m_go_on m_overtime_after
  have m_standing : C8.Met l.prog w K mg base 1 CC "standing" (sp_standing K CC CB) [] := ok_standing (P := l.prog) (w := w) (mg := mg) (base := base) FmCstanding bmCstanding cc memCstanding
  have m_twin : C8.Met l.prog w K mg base 5 CC "twin" (sp_twin K CC CB) [] := ok_twin (P := l.prog) (w := w) (mg := mg) (base := base) FmCtwin bmCtwin cc memCtwin c_ClockN
  have c_law_cell : C8.Cal l.prog w K mg base 1 "_law_cell" (sp_law_cell K) [] := ok_law_cell (P := l.prog) (w := w) (mg := mg) (base := base) F30 b30 T
  have c_law_numbers : C8.Cal l.prog w K mg base 1 "_law_numbers" sp_law_numbers [] := ok_law_numbers (P := l.prog) (w := w) (mg := mg) (base := base) F31 b31 T
  have c_law_is : C8.Cal l.prog w K mg base 1 "_law_is" sp_law_is [] := ok_law_is (P := l.prog) (w := w) (mg := mg) (base := base) F32 b32 T
  have c_law_woven : C8.Cal l.prog w K mg base 1 "_law_woven" (sp_law_woven K) [] := ok_law_woven (P := l.prog) (w := w) (mg := mg) (base := base) F33 b33 T
  have c_law_grown : C8.Cal l.prog w K mg base 1 "_law_grown" (sp_law_grown K) [] := ok_law_grown (P := l.prog) (w := w) (mg := mg) (base := base) F34 b34 T
  have c_law_led : C8.Cal l.prog w K mg base 2 "_law_led" (sp_law_led K) [] := ok_law_led (P := l.prog) (w := w) (mg := mg) (base := base) F35 b35 T c_law_woven c_law_grown
  have c_law_boards : C8.Cal l.prog w K mg base 2 "_law_boards" (sp_law_boards K) [] := ok_law_boards (P := l.prog) (w := w) (mg := mg) (base := base) F36 b36 T c_law_cell c_law_numbers
  have c_law_start : C8.Cal l.prog w K mg base 1 "_law_start" (sp_law_start K) [] := ok_law_start (P := l.prog) (w := w) (mg := mg) (base := base) F37 b37 T
  have c_law_able : C8.Cal l.prog w K mg base 1 "_law_able" (sp_law_able K) [] := ok_law_able (P := l.prog) (w := w) (mg := mg) (base := base) F38 b38 T
  have c_law_pairs : C8.Cal l.prog w K mg base 1 "_law_pairs" (sp_law_pairs K) [] := ok_law_pairs (P := l.prog) (w := w) (mg := mg) (base := base) F39 b39 T
  have c_law_ascending : C8.Cal l.prog w K mg base 2 "_law_ascending" (sp_law_ascending K) [] := ok_law_ascending (P := l.prog) (w := w) (mg := mg) (base := base) F40 b40 T c_law_pairs
  have c_law_lot : C8.Cal l.prog w K mg base 3 "_law_lot" (sp_law_lot K w) [] := ok_law_lot (P := l.prog) (w := w) (mg := mg) (base := base) F41 b41 T c_law_ascending c_law_able c_law_led
  have c_law_paper : C8.Cal l.prog w K mg base 3 "_law_paper" (sp_law_paper K w) [] := ok_law_paper (P := l.prog) (w := w) (mg := mg) (base := base) F42 b42 T c_law_is c_law_ascending c_law_able c_law_led
  have c_law_clocks : C8.Cal l.prog w K mg base 7 "_law_clocks" (sp_law_clocks K CC CB) [] := ok_law_clocks (P := l.prog) (w := w) (mg := mg) (base := base) F43 b43 T c_japanese c_Book k_ClockK
  have c_law_bears : C8.Cal l.prog w K mg base 6 "_law_bears" (sp_law_bears K CC CB) [] := ok_law_bears (P := l.prog) (w := w) (mg := mg) (base := base) F44 b44 T m_twin m_spend
  have c_law_turns : C8.Cal l.prog w K mg base 8 "_law_turns" (sp_law_turns K w) [] := ok_law_turns (P := l.prog) (w := w) (mg := mg) (base := base) F45 b45 T c_law_clocks c_law_bears m_spend m_standing c_law_led c_law_cell c_law_numbers
  have c_law_longest : C8.Cal l.prog w K mg base 1 "_law_longest" (sp_law_longest K) [] := ok_law_longest (P := l.prog) (w := w) (mg := mg) (base := base) F46 b46 T
  have c_law_falls : C8.Cal l.prog w K mg base 8 "_law_falls" (sp_law_falls K w) [] := ok_law_falls (P := l.prog) (w := w) (mg := mg) (base := base) F47 b47 T cc c_law_able c_law_cell c_law_numbers c_courseL c_courseT c_law_clocks c_law_longest m_spend Fp hpr bmCfallen
  exact fn_law (CC := CC) (CB := CB) (P := l.prog) (w := w) (base := base) F48 T c_law_cell c_law_numbers c_law_boards c_law_start c_keep c_law_lot c_law_turns c_fall_paper c_law_paper c_law_falls
theorem walk {l : PySem.W.OpenLaw} {q : Program} {loose : List Str} {XP : (Str → Option Value) → Heap → Prop} {YP : World → Heap → Prop} {d : DefRec} {K : Params → PySem.W.Frag} (hn : l.most = some 63) (hdf : d.params.defaults = [])
    (hY : ∀ (w : World) (h : Heap), YP w h → (K w.params).In h)
    (F : ∀ (w : World) (mg : Str → Option Value) (fa : Addr) (h : Heap), (K w.params).In h → h.Ns mainGlobals mg → mg d.name = some (.ref fa) →
      ∃ fd : FuncData, (∀ (s : Shared) (u : Value), BindsTo s fd ⟨[u], []⟩ [("script", u)]) ∧ ∀ base : Heap, (K w.params).In base → base.Ns mainGlobals mg → FnOk l.prog w (K w.params) mg base C8.CX0 9 fa fd ["script"] (sp_law (K w.params))) :
    PySem.W.WalkO q loose XP YP l.row.toRowW d [] (fun f vs => PySem.call f vs) :=
  L2.walk_of (n := 63) (k := 9) (x := "script") (CX := fun _ => C8.CX0) (sp := fun w => sp_law (K w.params)) hn (by decide) hdf ⟨rfl, by decide, by decide⟩ hY F (fun _ _ a ns hl _ hS => ⟨a, ns, rfl, hS, fun _ => rfl⟩) fun _ _ _ _ _ z => z
end My
open PySem PySem.W PyProof.Rows
theorem PySem.Challenge.cw_matchclocks_k93_whole_hands_at_several_c_holds : PySem.Challenge.rw_matchclocks_k93_whole_hands_at_several_c.Holds := by
  w_on; o_law; k_head; (case hw => w_witness2)
  k_fill
  refine My.walk (l := PySem.Challenge.rw_matchclocks_k93_whole_hands_at_several_c) rfl rfl (fun w h Y => PySem.W.kIn_of Y) ?F
  case F =>
    intro w mg fa h KX G hmg
    refine' My.all_mk KX G hmg ?aCB ?aCC ?p1 ?p2 ?p3 ?p4 ?a0 ?l0 ?c0 ?k0 ?a1 ?l1 ?c1 ?k1 ?a2 ?l2 ?c2 ?k2 ?a3 ?l3 ?c3 ?k3 ?a4 ?l4 ?c4 ?k4 ?a5 ?l5 ?c5 ?k5 ?a6 ?l6 ?c6 ?k6 ?a7 ?l7 ?c7 ?k7 ?a8 ?l8 ?c8 ?k8 ?a9 ?l9 ?c9 ?k9 ?a10 ?l10 ?c10 ?k10 ?a11 ?l11 ?c11 ?k11 ?a12 ?l12 ?c12 ?k12 ?a13 ?l13 ?c13 ?k13 ?a14 ?l14 ?c14 ?k14 ?a15 ?l15 ?c15 ?k15 ?a16 ?l16 ?c16 ?k16 ?a17 ?l17 ?c17 ?k17 ?a18 ?l18 ?c18 ?k18 ?a19 ?l19 ?c19 ?k19 ?a20 ?l20 ?c20 ?k20 ?a21 ?l21 ?c21 ?k21 ?a22 ?l22 ?c22 ?k22 ?a23 ?l23 ?c23 ?k23 ?a24 ?l24 ?c24 ?k24 ?a25 ?l25 ?c25 ?k25 ?a26 ?l26 ?c26 ?k26 ?a27 ?l27 ?c27 ?k27 ?a28 ?l28 ?c28 ?k28 ?a29 ?l29 ?c29 ?k29 ?a30 ?l30 ?c30 ?k30 ?a31 ?l31 ?c31 ?k31 ?a32 ?l32 ?c32 ?k32 ?a33 ?l33 ?c33 ?k33 ?a34 ?l34 ?c34 ?k34 ?a35 ?l35 ?c35 ?k35 ?a36 ?l36 ?c36 ?k36 ?a37 ?l37 ?c37 ?k37 ?a38 ?l38 ?c38 ?k38 ?a39 ?l39 ?c39 ?k39 ?a40 ?l40 ?c40 ?k40 ?a41 ?l41 ?c41 ?k41 ?a42 ?l42 ?c42 ?k42 ?a43 ?l43 ?c43 ?k43 ?a44 ?l44 ?c44 ?k44 ?a45 ?l45 ?c45 ?k45 ?a46 ?l46 ?c46 ?k46 ?a47 ?l47 ?c47 ?k47 ?a48 ?l48 ?c48 ?k48 ?amBinit ?imBinit ?lmBinit ?cmBinit ?kmBinit ?lT ?amBstage_phase ?imBstage_phase ?lmBstage_phase ?cmBstage_phase ?kmBstage_phase ?amBopening ?imBopening ?lmBopening ?cmBopening ?kmBopening ?amBphases ?imBphases ?lmBphases ?cmBphases ?kmBphases ?amBovertime_step ?imBovertime_step ?lmBovertime_step ?cmBovertime_step ?kmBovertime_step ?amCinit ?imCinit ?lmCinit ?cmCinit ?kmCinit ?nD ?lmCfallen ?cmCfallen ?kmCfallen ?amCgo_on ?imCgo_on ?lmCgo_on ?cmCgo_on ?kmCgo_on ?amCovertime_after ?imCovertime_after ?lmCovertime_after ?cmCovertime_after ?kmCovertime_after ?amCspend ?imCspend ?lmCspend ?cmCspend ?kmCspend ?amCstanding ?imCstanding ?lmCstanding ?cmCstanding ?kmCstanding ?amCtwin ?imCtwin ?lmCtwin ?cmCtwin ?kmCtwin ?pgB ?hdB ?poB ?saB ?mkB ?kcB ?nB_kind ?nB_allowance ?nB_stages ?nB_overtime ?pgC ?hdC ?poC ?saC ?mkC ?kcC ?nC_book ?nC_phase ?nC_left ?z_len ?z_range ?z_min ?z_max ?z_abs ?z_int ?z_tuple ?z_list ?z_isinstance ?z_enumerate ?z_zip ?z_sorted ?z_all ?z_bool ?g_MOST_BOARDS ?g_MOST_WORK ?g_MOST_LIMIT ?g_MOST_LATEST ?g_MOST_STANDINGS ?g_WAIT ?g_HAND ?g_OTHER ?g_KEPT ?g_FALLS ?g_MOST ?g_MOST_ALLOWANCE ?g_MOST_STAGES ?g_MOST_STAGE_MOVES ?g_MOST_GAIN ?g_MOST_STATES ?g_TIMES ?g_MOST_LENGTH ?gK ?lK ?tC ?rC ?sC ?fC ?lF
    (case aCB => k_is)
    (case aCC => k_is)
    (case p1 => k_is)
    (case p2 => k_is)
    (case p3 => k_is)
    (case p4 => k_is)
    (case a0 => k_is)
    (case l0 => k_is)
    (case c0 => k_is)
    (case k0 => k_is)
    (case a1 => k_is)
    (case l1 => k_is)
    (case c1 => k_is)
    (case k1 => k_is)
    (case a2 => k_is)
    (case l2 => k_is)
    (case c2 => k_is)
    (case k2 => k_is)
    (case a3 => k_is)
    (case l3 => k_is)
    (case c3 => k_is)
    (case k3 => k_is)
    (case a4 => k_is)
    (case l4 => k_is)
    (case c4 => k_is)
    (case k4 => k_is)
    (case a5 => k_is)
    (case l5 => k_is)
    (case c5 => k_is)
    (case k5 => k_is)
    (case a6 => k_is)
    (case l6 => k_is)
    (case c6 => k_is)
    (case k6 => k_is)
    (case a7 => k_is)
    (case l7 => k_is)
    (case c7 => k_is)
    (case k7 => k_is)
    (case a8 => k_is)
    (case l8 => k_is)
    (case c8 => k_is)
    (case k8 => k_is)
    (case a9 => k_is)
    (case l9 => k_is)
    (case c9 => k_is)
    (case k9 => k_is)
    (case a10 => k_is)
    (case l10 => k_is)
    (case c10 => k_is)
    (case k10 => k_is)
    (case a11 => k_is)
    (case l11 => k_is)
    (case c11 => k_is)
    (case k11 => k_is)
    (case a12 => k_is)
    (case l12 => k_is)
    (case c12 => k_is)
    (case k12 => k_is)
    (case a13 => k_is)
    (case l13 => k_is)
    (case c13 => k_is)
    (case k13 => k_is)
    (case a14 => k_is)
    (case l14 => k_is)
    (case c14 => k_is)
    (case k14 => k_is)
    (case a15 => k_is)
    (case l15 => k_is)
    (case c15 => k_is)
    (case k15 => k_is)
    (case a16 => k_is)
    (case l16 => k_is)
    (case c16 => k_is)
    (case k16 => k_is)
    (case a17 => k_is)
    (case l17 => k_is)
    (case c17 => k_is)
    (case k17 => k_is)
    (case a18 => k_is)
    (case l18 => k_is)
    (case c18 => k_is)
    (case k18 => k_is)
    (case a19 => k_is)
    (case l19 => k_is)
    (case c19 => k_is)
    (case k19 => k_is)
    (case a20 => k_is)
    (case l20 => k_is)
    (case c20 => k_is)
    (case k20 => k_is)
    (case a21 => k_is)
    (case l21 => k_is)
    (case c21 => k_is)
    (case k21 => k_is)
    (case a22 => k_is)
    (case l22 => k_is)
    (case c22 => k_is)
    (case k22 => k_is)
    (case a23 => k_is)
    (case l23 => k_is)
    (case c23 => k_is)
    (case k23 => k_is)
    (case a24 => k_is)
    (case l24 => k_is)
    (case c24 => k_is)
    (case k24 => k_is)
    (case a25 => k_is)
    (case l25 => k_is)
    (case c25 => k_is)
    (case k25 => k_is)
    (case a26 => k_is)
    (case l26 => k_is)
    (case c26 => k_is)
    (case k26 => k_is)
    (case a27 => k_is)
    (case l27 => k_is)
    (case c27 => k_is)
    (case k27 => k_is)
    (case a28 => k_is)
    (case l28 => k_is)
    (case c28 => k_is)
    (case k28 => k_is)
    (case a29 => k_is)
    (case l29 => k_is)
    (case c29 => k_is)
    (case k29 => k_is)
    (case a30 => k_is)
    (case l30 => k_is)
    (case c30 => k_is)
    (case k30 => k_is)
    (case a31 => k_is)
    (case l31 => k_is)
    (case c31 => k_is)
    (case k31 => k_is)
    (case a32 => k_is)
    (case l32 => k_is)
    (case c32 => k_is)
    (case k32 => k_is)
    (case a33 => k_is)
    (case l33 => k_is)
    (case c33 => k_is)
    (case k33 => k_is)
    (case a34 => k_is)
    (case l34 => k_is)
    (case c34 => k_is)
    (case k34 => k_is)
    (case a35 => k_is)
    (case l35 => k_is)
    (case c35 => k_is)
    (case k35 => k_is)
    (case a36 => k_is)
    (case l36 => k_is)
    (case c36 => k_is)
    (case k36 => k_is)
    (case a37 => k_is)
    (case l37 => k_is)
    (case c37 => k_is)
    (case k37 => k_is)
    (case a38 => k_is)
    (case l38 => k_is)
    (case c38 => k_is)
    (case k38 => k_is)
    (case a39 => k_is)
    (case l39 => k_is)
    (case c39 => k_is)
    (case k39 => k_is)
    (case a40 => k_is)
    (case l40 => k_is)
    (case c40 => k_is)
    (case k40 => k_is)
    (case a41 => k_is)
    (case l41 => k_is)
    (case c41 => k_is)
    (case k41 => k_is)
    (case a42 => k_is)
    (case l42 => k_is)
    (case c42 => k_is)
    (case k42 => k_is)
    (case a43 => k_is)
    (case l43 => k_is)
    (case c43 => k_is)
    (case k43 => k_is)
    (case a44 => k_is)
    (case l44 => k_is)
    (case c44 => k_is)
    (case k44 => k_is)
    (case a45 => k_is)
    (case l45 => k_is)
    (case c45 => k_is)
    (case k45 => k_is)
    (case a46 => k_is)
    (case l46 => k_is)
    (case c46 => k_is)
    (case k46 => k_is)
    (case a47 => k_is)
    (case l47 => k_is)
    (case c47 => k_is)
    (case k47 => k_is)
    (case a48 => k_is)
    (case l48 => k_is)
    (case c48 => k_is)
    (case k48 => k_is)
    (case amBinit => k_is)
    (case imBinit => k_is)
    (case lmBinit => k_is)
    (case cmBinit => k_is)
    (case kmBinit => k_is)
    (case lT => k_is)
    (case amBstage_phase => k_is)
    (case imBstage_phase => k_is)
    (case lmBstage_phase => k_is)
    (case cmBstage_phase => k_is)
    (case kmBstage_phase => k_is)
    (case amBopening => k_is)
    (case imBopening => k_is)
    (case lmBopening => k_is)
    (case cmBopening => k_is)
    (case kmBopening => k_is)
    (case amBphases => k_is)
    (case imBphases => k_is)
    (case lmBphases => k_is)
    (case cmBphases => k_is)
    (case kmBphases => k_is)
    (case amBovertime_step => k_is)
    (case imBovertime_step => k_is)
    (case lmBovertime_step => k_is)
    (case cmBovertime_step => k_is)
    (case kmBovertime_step => k_is)
    (case amCinit => k_is)
    (case imCinit => k_is)
    (case lmCinit => k_is)
    (case cmCinit => k_is)
    (case kmCinit => k_is)
    (case nD => k_is)
    (case lmCfallen => k_is)
    (case cmCfallen => k_is)
    (case kmCfallen => k_is)
    (case amCgo_on => k_is)
    (case imCgo_on => k_is)
    (case lmCgo_on => k_is)
    (case cmCgo_on => k_is)
    (case kmCgo_on => k_is)
    (case amCovertime_after => k_is)
    (case imCovertime_after => k_is)
    (case lmCovertime_after => k_is)
    (case cmCovertime_after => k_is)
    (case kmCovertime_after => k_is)
    (case amCspend => k_is)
    (case imCspend => k_is)
    (case lmCspend => k_is)
    (case cmCspend => k_is)
    (case kmCspend => k_is)
    (case amCstanding => k_is)
    (case imCstanding => k_is)
    (case lmCstanding => k_is)
    (case cmCstanding => k_is)
    (case kmCstanding => k_is)
    (case amCtwin => k_is)
    (case imCtwin => k_is)
    (case lmCtwin => k_is)
    (case cmCtwin => k_is)
    (case kmCtwin => k_is)
    (case pgB => k_is)
    (case hdB => k_is)
    (case poB => k_is)
    (case saB => k_is)
    (case mkB => k_is)
    (case kcB => k_is)
    (case nB_kind => k_is)
    (case nB_allowance => k_is)
    (case nB_stages => k_is)
    (case nB_overtime => k_is)
    (case pgC => k_is)
    (case hdC => k_is)
    (case poC => k_is)
    (case saC => k_is)
    (case mkC => k_is)
    (case kcC => k_is)
    (case nC_book => k_is)
    (case nC_phase => k_is)
    (case nC_left => k_is)
    (case z_len => k_is)
    (case z_range => k_is)
    (case z_min => k_is)
    (case z_max => k_is)
    (case z_abs => k_is)
    (case z_int => k_is)
    (case z_tuple => k_is)
    (case z_list => k_is)
    (case z_isinstance => k_is)
    (case z_enumerate => k_is)
    (case z_zip => k_is)
    (case z_sorted => k_is)
    (case z_all => k_is)
    (case z_bool => k_is)
    (case g_MOST_BOARDS => k_is)
    (case g_MOST_WORK => k_is)
    (case g_MOST_LIMIT => k_is)
    (case g_MOST_LATEST => k_is)
    (case g_MOST_STANDINGS => k_is)
    (case g_WAIT => k_is)
    (case g_HAND => k_is)
    (case g_OTHER => k_is)
    (case g_KEPT => k_is)
    (case g_FALLS => k_is)
    (case g_MOST => k_is)
    (case g_MOST_ALLOWANCE => k_is)
    (case g_MOST_STAGES => k_is)
    (case g_MOST_STAGE_MOVES => k_is)
    (case g_MOST_GAIN => k_is)
    (case g_MOST_STATES => k_is)
    (case g_TIMES => k_is)
    (case g_MOST_LENGTH => k_is)
    (case gK => k_is)
    (case lK => k_is)
    (case tC => k_is)
    (case rC => k_is)
    (case sC => k_is)
    (case fC => k_is)
    (case lF => k_is)
