import PyProof.Rows.All
import Wide.All
import OpenK.AllK
import Wide.FinOn
import PySem.Challenge.RW_nt0035_01
set_option Elab.async false
set_option maxRecDepth 100000
set_option linter.unusedSimpArgs false
set_option linter.unusedVariables false
noncomputable section
section
open PySem PySem.W PyProof.Rows
set_option maxHeartbeats 8000000
namespace Nt
/-! the top, run at once: the library's own twins of its functions are used, the boot is the library's -/
noncomputable abbrev kp : List Nat := [0, 2, 3, 4, 5, 6, 7, 8, 9, 10, 11, 12, 13, 14, 15, 16, 17, 18, 19, 20, 21, 22, 24, 25, 27, 28, 30, 31, 33, 34, 35, 36, 37, 38, 39, 40, 41, 42, 43]
noncomputable def vw : Program := view PySem.Challenge.pw_nt0035_01 kp
noncomputable abbrev lo : List Str := [Str.ofString "_law_often", Str.ofString "_law_known"]
noncomputable abbrev rr : RowW := OpenRow.toRowW (OpenLaw.row PySem.Challenge.rw_nt0035_01)
theorem ws : OpenLaw.wellSaid PySem.Challenge.rw_nt0035_01 = true := by
  have h : PySem.W.Fast.tw9446332074065402090 PySem.Challenge.rw_nt0035_01 = true := by kernel_rfl
  exact (congrFun PySem.W.Fast.te9446332074065402090 _).trans h
theorem left_fast {p p' q : Program} {keep : List Nat} {loose : List Str} {Xt : Shared → Bool} {α : Type} {Yf : Shared → α} {Ya : World → α} {N : Nat}
    {TR : (String → Option Builtin) → Program → World → Nat → Option Value → Nat → Shared → Thread → Option Shared} {TT : String → Option Builtin}
    {OS : Program → List Str → List Str → (Shared → Bool) → Bool → Shared → _} (e0 : openSeen = OS) (e1 : topRun = TR) (e2 : treeTable = TT) (e4 : p = p') (eq : q = view p keep)
    (b : ∀ w : World, (fencedOpening treeTable p w N).map (fun s => (s.heap, s.gens, s.drawn, s.toks)) = some (boot_heap w.params, Array.mk [], boot_drawn, boot_toks))
    (h : ∀ (w : World) (os : OsState), (TR TT p' w (boot_heap w.params).objs.size ((boot_heap w.params).nsMap mainGlobals "__annotations__") N ⟨boot_heap w.params, Array.mk [], boot_drawn, boot_toks, os⟩ (topStub p')).map
      (fun s => ((staticsOk (importedModules p'.main.body) (boot_heap w.params) s.heap && namesBound p' s.heap && gensDone s && laidKept (boot_heap w.params) s.heap), OS (view p' keep) loose (importedModules p'.main.body) Xt true s, Yf s)) = some (true, openGood (view p' keep) loose, Ya w))
    (iz : ∀ w : World, (boot_heap w.params).isNs mainGlobals = true) : LeftO p q loose Xt Yf Ya N := by
  subst e0 e1 e2 e4 eq
  intro w
  obtain ⟨⟨hp, gs, d, k, os⟩, a, a'⟩ := Option.map_eq_some_iff.mp (b w)
  simp only [Prod.mk.injEq] at a'
  obtain ⟨rfl, rfl, rfl, rfl⟩ := a'
  obtain ⟨s1, c, c'⟩ := Option.map_eq_some_iff.mp (h w os)
  simp only [Prod.mk.injEq] at c'
  obtain ⟨c1, c2, c3⟩ := c'
  unfold openEnds
  rw [a, Option.bind_some]
  unfold topFrom
  rw [iz w]
  show ((topRun treeTable p w (boot_heap w.params).objs.size ((boot_heap w.params).nsMap mainGlobals "__annotations__") N ⟨boot_heap w.params, Array.mk [], boot_drawn, boot_toks, os⟩ (topStub p)).bind _).map _ = _
  rw [c, Option.bind_some]
  dsimp only
  rw [c1]
  show some (openSeen (view p keep) loose (importedModules p.main.body) Xt true s1, Yf s1) = _
  rw [c2, c3]
local macro_rules
  | `(tactic| o_law) => `(tactic| refine holds_law ws fun said => ?_)
local macro_rules
  | `(tactic| o_head $H) => do
    let hw := Lean.mkIdent `hw
    let hc := Lean.mkIdent `hc
    let e0 := Lean.mkIdent `PySem.W.Fast.te4187177175401517315
    let e1 := Lean.mkIdent `PySem.W.Fast.te14082659384304107361
    let e2 := Lean.mkIdent `PySem.W.Fast.te14364793385576792824
    `(tactic| (refine holds_open (q := vw) (loose := lo) (Xt := fun s => xlAt vw [] s && recOk (RowW.records rr) s) (XP := XL vw []) (Yf := Hook.obs $H) (Ya := Hook.val $H) (YP := Hook.says $H) (N := 4218) (left_fast (keep := kp) $e0 $e1 $e2 rfl rfl (boot_open (by kernel_rfl) (by kernel_rfl) (fun s => by kernel_rfl)) (by intro w os; kernel_rfl) (by intro w; kernel_rfl)) (Hook.of $H) (Hook.keeps $H) (fun s e => xl_of s (Bool.and_eq_true_iff.mp e).1) XL.keeps (by rfl) (by rfl) (by rfl) (fun s e => recFacts_of (Bool.and_eq_true_iff.mp e).2) (by rfl) (by first | assumption | decide +kernel) (by decide +kernel) ⟨rfl, rfl, rfl, rfl, rfl, by decide +kernel⟩ ?$hw ?$hc))
open_top hd for PySem.Challenge.rw_nt0035_01
end Nt
end
local macro_rules | `(tactic| omega) => `(tactic| lia)
section
open PySem PySem.W PySem.Spec PySem.Calls PyProof.Rows
namespace Nt

/-! abstract values, abstract heap -/
inductive MV where
  | none | bool (b : Bool) | int (i : Int) | str (s : String)
  | ref (n : Nat) | tup (l : List MV) | lst (l : List MV) | rng (a b : Int) | raw (v : Value)

inductive MO where
  | list (l : List MV) | dict (l : List (String × MV)) | attrs (l : List (String × MV)) | inst (C : Addr) (d : Nat)

noncomputable abbrev MH := List MO
noncomputable abbrev Loc := List (String × MV)
noncomputable abbrev S (x : String) : Str := Str.ofString x

theorem S_inj {a b : String} (h : S a = S b) : a = b := by
  unfold S at h
  rw [Str.ofString_eq_toList, Str.ofString_eq_toList] at h
  have h1 : a.toList.map Char.toNat = b.toList.map Char.toNat := by
    have := congrArg (fun x : Str => x.cps.toList) h
    simpa using this
  have h2 : a.toList = b.toList := by
    have inj : ∀ (l m : List Char), l.map Char.toNat = m.map Char.toNat → l = m := by
      intro l
      induction l with
      | nil => intro m hm; cases m with | nil => rfl | cons _ _ => simp at hm
      | cons c l ih =>
        intro m hm
        cases m with
        | nil => simp at hm
        | cons d m =>
          simp only [List.map_cons, List.cons.injEq] at hm
          rw [ih m hm.2]
          have : c = d := Char.ext (UInt32.toNat_inj.mp hm.1)
          rw [this]
    exact inj _ _ h1
  exact String.toList_inj.mp h2
theorem S_eq {a b : String} : (S a = S b) ↔ a = b := ⟨S_inj, fun h => by rw [h]⟩

noncomputable def setKV (k : String) (v : MV) : List (String × MV) → List (String × MV)
  | [] => [(k, v)]
  | (j, u) :: r => if j = k then (k, v) :: r else (j, u) :: setKV k v r
theorem lookup_setKV (k : String) (v : MV) (x : String) : ∀ l : List (String × MV), (setKV k v l).lookup x = if x = k then some v else l.lookup x
  | [] => by
    unfold setKV
    by_cases h : x = k
    · subst h; simp
    · have hb : (x == k) = false := by simpa using h
      simp [h, List.lookup_cons, hb]
  | (j, u) :: r => by
    unfold setKV
    by_cases h : j = k
    · subst h
      rw [if_pos rfl]
      by_cases hx : x = j
      · subst hx; simp
      · have hb : (x == j) = false := by simpa using hx
        simp [hx, List.lookup_cons, hb]
    · rw [if_neg h]
      by_cases hx : x = j
      · subst hx; simp [h]
      · have hxb : (x == j) = false := by simpa using hx
        simp only [List.lookup_cons, hxb]
        exact lookup_setKV k v x r

theorem lkn {k x : String} {u v : MV} {l : List (String × MV)} (h : x ≠ k) (e : l.lookup x = some v) : (setKV k u l).lookup x = some v := by rw [lookup_setKV, if_neg h]; exact e
theorem lke {k : String} {v : MV} {l : List (String × MV)} : (setKV k v l).lookup k = some v := by rw [lookup_setKV, if_pos rfl]

/-! the fixed context -/
structure Cx where
  prog : Program
  w : World
  K : Frag
  B : Heap
  mg : Str → Option Value
  mb : Str → Option Value
  p : Program
  loose : List Str

structure Cx.Ok (c : Cx) : Prop where
  inK : c.K.In c.B
  top : TopRead c.p c.loose c.mg c.mb c.B

mutual
noncomputable def VRel (B : Heap) (ad : List Addr) (h : Heap) : MV → Value → Prop
  | .none, v => v = .none
  | .bool b, v => v = .bool b
  | .int i, v => ∃ t, v = .int i t
  | .str s, v => ∃ t, v = .str (S s) t
  | .ref n, v => ∃ a, ad[n]? = some a ∧ v = .ref a
  | .tup l, v => ∃ a vs, v = .ref a ∧ IsTup h a vs.toArray ∧ VRels B ad h l vs
  | .lst l, v => ∃ a vs, v = .ref a ∧ B.IsList a vs.toArray ∧ VRels B ad h l vs
  | .rng a b, v => ∃ r t u s, v = .ref r ∧ IsRange h r a b 1 t u s
  | .raw r, v => v = r
noncomputable def VRels (B : Heap) (ad : List Addr) (h : Heap) : List MV → List Value → Prop
  | [], vs => vs = []
  | x :: r, vs => ∃ v vr, vs = v :: vr ∧ VRel B ad h x v ∧ VRels B ad h r vr
end

/-- named values -/
noncomputable def Binds (B : Heap) (ad : List Addr) (h : Heap) : List (String × MV) → List (Str × Value) → Prop
  | [], bs => bs = []
  | (x, v) :: r, bs => ∃ v' br, bs = (S x, v') :: br ∧ VRel B ad h v v' ∧ Binds B ad h r br

noncomputable def ORel (c : Cx) (ad : List Addr) (h : Heap) (a : Addr) : MO → Prop
  | .list l => ∃ vs, h.PlainList a vs.toArray ∧ VRels c.B ad h l vs
  | .dict l => ∃ kvs, h.DictOf (strKind c.prog c.w) a kvs ∧ Binds c.B ad h l kvs
  | .attrs l => ∃ m, h.Ns1 a m ∧ Within m (l.map fun p => S p.1) ∧ (∀ x v, l.lookup x = some v → ∃ v', m (S x) = some v' ∧ VRel c.B ad h v v')
  | .inst C d => ∃ dx, ad[d]? = some dx ∧ h.get? a = some (instObj C dx)

structure SRel (c : Cx) (ad : List Addr) (H : MH) (h : Heap) : Prop where
  bs : c.B.objs.size ≤ h.objs.size
  keep : ∀ b o, c.B.get? b = some o → h.get? b = some o
  len : ad.length = H.length
  nodup : ad.Nodup
  fresh : ∀ a ∈ ad, c.B.objs.size ≤ a
  obj : ∀ (n : Nat) (o : MO) (a : Addr), H[n]? = some o → ad[n]? = some a → ORel c ad h a o

structure Ext (own : Addr → Prop) (ad : List Addr) (h : Heap) (ad' : List Addr) (h' : Heap) : Prop where
  more : ∃ m, ad' = ad ++ m ∧ ∀ a ∈ m, h.objs.size ≤ a
  keep : ∀ b o, h.get? b = some o → b ∉ ad → ¬ own b → h'.get? b = some o
  size : h.objs.size ≤ h'.objs.size

noncomputable def none' : Addr → Prop := fun _ => False
noncomputable abbrev Ext0 := Ext none'
theorem Ext.refl (own : Addr → Prop) (ad : List Addr) (h : Heap) : Ext own ad h ad h := ⟨⟨[], by simp, fun _ hm => nomatch hm⟩, fun _ _ e _ _ => e, Nat.le_refl _⟩
theorem Ext.trans {own : Addr → Prop} {ad₁ ad₂ ad₃ : List Addr} {h₁ h₂ h₃ : Heap} (x : Ext own ad₁ h₁ ad₂ h₂) (y : Ext own ad₂ h₂ ad₃ h₃) : Ext own ad₁ h₁ ad₃ h₃ := by
  obtain ⟨m, rfl, hm⟩ := x.more
  obtain ⟨m', rfl, hm'⟩ := y.more
  refine ⟨⟨m ++ m', by simp, fun a ha => ?_⟩, fun b o e hb ho => ?_, Nat.le_trans x.size y.size⟩
  · rcases List.mem_append.mp ha with q | q
    · exact hm a q
    · exact Nat.le_trans x.size (hm' a q)
  · refine y.keep b o (x.keep b o e hb ho) (fun q => ?_) ho
    rcases List.mem_append.mp q with q | q
    · exact hb q
    · exact absurd (Heap.lt_size e) (Nat.not_lt.mpr (hm b q))
theorem Ext.weaken {own own' : Addr → Prop} {ad ad' : List Addr} {h h' : Heap} (x : Ext own ad h ad' h') (w : ∀ a, own a → own' a) : Ext own' ad h ad' h' :=
  ⟨x.more, fun b o e hb ho => x.keep b o e hb fun q => ho (w b q), x.size⟩
theorem Ext.weaken0 {own' : Addr → Prop} {ad ad' : List Addr} {h h' : Heap} (x : Ext0 ad h ad' h') : Ext own' ad h ad' h' := x.weaken fun _ q => q.elim
theorem Ext.keep0 {ad ad' : List Addr} {h h' : Heap} (x : Ext0 ad h ad' h') {b : Addr} {o : Obj} (e : h.get? b = some o) (hb : b ∉ ad) : h'.get? b = some o := x.keep b o e hb id
theorem Ext.get {own : Addr → Prop} {ad ad' : List Addr} {h h' : Heap} (x : Ext own ad h ad' h') {n : Nat} {a : Addr} (e : ad[n]? = some a) : ad'[n]? = some a := by
  obtain ⟨m, rfl, _⟩ := x.more
  have : n < ad.length := by
    rcases Nat.lt_or_ge n ad.length with q | q
    · exact q
    · rw [List.getElem?_eq_none q] at e; cases e
  rw [List.getElem?_append_left this]; exact e
theorem Ext.notMem {own : Addr → Prop} {ad ad' : List Addr} {h h' : Heap} (x : Ext own ad h ad' h') {b : Addr} (hb : b ∉ ad) (hl : b < h.objs.size) : b ∉ ad' := by
  obtain ⟨m, rfl, hm⟩ := x.more
  intro q
  rcases List.mem_append.mp q with q | q
  · exact hb q
  · exact absurd hl (Nat.not_lt.mpr (hm b q))

theorem ORel.cls {c : Cx} {ad : List Addr} {h : Heap} {a : Addr} {o : MO} (x : ORel c ad h a o) : ∃ ob, h.get? a = some ob ∧ (ob.cls = .type "list" ∨ (∃ es ep, ob.data = .dict es ep) ∨ ob.data = .plain) := by
  cases o with
  | list l => obtain ⟨vs, ⟨n, e⟩, _⟩ := x; exact ⟨_, e, .inl rfl⟩
  | dict l => obtain ⟨kvs, ⟨o, es, ep, e, _, ed, _⟩, _⟩ := x; exact ⟨_, e, .inr (.inl ⟨es, ep, ed⟩)⟩
  | attrs l => obtain ⟨m, ⟨o, es, ep, e, ed, _⟩, _⟩ := x; exact ⟨o, e, .inr (.inl ⟨es, ep, ed⟩)⟩
  | inst C d => obtain ⟨dx, _, e⟩ := x; exact ⟨_, e, .inr (.inr rfl)⟩

theorem SRel.mem {c : Cx} {ad : List Addr} {H : MH} {h : Heap} (R : SRel c ad H h) {b : Addr} (hb : b ∈ ad) : ∃ (n : Nat) (o : MO), H[n]? = some o ∧ ad[n]? = some b ∧ ORel c ad h b o := by
  obtain ⟨n, hn, rfl⟩ := List.getElem_of_mem hb
  have hn' : n < H.length := by rw [← R.len]; exact hn
  have e1 : ad[n]? = some ad[n] := List.getElem?_eq_getElem hn
  have e2 : H[n]? = some H[n] := List.getElem?_eq_getElem hn'
  exact ⟨n, H[n], e2, e1, R.obj n _ _ e2 e1⟩
theorem SRel.clsOf {c : Cx} {ad : List Addr} {H : MH} {h : Heap} (R : SRel c ad H h) {b : Addr} {o : Obj} (e : h.get? b = some o) (h1 : o.cls ≠ .type "list") (h2 : ∀ es ep, o.data ≠ .dict es ep) (h3 : o.data ≠ .plain) : b ∉ ad := by
  intro hb
  obtain ⟨n, mo, _, _, x⟩ := R.mem hb
  obtain ⟨ob, e', q⟩ := x.cls
  rw [e] at e'; cases e'
  rcases q with q | ⟨es, ep, q⟩ | q
  · exact h1 q
  · exact h2 es ep q
  · exact h3 q
theorem SRel.base {c : Cx} {ad : List Addr} {H : MH} {h : Heap} (R : SRel c ad H h) {b : Addr} {o : Obj} (e : c.B.get? b = some o) : b ∉ ad := fun hb =>
  absurd (Heap.lt_size e) (Nat.not_lt.mpr (R.fresh b hb))

/-- what may be turned beside the abstract heap: name spaces and cells -/
noncomputable def Dull (own : Addr → Prop) (h : Heap) : Prop := ∀ b, own b → ∀ o, h.get? b = some o → (∃ es ep, o.data = .dict es ep) ∨ (∃ v, o.data = .cell v) ∨ (o.cls ≠ .type "tuple" ∧ o.cls ≠ .type "range")
theorem Dull.none (h : Heap) : Dull none' h := fun _ q => q.elim

mutual
theorem VRel.mono {c : Cx} {own : Addr → Prop} {ad ad' : List Addr} {H : MH} {h h' : Heap} (R : SRel c ad H h) (x : Ext own ad h ad' h') (D : Dull own h) : ∀ (m : MV) (v : Value), VRel c.B ad h m v → VRel c.B ad' h' m v
  | .none, _, e => e
  | .bool _, _, e => e
  | .int _, _, e => e
  | .str _, _, e => e
  | .ref _, _, ⟨a, e, q⟩ => ⟨a, x.get e, q⟩
  | .tup l, _, ⟨a, vs, q, ⟨o, ho, hc, hn⟩, r⟩ => ⟨a, vs, q, ⟨o, x.keep a o ho (R.clsOf ho (by rw [hc]; decide) (by obtain ⟨n, hd⟩ := hn; intro es ep e; rw [hd] at e; cases e) (by obtain ⟨n, hd⟩ := hn; intro e; rw [hd] at e; cases e)) (fun w => by
      obtain ⟨n, hd⟩ := hn
      rcases D a w o ho with ⟨es, ep, e⟩ | ⟨v, e⟩ | ⟨e, _⟩
      · rw [hd] at e; cases e
      · rw [hd] at e; cases e
      · exact e hc), hc, hn⟩, VRels.mono R x D l vs r⟩
  | .lst l, _, ⟨a, vs, q, hl, r⟩ => ⟨a, vs, q, hl, VRels.mono R x D l vs r⟩
  | .rng a b, _, ⟨r, t, u, s, q, hr⟩ => ⟨r, t, u, s, q, by
      unfold IsRange at hr ⊢
      exact x.keep _ _ hr (R.clsOf hr (by dsimp only; decide) (by intro es ep e; cases e) (by intro e; cases e)) (fun w => by
        rcases D _ w _ hr with ⟨es, ep, e⟩ | ⟨v, e⟩ | ⟨_, e⟩
        · cases e
        · cases e
        · exact e rfl)⟩
  | .raw _, _, e => e
theorem VRels.mono {c : Cx} {own : Addr → Prop} {ad ad' : List Addr} {H : MH} {h h' : Heap} (R : SRel c ad H h) (x : Ext own ad h ad' h') (D : Dull own h) : ∀ (l : List MV) (vs : List Value), VRels c.B ad h l vs → VRels c.B ad' h' l vs
  | [], _, e => e
  | m :: l, _, ⟨v, vr, q, hv, hr⟩ => ⟨v, vr, q, VRel.mono R x D m v hv, VRels.mono R x D l vr hr⟩
end
theorem Binds.mono {c : Cx} {own : Addr → Prop} {ad ad' : List Addr} {H : MH} {h h' : Heap} (R : SRel c ad H h) (x : Ext own ad h ad' h') (D : Dull own h) : ∀ {l : List (String × MV)} {b : List (Str × Value)}, Binds c.B ad h l b → Binds c.B ad' h' l b
  | [], _, e => e
  | _ :: _, _, ⟨v, br, q, hv, hr⟩ => ⟨v, br, q, VRel.mono R x D _ v hv, Binds.mono R x D hr⟩
theorem VRels.length {B : Heap} {ad : List Addr} {h : Heap} : ∀ {l : List MV} {vs : List Value}, VRels B ad h l vs → vs.length = l.length
  | [], _, e => by cases (e : _ = []); rfl
  | _ :: l, _, ⟨_, _, e, _, r⟩ => by subst e; simp [VRels.length r]
theorem VRels.get {B : Heap} {ad : List Addr} {h : Heap} : ∀ {l : List MV} {vs : List Value}, VRels B ad h l vs → ∀ {i : Nat} {x : MV}, l[i]? = some x → ∃ v, vs[i]? = some v ∧ VRel B ad h x v
  | [], _, _, _, _, e => by simp at e
  | _ :: l, _, ⟨v, vr, e, hv, r⟩, i, x, q => by
    subst e
    cases i with
    | zero => simp at q; subst q; exact ⟨v, by simp, hv⟩
    | succ i => simp at q; simpa using VRels.get r q
theorem VRels.append {B : Heap} {ad : List Addr} {h : Heap} : ∀ {l l' : List MV} {vs vs' : List Value}, VRels B ad h l vs → VRels B ad h l' vs' → VRels B ad h (l ++ l') (vs ++ vs')
  | [], _, _, _, e, r => by cases (e : _ = []); exact r
  | _ :: l, _, _, _, ⟨v, vr, e, hv, q⟩, r => by subst e; exact ⟨v, vr ++ _, rfl, hv, VRels.append q r⟩

/-! environments -/
noncomputable def Own (env : Env) : Addr → Prop := fun a => a = env.locals ∨ ∃ y, env.cells.lookup y = some a
structure EnvOk (sc : List (Str × NameKind)) (env : Env) : Prop where
  kind : env.scope.kind = .function
  names : env.scope.names = sc
  globals : env.globals = mainGlobals
  builtins : env.builtins = builtinsNs
structure LRel (c : Cx) (env : Env) (l : Loc) (ad : List Addr) (h : Heap) : Prop where
  ns : ∃ m, h.Ns env.locals m ∧ ∀ x v, l.lookup x = some v → env.kindOf (S x) = some .local → ∃ v', m (S x) = some v' ∧ VRel c.B ad h v v'
  cell : ∀ x v, l.lookup x = some v → env.kindOf (S x) = some .cell → ∃ a v', env.cells.lookup (S x) = some a ∧ h.IsCell a (some v') ∧ VRel c.B ad h v v'
  has : ∀ y, env.kindOf y = some .cell → ∃ a, env.cells.lookup y = some a
  cells : ∀ y a, env.cells.lookup y = some a → (∃ v, h.IsCell a v) ∧ a ∉ ad ∧ c.B.objs.size ≤ a
  apart : ∀ y z a, env.cells.lookup y = some a → env.cells.lookup z = some a → y = z
  off : env.locals ∉ ad
  low : c.B.objs.size ≤ env.locals

theorem LRel.dull {c : Cx} {env : Env} {l : Loc} {ad : List Addr} {h : Heap} (L : LRel c env l ad h) : Dull (Own env) h := by
  intro b hb o ho
  rcases hb with rfl | ⟨y, hy⟩
  · obtain ⟨m, ⟨o', es, ep, e, ed, _⟩, _⟩ := L.ns
    rw [ho] at e; cases e
    exact .inl ⟨es, ep, ed⟩
  · obtain ⟨v, o', e, ed⟩ := (L.cells y b hy).1
    rw [ho] at e; cases e
    exact .inr (.inl ⟨v, ed⟩)

/-- an evaluation keeps the frame -/
theorem LRel.mono {c : Cx} {env : Env} {l : Loc} {ad ad' : List Addr} {H : MH} {h h' : Heap} (L : LRel c env l ad h) (R : SRel c ad H h) (x : Ext0 ad h ad' h') : LRel c env l ad' h' := by
  have D := Dull.none h
  obtain ⟨m, hn, hm⟩ := L.ns
  refine ⟨⟨m, ?_, fun y v e k => ?_⟩, fun y v e k => ?_, L.has, fun y a e => ?_, L.apart, x.notMem L.off hn.lt, L.low⟩
  · obtain ⟨o, es, ep, e, r⟩ := hn
    exact ⟨o, es, ep, x.keep0 e L.off, r⟩
  · obtain ⟨v', q, hv⟩ := hm y v e k
    exact ⟨v', q, hv.mono R x D⟩
  · obtain ⟨a, v', q, ⟨o, ho, hd⟩, hv⟩ := L.cell y v e k
    exact ⟨a, v', q, ⟨o, x.keep0 ho (L.cells _ _ q).2.1, hd⟩, hv.mono R x D⟩
  · obtain ⟨⟨v, o, ho, hd⟩, hb, hl⟩ := L.cells y a e
    exact ⟨⟨v, o, x.keep0 ho hb, hd⟩, x.notMem hb (Heap.lt_size ho), hl⟩

/-! judgements -/
noncomputable def Room (n : Nat) (A : Around) : Prop := A.handled = none ∧ A.depth + 5 * n < recursionLimit ∧ A.units + 30 * n + 100 < cLine

inductive Fl where
  | next | ret (v : MV)
noncomputable def FlRel (B : Heap) (ad : List Addr) (h : Heap) : Fl → Flow → Prop
  | .next, f => f = .next
  | .ret v, f => ∃ v', f = .ret v' ∧ VRel B ad h v v'

noncomputable abbrev Scope' := List (Str × NameKind)
noncomputable abbrev EvF := Loc → MH → Option (MV × MH)
noncomputable abbrev TrF := Loc → MH → Option (Bool × MH)
noncomputable abbrev EvLF := Loc → MH → Option (List MV × MH)
noncomputable abbrev ExF := Loc → MH → Option (Fl × Loc × MH)
noncomputable abbrev FnF := List MV → MH → Option (MV × MH)

/-- a tree that hands on a value -/
noncomputable def Back (c : Cx) (ad : List Addr) (s : Shared) (v : MV) (H' : MH) (Q : Value → Shared → Prop) : Prop :=
  ∀ ad' v' h' tk', Ext0 ad s.heap ad' h' → SRel c ad' H' h' → VRel c.B ad' h' v v' → Q v' { s with heap := h', toks := tk' }

noncomputable def Ev (c : Cx) (n : Nat) (sc : Scope') (e : Expr) (f : EvF) : Prop :=
  ∀ (A : Around) (env : Env) (l : Loc) (ad : List Addr) (H : MH) (s : Shared) (v : MV) (H' : MH) (Q E : Value → Shared → Prop),
    Room n A → EnvOk sc env → LRel c env l ad s.heap → SRel c ad H s.heap → f l H = some (v, H') → Back c ad s v H' Q →
    wpAny (model c.prog c.w) A (eval e env) Q E s

noncomputable def Tr (c : Cx) (n : Nat) (sc : Scope') (e : Expr) (f : TrF) : Prop :=
  ∀ (A : Around) (env : Env) (l : Loc) (ad : List Addr) (H : MH) (s : Shared) (b : Bool) (H' : MH) (Q : Bool → Shared → Prop) (E : Value → Shared → Prop),
    Room n A → EnvOk sc env → LRel c env l ad s.heap → SRel c ad H s.heap → f l H = some (b, H') →
    (∀ ad' h' tk', Ext0 ad s.heap ad' h' → SRel c ad' H' h' → Q b { s with heap := h', toks := tk' }) →
    wpAny (model c.prog c.w) A (isTrue e env (eval e env)) Q E s

noncomputable def EvL (c : Cx) (n : Nat) (sc : Scope') (es : List Expr) (f : EvLF) : Prop :=
  ∀ (A : Around) (env : Env) (l : Loc) (ad : List Addr) (H : MH) (s : Shared) (vs : List MV) (H' : MH) (pos : Pos) (Q : List Value → Shared → Prop) (E : Value → Shared → Prop),
    Room n A → EnvOk sc env → LRel c env l ad s.heap → SRel c ad H s.heap → f l H = some (vs, H') →
    (∀ ad' vs' h' tk', Ext0 ad s.heap ad' h' → SRel c ad' H' h' → VRels c.B ad' h' vs vs' → Q vs' { s with heap := h', toks := tk' }) →
    wpAny (model c.prog c.w) A (spliced (backTo pos (starEach es env))) Q E s

noncomputable def After (c : Cx) (env : Env) (ad : List Addr) (s : Shared) (fl : Fl) (l' : Loc) (H' : MH) (Q : Flow → Shared → Prop) : Prop :=
  ∀ ad' fl' h' tk', Ext (Own env) ad s.heap ad' h' → LRel c env l' ad' h' → SRel c ad' H' h' → FlRel c.B ad' h' fl fl' → Q fl' { s with heap := h', toks := tk' }

noncomputable def Ex (c : Cx) (n : Nat) (sc : Scope') (st : Stmt) (f : ExF) : Prop :=
  ∀ (A : Around) (env : Env) (l : Loc) (ad : List Addr) (H : MH) (s : Shared) (fl : Fl) (l' : Loc) (H' : MH) (Q : Flow → Shared → Prop) (E : Value → Shared → Prop),
    Room n A → EnvOk sc env → LRel c env l ad s.heap → SRel c ad H s.heap → f l H = some (fl, l', H') → After c env ad s fl l' H' Q →
    wpAny (model c.prog c.w) A (exec st env) Q E s

noncomputable def Exs (c : Cx) (n : Nat) (sc : Scope') (st : List Stmt) (f : ExF) : Prop :=
  ∀ (A : Around) (env : Env) (l : Loc) (ad : List Addr) (H : MH) (s : Shared) (fl : Fl) (l' : Loc) (H' : MH) (Q : Flow → Shared → Prop) (E : Value → Shared → Prop),
    Room n A → EnvOk sc env → LRel c env l ad s.heap → SRel c ad H s.heap → f l H = some (fl, l', H') → After c env ad s fl l' H' Q →
    wpAny (model c.prog c.w) A (execs st env) Q E s

noncomputable def Fn (c : Cx) (n : Nat) (fv : Value) (g : FnF) : Prop :=
  ∀ (A : Around) (ad : List Addr) (H : MH) (s : Shared) (args : List MV) (args' : List Value) (v : MV) (H' : MH) (R : Result → Shared → Prop),
    Room n A → SRel c ad H s.heap → VRels c.B ad s.heap args args' → g args H = some (v, H') →
    Back c ad s v H' (fun v' s' => R (.ok (.ret v')) s') → codeAny (model c.prog c.w) A (.call fv ⟨args', []⟩) R s
end Nt
end
section
open PySem PySem.W PySem.Spec PySem.Calls PyProof.Rows
namespace Nt
/-! a run never makes the heap smaller -/
noncomputable def hsz (s : Shared) : Nat := s.heap.objs.size
theorem hsz_upd (s : Shared) (a : Addr) (f : Obj → Obj) : hsz { s with heap := s.heap.update a f } = hsz s := by
  unfold hsz Heap.update
  simp
theorem hsz_push (s : Shared) (o : Obj) : hsz { s with heap := s.heap.push o } = hsz s + 1 := by
  unfold hsz Heap.push
  simp
theorem hsz_gen (s : Shared) (g : Nat) (x : GenState) : hsz (s.setGen g x) = hsz s := rfl
theorem runs_size {M : Model} {Γ : PySem.Ctx} {p : Pos} {t : Sem Fin} {fs : List Frame} {s s' : Shared} {e : End} (h : Runs M Γ p t fs s e s') : hsz s ≤ hsz s' := by
  induction h <;> (try simp only [hsz_upd, hsz_push, hsz_gen] at *) <;> first
    | exact Nat.le_refl _
    | assumption
    | omega
    | (unfold hsz at *; dsimp only at *; omega)

theorem wakes_size {M : Model} {Γ : PySem.Ctx} {p : Pos} {g : Nat} {r : Resume} {s s' : Shared} {res : GenResult} (h : Wakes M Γ p g r s res s') : hsz s ≤ hsz s' := by
  unfold Wakes at h
  split at h
  · exact h.elim
  · split at h
    · obtain ⟨e₁, s₁, hr, _, _, rfl⟩ := h; exact (runs_size hr : hsz (s.setGen g .running) ≤ hsz s₁)
    · rw [h.2]; exact Nat.le_refl _
    · rw [h.2]; exact Nat.le_refl _
  · obtain ⟨e₁, s₁, hr, _, _, rfl⟩ := h; exact (runs_size hr : hsz (s.setGen g .running) ≤ hsz s₁)
  · rw [h.2]; exact Nat.le_refl _
  · rw [h.2]; exact Nat.le_refl _

theorem wp_size {α : Type} (M : Model) (Γ : PySem.Ctx) (n : Nat) (t : Sem α) : ∀ (Q : α → Pos → Shared → Prop) (E : Value → Pos → Shared → Prop) (p : Pos) (s : Shared), n ≤ hsz s → Sem.wp M Γ t Q E p s →
    Sem.wp M Γ t (fun a p' s' => n ≤ hsz s' ∧ Q a p' s') (fun e p' s' => n ≤ hsz s' ∧ E e p' s') p s := by
  induction t with
  | pure a => intro Q E p s hn h; exact ⟨hn, h⟩
  | raise e => intro Q E p s hn h; exact ⟨hn, h⟩
  | unsupported _ => intro Q E p s _ h; exact h
  | finish _ => intro Q E p s _ h; exact h
  | rule _ k ih => intro Q E p s hn h; exact ih () Q E p s hn h
  | «at» p' k ih => intro Q E p s hn h; exact ih () Q E p' s hn h
  | load a _ k ih => intro Q E p s hn h; obtain ⟨o, ho, h⟩ := h; exact ⟨o, ho, ih o Q E p s hn h⟩
  | update a _ f k ih => intro Q E p s hn h; exact ⟨h.1, ih () Q E p _ (by rw [hsz_upd]; exact hn) h.2⟩
  | loadIfAlive a k ih => intro Q E p s hn h; exact ih _ Q E p s hn h
  | point _ k ih => intro Q E p s hn h; exact ih () Q E p s hn h
  | register _ _ => intro Q E p s _ h; exact h
  | alloc o k ih => intro Q E p s hn h; exact ih _ Q E p _ (by rw [hsz_push]; exact Nat.le_succ_of_le hn) h
  | fresh k ih => intro Q E p s hn h; exact ih _ Q E p _ hn h
  | ask k ih => intro Q E p s hn h; exact ih _ Q E p s hn h
  | choose src m k ih => intro Q E p s hn h; exact ⟨h.1, ih _ Q E p _ hn h.2⟩
  | os q _ k ih => intro Q E p s hn h; exact ih _ Q E p _ hn h
  | call c hd _ _ k ih => intro Q E p s hn h; obtain ⟨r, s', hr, h⟩ := h; exact ⟨r, s', hr, ih r Q E p s' (Nat.le_trans hn (runs_size hr)) h⟩
  | handled own k ih => intro Q E p s hn h; exact ih _ Q E p s hn h
  | genState g k ih => intro Q E p s hn h; obtain ⟨st, hs, h⟩ := h; exact ⟨st, hs, ih _ Q E p s hn h⟩
  | newGen c k ih => intro Q E p s hn h; exact ih _ Q E p _ hn h
  | resume g r _ k ih => intro Q E p s hn h; obtain ⟨res, s', hw, h⟩ := h; exact ⟨res, s', hw, ih res Q E p s' (Nat.le_trans hn (wakes_size hw)) h⟩
  | yield _ _ _ _ => intro Q E p s _ h; exact h
  | stack k ih => intro Q E p s hn h; exact ih _ Q E p s hn h
  | fork _ _ => intro Q E p s _ h; exact h
  | thread k ih => intro Q E p s hn h; exact ih _ Q E p s hn h
  | await _ _ _ _ _ => intro Q E p s _ h; exact h

theorem with_size {α : Type} {M : Model} {A : Around} {s : Shared} {t : Sem α} {Q : α → Shared → Prop} {E : Value → Shared → Prop}
    (h : wpAny M A t (fun a s' => s.heap.objs.size ≤ s'.heap.objs.size → Q a s') E s) : wpAny M A t Q E s :=
  fun Γ p hΓ => Sem.wp_mono M Γ t (fun _ _ _ x => x.2 x.1) (fun _ _ _ x => x.2) p s (wp_size M Γ (hsz s) t _ _ p s (Nat.le_refl _) (h Γ p hΓ))
theorem code_with_size {M : Model} {A : Around} {s : Shared} {c : Code} {R : Result → Shared → Prop}
    (h : codeAny M A c (fun r s' => s.heap.objs.size ≤ s'.heap.objs.size → R r s') s) : codeAny M A c R s :=
  fun Γ p hc hΓ => by obtain ⟨r, s', hr, hR⟩ := h Γ p hc hΓ; exact ⟨r, s', hr, hR (runs_size hr)⟩
end Nt
end
section
open PySem PySem.W PySem.Spec PySem.Calls PyProof.Rows
namespace Nt

/-! the abstract heap: kept, one object turned, one more object -/
theorem Ext0.of {ad : List Addr} {h h' : Heap} (k : ∀ b o, h.get? b = some o → h'.get? b = some o) (sz : h.objs.size ≤ h'.objs.size) : Ext0 ad h ad h' :=
  ⟨⟨[], by simp, fun _ hm => nomatch hm⟩, fun b o e _ _ => k b o e, sz⟩

theorem ORel.move {c : Cx} {ad ad' : List Addr} {H : MH} {h h' : Heap} {own : Addr → Prop} {a : Addr} {o : MO} (R : SRel c ad H h) (x : Ext own ad h ad' h') (D : Dull own h) (k : ∀ ob, h.get? a = some ob → h'.get? a = some ob) (r : ORel c ad h a o) : ORel c ad' h' a o := by
  cases o with
  | list l => obtain ⟨vs, e, q⟩ := r; exact ⟨vs, e.at k, VRels.mono R x D _ _ q⟩
  | dict l =>
    obtain ⟨kvs, ⟨ob, es, ep, e, r'⟩, q⟩ := r
    exact ⟨kvs, ⟨ob, es, ep, k _ e, r'⟩, Binds.mono R x D q⟩
  | attrs l =>
    obtain ⟨m, ⟨ob, es, ep, e, r'⟩, q1, q2⟩ := r
    exact ⟨m, ⟨ob, es, ep, k _ e, r'⟩, q1, fun y v e => let ⟨v', e', hv⟩ := q2 y v e; ⟨v', e', VRel.mono R x D _ _ hv⟩⟩
  | inst C d =>
    obtain ⟨dx, e, q⟩ := r
    exact ⟨dx, x.get e, k _ q⟩

theorem SRel.keeps {c : Cx} {ad : List Addr} {H : MH} {h h' : Heap} (R : SRel c ad H h) (k : ∀ b o, h.get? b = some o → h'.get? b = some o) (sz : h.objs.size ≤ h'.objs.size) : SRel c ad H h' :=
  ⟨Nat.le_trans R.bs sz, fun b o e => k b o (R.keep b o e), R.len, R.nodup, R.fresh, fun n o a e1 e2 => (R.obj n o a e1 e2).move R (Ext0.of k sz) (Dull.none h) fun ob e => k _ _ e⟩

theorem get_ad {ad : List Addr} (nd : ad.Nodup) {n m : Nat} {a : Addr} (h1 : ad[n]? = some a) (h2 : ad[m]? = some a) : n = m := by
  obtain ⟨l1, e1⟩ := List.getElem?_eq_some_iff.mp h1
  obtain ⟨l2, e2⟩ := List.getElem?_eq_some_iff.mp h2
  exact (List.getElem_inj nd).mp (e1.trans e2.symm)

/-- one object is turned -/
theorem SRel.set {c : Cx} {ad : List Addr} {H : MH} {h h' : Heap} {n : Nat} {a : Addr} {o' : MO} (R : SRel c ad H h) (hn : ad[n]? = some a) (k : ∀ b o, b ≠ a → h.get? b = some o → h'.get? b = some o) (sz : h.objs.size ≤ h'.objs.size)
    (r : ORel c ad h' a o') : SRel c ad (H.set n o') h' ∧ Ext0 ad h ad h' := by
  have ha : a ∈ ad := List.mem_of_getElem? hn
  have x : Ext0 ad h ad h' := ⟨⟨[], by simp, fun _ hm => nomatch hm⟩, fun b o e hb _ => k b o (fun q => hb (q ▸ ha)) e, sz⟩
  refine ⟨⟨Nat.le_trans R.bs sz, fun b o e => k b o (fun q => ?_) (R.keep b o e), by rw [List.length_set]; exact R.len, R.nodup, R.fresh, fun m o b e1 e2 => ?_⟩, x⟩
  · exact R.base e (q ▸ ha)
  · by_cases hm : n = m
    · subst hm
      rw [hn] at e2; cases e2
      rw [List.getElem?_set_self (by have := List.getElem?_eq_some_iff.mp hn; obtain ⟨q, _⟩ := this; rw [← R.len]; exact q)] at e1
      cases e1; exact r
    · rw [List.getElem?_set_ne hm] at e1
      refine (R.obj m o b e1 e2).move R x (Dull.none h) fun ob e => k b ob (fun q => hm ?_) e
      exact get_ad R.nodup hn (q ▸ e2)

/-- one object more -/
theorem SRel.push {c : Cx} {ad : List Addr} {H : MH} {h h' : Heap} {a : Addr} {o' : MO} (R : SRel c ad H h) (hl : h.objs.size ≤ a) (k : ∀ b o, h.get? b = some o → h'.get? b = some o) (sz : h.objs.size ≤ h'.objs.size)
    (r : SRel c ad H h' → Ext0 ad h (ad ++ [a]) h' → ORel c (ad ++ [a]) h' a o') (there : ∀ b ∈ ad, b < h.objs.size) : SRel c (ad ++ [a]) (H ++ [o']) h' ∧ Ext0 ad h (ad ++ [a]) h' := by
  have x : Ext0 ad h (ad ++ [a]) h' := ⟨⟨[a], rfl, fun b hb => by rw [List.mem_singleton.mp hb]; exact hl⟩, fun b o e _ _ => k b o e, sz⟩
  have R' := R.keeps k sz
  have na : a ∉ ad := fun hm => absurd (there a hm) (Nat.not_lt.mpr hl)
  refine ⟨⟨R'.bs, R'.keep, by simp [R.len], ?_, ?_, ?_⟩, x⟩
  · rw [List.nodup_append]
    exact ⟨R.nodup, by simp, fun b hb d hd e => by rw [List.mem_singleton.mp hd] at e; exact na (e ▸ hb)⟩
  · intro b hb
    rcases List.mem_append.mp hb with q | q
    · exact R.fresh b q
    · rw [List.mem_singleton.mp q]; exact Nat.le_trans R.bs hl
  · intro m o b e1 e2
    rcases Nat.lt_or_ge m H.length with q | q
    · rw [List.getElem?_append_left q] at e1
      rw [List.getElem?_append_left (by rw [R.len]; exact q)] at e2
      exact (R.obj m o b e1 e2).move R x (Dull.none h) fun ob e => k _ _ e
    · rw [List.getElem?_append_right q] at e1
      rw [List.getElem?_append_right (by rw [R.len]; exact q)] at e2
      rw [R.len] at e2
      have : m - H.length = 0 := by
        rcases Nat.eq_zero_or_pos (m - H.length) with z | z
        · exact z
        · rw [List.getElem?_eq_none (by simp only [List.length_singleton]; omega)] at e1; cases e1
      rw [this] at e1 e2
      simp at e1 e2
      subst e1 e2
      exact r R' x

theorem SRel.there {c : Cx} {ad : List Addr} {H : MH} {h : Heap} (R : SRel c ad H h) : ∀ b ∈ ad, b < h.objs.size := fun b hb => by
  obtain ⟨n, o, _, _, r⟩ := R.mem hb
  obtain ⟨ob, e, _⟩ := r.cls
  exact Heap.lt_size e

section
variable {c : Cx} {n : Nat} {sc : Scope'}

/-! constants -/
noncomputable def eC (v : MV) : EvF := fun _ H => some (v, H)
theorem Ev.cint {i : Int} {k : Nat} {pos : Pos} : Ev c n sc (.Constant (.int i) k pos) (eC (.int i)) := by
  intro A env l ad H s v H' Q E hr he hl hs hf hb
  cases hf
  exact wpAny_Constant_int (hb ad _ s.heap _ (.refl ..) hs ⟨_, rfl⟩)
theorem Ev.cstr {x : String} {k : Nat} {pos : Pos} : Ev c n sc (.Constant (.str (S x)) k pos) (eC (.str x)) := by
  intro A env l ad H s v H' Q E hr he hl hs hf hb
  cases hf
  exact Constant_str (hb ad _ s.heap _ (.refl ..) hs ⟨_, rfl⟩)
theorem Ev.cbool {b : Bool} {k : Nat} {pos : Pos} : Ev c n sc (.Constant (.bool b) k pos) (eC (.bool b)) := by
  intro A env l ad H s v H' Q E hr he hl hs hf hb
  cases hf
  exact Constant_bool (hb ad _ s.heap s.toks (.refl ..) hs rfl)
theorem Ev.cnone {k : Nat} {pos : Pos} : Ev c n sc (.Constant .none k pos) (eC .none) := by
  intro A env l ad H s v H' Q E hr he hl hs hf hb
  cases hf
  exact Constant_none (hb ad _ s.heap s.toks (.refl ..) hs rfl)

/-! names -/
noncomputable def eN (x : String) : EvF := fun l H => (l.lookup x).map fun v => (v, H)
theorem Ev.loc {x : String} {pos : Pos} (hk : sc.lookup (S x) = some .local) (hd : (S x == ("__debug__" : Str)) = false := by decide +kernel) : Ev c n sc (.Name (S x) pos) (eN x) := by
  intro A env l ad H s v H' Q E hr he hl hs hf hb
  obtain ⟨u, hu, e⟩ := Option.map_eq_some_iff.mp hf
  obtain ⟨rfl, rfl⟩ := Prod.mk.inj e
  obtain ⟨m, hn, hm⟩ := hl.ns
  have kd : env.kindOf (S x) = some .local := by unfold Env.kindOf; rw [he.names]; exact hk
  obtain ⟨v', hv', hr'⟩ := hm x u hu kd
  exact wpAny_Name (wpAny_loadName_local he.kind kd hn hv' (hb ad _ s.heap s.toks (.refl ..) hs hr')) hd
theorem Ev.cell {x : String} {pos : Pos} (hk : sc.lookup (S x) = some .cell) (hd : (S x == ("__debug__" : Str)) = false := by decide +kernel) : Ev c n sc (.Name (S x) pos) (eN x) := by
  intro A env l ad H s v H' Q E hr he hl hs hf hb
  obtain ⟨u, hu, e⟩ := Option.map_eq_some_iff.mp hf
  obtain ⟨rfl, rfl⟩ := Prod.mk.inj e
  have kd : env.kindOf (S x) = some .cell := by unfold Env.kindOf; rw [he.names]; exact hk
  obtain ⟨a, v', q, hc, hr'⟩ := hl.cell x u hu kd
  exact wpAny_Name (wpAny_loadName_cell he.kind kd q hc (hb ad _ s.heap s.toks (.refl ..) hs hr')) hd
theorem Ev.glob {x : String} {pos : Pos} {v : MV} {v' : Value} (C : c.Ok) (e : nsIn c.K mainGlobals (S x) = some (some v')) (hv : ∀ ad h, (∀ b o, c.B.get? b = some o → h.get? b = some o) → VRel c.B ad h v v')
    (hk : sc.lookup (S x) = some .globalImplicit) (hd : (S x == ("__debug__" : Str)) = false := by decide +kernel) : Ev c n sc (.Name (S x) pos) (eC v) := by
  intro A env l ad H s u H' Q E hr he hl hs hf hb
  cases hf
  have kd : env.kindOf (S x) = some .globalImplicit := by unfold Env.kindOf; rw [he.names]; exact hk
  refine Name_function_global he.kind kd (loadGlobal_global (mg := c.mg) (by rw [he.globals]; exact C.top.g.keeps hs.keep) (mg_of C.inK C.top.g e) ?_) hd
  exact hb ad _ s.heap s.toks (.refl ..) hs (hv ad s.heap hs.keep)
theorem Ev.built {x : String} {pos : Pos} {v' : Value} (C : c.Ok) (e : nsIn c.K mainGlobals (S x) = some none) (hv : bootBuiltins (S x) = some v') (hn : S x ≠ "__name__")
    (hk : sc.lookup (S x) = some .globalImplicit) (hd : (S x == ("__debug__" : Str)) = false := by decide +kernel) : Ev c n sc (.Name (S x) pos) (eC (.raw v')) := by
  intro A env l ad H s u H' Q E hr he hl hs hf hb
  cases hf
  have kd : env.kindOf (S x) = some .globalImplicit := by unfold Env.kindOf; rw [he.names]; exact hk
  refine Name_function_global he.kind kd (loadGlobal_builtin (mg := c.mg) (mb := c.mb) (by rw [he.globals]; exact C.top.g.keeps hs.keep) (mg_none_of C.inK C.top.g e) (by rw [he.builtins]; exact C.top.b.keeps hs.keep) ((C.top.builtins _ hn).trans hv) ?_) hd
  exact hb ad _ s.heap s.toks (.refl ..) hs rfl

/-! two operands -/
noncomputable abbrev BinF := MV → MV → MH → Option (MV × MH)
noncomputable def BinRule (c : Cx) (n : Nat) (op : Operator) (F : BinF) : Prop :=
  ∀ (A : Around) (ad : List Addr) (H : MH) (s : Shared) (a b : MV) (a' b' : Value) (v : MV) (H' : MH) (Q E : Value → Shared → Prop), Room n A → SRel c ad H s.heap → VRel c.B ad s.heap a a' → VRel c.B ad s.heap b b' → F a b H = some (v, H') → Back c ad s v H' Q →
    wpAny (model c.prog c.w) A (binaryOp op a' b') Q E s
noncomputable def eBin (F : BinF) (f g : EvF) : EvF := fun l H => (f l H).bind fun x => (g l x.2).bind fun y => F x.1 y.1 y.2
theorem Ev.bin {op : Operator} {F : BinF} {a b : Expr} {pos : Pos} {f g : EvF} (r : BinRule c n op F) (ha : Ev c n sc a f) (hb : Ev c n sc b g) : Ev c n sc (.BinOp a op b pos) (eBin F f g) := by
  intro A env l ad H s v H' Q E hr he hl hs hf hQ
  obtain ⟨⟨x, H1⟩, e1, hf⟩ := Option.bind_eq_some_iff.mp hf
  obtain ⟨⟨y, H2⟩, e2, hf⟩ := Option.bind_eq_some_iff.mp hf
  refine wpAny_BinOp (ha _ _ _ _ _ _ _ _ _ _ hr he hl hs e1 fun ad1 x' h1 t1 x1 s1 v1 => ?_)
  refine hb _ _ _ _ _ _ _ _ _ _ hr he (hl.mono hs x1) s1 e2 fun ad2 y' h2 t2 x2 s2 v2 => ?_
  refine r _ _ _ _ _ _ _ _ _ _ _ _ hr s2 (VRel.mono s1 x2 (Dull.none _) _ _ v1) v2 hf fun ad3 v' h3 t3 x3 s3 v3 => ?_
  exact hQ ad3 v' h3 t3 (x1.trans (x2.trans x3)) s3 v3

noncomputable def intB (F : Int → Int → Option Int) : BinF := fun a b H => match a, b with
  | .int i, .int j => (F i j).map fun k => (.int k, H)
  | _, _ => none
theorem intB_some {F : Int → Int → Option Int} {a b v : MV} {H H' : MH} (h : intB F a b H = some (v, H')) : ∃ i j k, a = .int i ∧ b = .int j ∧ F i j = some k ∧ v = .int k ∧ H' = H := by
  unfold intB at h
  split at h
  · obtain ⟨k, e, q⟩ := Option.map_eq_some_iff.mp h
    cases q; exact ⟨_, _, k, rfl, rfl, e, rfl, rfl⟩
  · cases h
theorem sub_rule : BinRule c n .Sub (intB fun i j => some (i - j)) := by
  intro A ad H s a b a' b' v H' Q E hr hs ha hb hf hQ
  obtain ⟨i, j, k, rfl, rfl, e, rfl, rfl⟩ := intB_some hf
  cases e
  obtain ⟨t, rfl⟩ := ha; obtain ⟨u, rfl⟩ := hb
  exact PyProof.Rows.sub_int (hQ ad _ s.heap _ (.refl ..) hs ⟨_, rfl⟩)
noncomputable def modF (i j : Int) : Option Int := if j = 0 then none else some (i.fmod j)
theorem mod_rule : BinRule c n .Mod (intB modF) := by
  intro A ad H s a b a' b' v H' Q E hr hs ha hb hf hQ
  obtain ⟨i, j, k, rfl, rfl, e, rfl, rfl⟩ := intB_some hf
  obtain ⟨t, rfl⟩ := ha; obtain ⟨u, rfl⟩ := hb
  unfold modF at e
  split at e
  · cases e
  · rename_i h0
    cases e
    exact PyProof.Rows.mod_int h0 (hQ ad _ s.heap _ (.refl ..) hs ⟨_, rfl⟩)
noncomputable def mulF (i j : Int) : Option Int := if -(2 ^ 64) < j ∧ j < 2 ^ 64 then some (i * j) else none
theorem mul_rule : BinRule c n .Mult (intB mulF) := by
  intro A ad H s a b a' b' v H' Q E hr hs ha hb hf hQ
  obtain ⟨i, j, k, rfl, rfl, e, rfl, rfl⟩ := intB_some hf
  obtain ⟨t, rfl⟩ := ha; obtain ⟨u, rfl⟩ := hb
  unfold mulF at e
  split at e
  · rename_i h0
    cases e
    exact PyProof.Rows.mul_int (hQ ad _ s.heap _ (.refl ..) hs ⟨_, rfl⟩) (IntMulOk.of_right (intBits_le_64 h0.1 h0.2))
  · cases e

/-! truth -/
noncomputable def eT (f : EvF) : TrF := fun l H => (f l H).bind fun x => match x.1 with
  | .bool b => some (b, x.2)
  | _ => none
theorem Tr.val {e : Expr} {f : EvF} (he : Ev c n sc e f) (hi : ∀ env whole, isTrue e env whole = (do let v ← whole; standAt e.pos; holding [v] (truthy v)) := by intro _ _; rfl) : Tr c n sc e (eT f) := by
  intro A env l ad H s b H' Q E hr he' hl hs hf hQ
  obtain ⟨⟨x, H1⟩, e1, hf⟩ := Option.bind_eq_some_iff.mp hf
  refine isTrue_plain (he _ _ _ _ _ _ _ _ _ _ hr he' hl hs e1 fun ad1 x' h1 t1 x1 s1 v1 => ?_) (hi _ _)
  dsimp only at hf
  split at hf
  · cases hf
    cases v1
    exact wpAny_truthy_bool (hQ ad1 h1 t1 x1 s1)
  · cases hf
noncomputable def tNot (f : TrF) : TrF := fun l H => (f l H).map fun x => (!x.1, x.2)
theorem Tr.not {e : Expr} {pos : Pos} {f : TrF} (he : Tr c n sc e f) : Tr c n sc (.UnaryOp .Not e pos) (tNot f) := by
  intro A env l ad H s b H' Q E hr he' hl hs hf hQ
  obtain ⟨⟨x, H1⟩, e1, hf⟩ := Option.map_eq_some_iff.mp hf
  cases hf
  exact isTrue_not (he _ _ _ _ _ _ _ _ _ _ hr he' hl hs e1 fun ad1 h1 t1 x1 s1 => hQ ad1 h1 t1 x1 s1)
noncomputable def tTrue : TrF := fun _ H => some (true, H)
noncomputable def tFalse : TrF := fun _ H => some (false, H)
noncomputable def tAnd (f g : TrF) : TrF := fun l H => (f l H).bind fun x => if x.1 = true then g l x.2 else some (false, x.2)
noncomputable def tOr (f g : TrF) : TrF := fun l H => (f l H).bind fun x => if x.1 = true then some (true, x.2) else g l x.2
theorem Tr.and0 {pos : Pos} : Tr c n sc (.BoolOp .And [] pos) tTrue := by
  intro A env l ad H s b H' Q E hr he' hl hs hf hQ
  cases hf
  exact isTrue_and_nil (hQ ad s.heap s.toks (.refl ..) hs)
theorem Tr.or0 {pos : Pos} : Tr c n sc (.BoolOp .Or [] pos) tFalse := by
  intro A env l ad H s b H' Q E hr he' hl hs hf hQ
  cases hf
  exact isTrue_or_nil (hQ ad s.heap s.toks (.refl ..) hs)
theorem Tr.and {e : Expr} {es : List Expr} {pos : Pos} {f g : TrF} (h1 : Tr c n sc e f) (h2 : Tr c n sc (.BoolOp .And es pos) g) : Tr c n sc (.BoolOp .And (e :: es) pos) (tAnd f g) := by
  intro A env l ad H s b H' Q E hr he' hl hs hf hQ
  obtain ⟨⟨x, H1⟩, e1, hf⟩ := Option.bind_eq_some_iff.mp hf
  refine isTrue_and (h1 _ _ _ _ _ _ _ _ _ _ hr he' hl hs e1 fun ad1 h1 t1 x1 s1 => ?_)
  cases x with
  | false =>
    simp only [Bool.false_eq_true, if_false, Option.some.injEq, Prod.mk.injEq] at hf
    obtain ⟨rfl, rfl⟩ := hf
    exact hQ ad1 h1 t1 x1 s1
  | true =>
    simp only [if_true] at hf
    exact h2 _ _ _ _ _ _ _ _ _ _ hr he' (hl.mono hs x1) s1 hf fun ad2 h2 t2 x2 s2 => hQ ad2 h2 t2 (x1.trans x2) s2
theorem Tr.or {e : Expr} {es : List Expr} {pos : Pos} {f g : TrF} (h1 : Tr c n sc e f) (h2 : Tr c n sc (.BoolOp .Or es pos) g) : Tr c n sc (.BoolOp .Or (e :: es) pos) (tOr f g) := by
  intro A env l ad H s b H' Q E hr he' hl hs hf hQ
  obtain ⟨⟨x, H1⟩, e1, hf⟩ := Option.bind_eq_some_iff.mp hf
  refine isTrue_or (h1 _ _ _ _ _ _ _ _ _ _ hr he' hl hs e1 fun ad1 h1 t1 x1 s1 => ?_)
  cases x with
  | true =>
    simp only [if_true, Option.some.injEq, Prod.mk.injEq] at hf
    obtain ⟨rfl, rfl⟩ := hf
    exact hQ ad1 h1 t1 x1 s1
  | false =>
    simp only [Bool.false_eq_true, if_false] at hf
    exact h2 _ _ _ _ _ _ _ _ _ _ hr he' (hl.mono hs x1) s1 hf fun ad2 h2 t2 x2 s2 => hQ ad2 h2 t2 (x1.trans x2) s2
noncomputable def eIf (t : TrF) (f g : EvF) : EvF := fun l H => (t l H).bind fun x => if x.1 = true then f l x.2 else g l x.2
theorem Ev.ifExp {t a b : Expr} {pos : Pos} {ft : TrF} {f g : EvF} (h1 : Tr c n sc t ft) (h2 : Ev c n sc a f) (h3 : Ev c n sc b g) : Ev c n sc (.IfExp t a b pos) (eIf ft f g) := by
  intro A env l ad H s v H' Q E hr he' hl hs hf hQ
  obtain ⟨⟨x, H1⟩, e1, hf⟩ := Option.bind_eq_some_iff.mp hf
  refine IfExp_ (h1 _ _ _ _ _ _ _ _ _ _ hr he' hl hs e1 fun ad1 h1 t1 x1 s1 => ?_)
  cases x with
  | true =>
    simp only [if_true] at hf ⊢
    exact h2 _ _ _ _ _ _ _ _ _ _ hr he' (hl.mono hs x1) s1 hf fun ad2 v' h2 t2 x2 s2 v2 => hQ ad2 v' h2 t2 (x1.trans x2) s2 v2
  | false =>
    simp only [Bool.false_eq_true, if_false] at hf ⊢
    exact h3 _ _ _ _ _ _ _ _ _ _ hr he' (hl.mono hs x1) s1 hf fun ad2 v' h2 t2 x2 s2 v2 => hQ ad2 v' h2 t2 (x1.trans x2) s2 v2
theorem Tr.ifExp {t a b : Expr} {pos : Pos} {ft f g : TrF} (h1 : Tr c n sc t ft) (h2 : Tr c n sc a f) (h3 : Tr c n sc b g) : Tr c n sc (.IfExp t a b pos) (fun l H => (ft l H).bind fun x => if x.1 = true then f l x.2 else g l x.2) := by
  intro A env l ad H s v H' Q E hr he' hl hs hf hQ
  obtain ⟨⟨x, H1⟩, e1, hf⟩ := Option.bind_eq_some_iff.mp hf
  refine isTrue_IfExp (h1 _ _ _ _ _ _ _ _ _ _ hr he' hl hs e1 fun ad1 h1 t1 x1 s1 => ?_)
  cases x with
  | true =>
    simp only [if_true] at hf ⊢
    exact h2 _ _ _ _ _ _ _ _ _ _ hr he' (hl.mono hs x1) s1 hf fun ad2 h2 t2 x2 s2 => hQ ad2 h2 t2 (x1.trans x2) s2
  | false =>
    simp only [Bool.false_eq_true, if_false] at hf ⊢
    exact h3 _ _ _ _ _ _ _ _ _ _ hr he' (hl.mono hs x1) s1 hf fun ad2 h2 t2 x2 s2 => hQ ad2 h2 t2 (x1.trans x2) s2
/-- a truth as a value: not -/
noncomputable def eNot (f : EvF) : EvF := fun l H => (f l H).bind fun x => match x.1 with
  | .bool b => some (.bool (!b), x.2)
  | _ => none
theorem Ev.not {e : Expr} {pos : Pos} {f : EvF} (he : Ev c n sc e f) : Ev c n sc (.UnaryOp .Not e pos) (eNot f) := by
  intro A env l ad H s v H' Q E hr he' hl hs hf hQ
  obtain ⟨⟨x, H1⟩, e1, hf⟩ := Option.bind_eq_some_iff.mp hf
  refine UnaryOp_ (he _ _ _ _ _ _ _ _ _ _ hr he' hl hs e1 fun ad1 x' h1 t1 x1 s1 v1 => not_of ?_)
  dsimp only at hf
  split at hf
  · cases hf
    cases v1
    exact wpAny_truthy_bool (hQ ad1 _ h1 t1 x1 s1 rfl)
  · cases hf
noncomputable def eNeg (f : EvF) : EvF := fun l H => (f l H).bind fun x => match x.1 with
  | .int i => some (.int (-i), x.2)
  | _ => none
theorem Ev.neg {e : Expr} {pos : Pos} {f : EvF} (he : Ev c n sc e f) : Ev c n sc (.UnaryOp .USub e pos) (eNeg f) := by
  intro A env l ad H s v H' Q E hr he' hl hs hf hQ
  obtain ⟨⟨x, H1⟩, e1, hf⟩ := Option.bind_eq_some_iff.mp hf
  refine UnaryOp_ (he _ _ _ _ _ _ _ _ _ _ hr he' hl hs e1 fun ad1 x' h1 t1 x1 s1 v1 => ?_)
  dsimp only at hf
  split at hf
  · cases hf
    obtain ⟨t, rfl⟩ := v1
    exact PyProof.Rows.neg_int (hQ ad1 _ h1 _ x1 s1 ⟨_, rfl⟩)
  · cases hf
/-- and, or as values (of bools) -/
noncomputable def eAnd (f g : EvF) : EvF := fun l H => (f l H).bind fun x => match x.1 with
  | .bool true => g l x.2
  | .bool false => some (.bool false, x.2)
  | _ => none
noncomputable def eOr (f g : EvF) : EvF := fun l H => (f l H).bind fun x => match x.1 with
  | .bool false => g l x.2
  | .bool true => some (.bool true, x.2)
  | _ => none
theorem Ev.one {op : BoolOp} {e : Expr} {pos : Pos} {f : EvF} (he : Ev c n sc e f) : Ev c n sc (.BoolOp op [e] pos) f := he
theorem Ev.and {e e' : Expr} {es : List Expr} {pos : Pos} {f g : EvF} (h1 : Ev c n sc e f) (h2 : Ev c n sc (.BoolOp .And (e' :: es) pos) g) : Ev c n sc (.BoolOp .And (e :: e' :: es) pos) (eAnd f g) := by
  intro A env l ad H s v H' Q E hr he' hl hs hf hQ
  obtain ⟨⟨x, H1⟩, e1, hf⟩ := Option.bind_eq_some_iff.mp hf
  refine BoolOp_and (h1 _ _ _ _ _ _ _ _ _ _ hr he' hl hs e1 fun ad1 x' h1 t1 x1 s1 v1 => ?_)
  dsimp only at hf
  split at hf
  · cases v1
    refine wpAny_truthy_bool ?_
    rw [if_pos rfl]
    exact h2 _ _ _ _ _ _ _ _ _ _ hr he' (hl.mono hs x1) s1 hf fun ad2 v' h2 t2 x2 s2 v2 => hQ ad2 v' h2 t2 (x1.trans x2) s2 v2
  · cases v1
    cases hf
    refine wpAny_truthy_bool ?_
    rw [if_neg (by decide)]
    exact hQ ad1 _ h1 t1 x1 s1 rfl
  · cases hf
theorem Ev.or {e e' : Expr} {es : List Expr} {pos : Pos} {f g : EvF} (h1 : Ev c n sc e f) (h2 : Ev c n sc (.BoolOp .Or (e' :: es) pos) g) : Ev c n sc (.BoolOp .Or (e :: e' :: es) pos) (eOr f g) := by
  intro A env l ad H s v H' Q E hr he' hl hs hf hQ
  obtain ⟨⟨x, H1⟩, e1, hf⟩ := Option.bind_eq_some_iff.mp hf
  refine BoolOp_or (h1 _ _ _ _ _ _ _ _ _ _ hr he' hl hs e1 fun ad1 x' h1 t1 x1 s1 v1 => ?_)
  dsimp only at hf
  split at hf
  · cases v1
    refine wpAny_truthy_bool ?_
    rw [if_neg (by decide)]
    exact h2 _ _ _ _ _ _ _ _ _ _ hr he' (hl.mono hs x1) s1 hf fun ad2 v' h2 t2 x2 s2 v2 => hQ ad2 v' h2 t2 (x1.trans x2) s2 v2
  · cases v1
    cases hf
    refine wpAny_truthy_bool ?_
    rw [if_pos rfl]
    exact hQ ad1 _ h1 t1 x1 s1 rfl
  · cases hf
end
end Nt
end
section
open PySem PySem.W PySem.Spec PySem.Calls PyProof.Rows PySem.SeqAt
namespace Nt
/-! comparisons -/
noncomputable def mapO {α β : Type} (f : α → Option β) : List α → Option (List β)
  | [] => some []
  | x :: r => (f x).bind fun y => (mapO f r).map fun ys => y :: ys
theorem mapO_cons {α β : Type} {f : α → Option β} {x : α} {r : List α} {l : List β} (h : mapO f (x :: r) = some l) : ∃ y ys, f x = some y ∧ mapO f r = some ys ∧ l = y :: ys := by
  unfold mapO at h
  obtain ⟨y, e1, h⟩ := Option.bind_eq_some_iff.mp h
  obtain ⟨ys, e2, h⟩ := Option.map_eq_some_iff.mp h
  exact ⟨y, ys, e1, e2, h.symm⟩
noncomputable def pyA : MV → Option PyData
  | .none => some .none
  | .bool b => some (.bool b)
  | .int i => some (.int i)
  | .str s => some (.str (S s))
  | _ => none
noncomputable def pyT : MV → Option PyData
  | .tup l => (mapO pyA l).map .tuple
  | .none => some .none
  | .bool b => some (.bool b)
  | .int i => some (.int i)
  | .str s => some (.str (S s))
  | _ => none
noncomputable def pyH (H : MH) : MV → Option PyData
  | .ref n => match H[n]? with
    | some (.list l) => (mapO pyT l).map .list
    | _ => none
  | .lst l => (mapO pyT l).map .list
  | .tup l => (mapO pyA l).map .tuple
  | .none => some .none
  | .bool b => some (.bool b)
  | .int i => some (.int i)
  | .str s => some (.str (S s))
  | _ => none

theorem strOk_S (x : String) : PyData.strOk (S x) = true := by
  unfold PyData.strOk S
  rw [Str.ofString_eq_toList]
  simp only [List.all_toArray, List.all_map, List.all_eq_true, Function.comp, decide_eq_true_eq]
  intro ch _
  have := ch.valid
  have h2 : ch.toNat = ch.val.toNat := rfl
  rcases this with h | ⟨_, h⟩ <;> omega

/-- data of small depth that can be compared -/
structure Fit (d : PyData) (k : Nat) : Prop where
  lay : d.canLay0 = true
  deep : d.depth ≤ k
structure FitAll (ds : List PyData) (k : Nat) : Prop where
  lay : PyData.canLayAll0 ds = true
  deep : PyData.depthAll ds ≤ k
theorem FitAll.nil (k : Nat) : FitAll [] k := ⟨by simp [PyData.canLayAll0], by simp [PyData.depthAll]⟩
theorem FitAll.cons {d : PyData} {ds : List PyData} {k : Nat} (x : Fit d k) (y : FitAll ds k) : FitAll (d :: ds) k := by
  refine ⟨?_, ?_⟩
  · unfold PyData.canLayAll0; rw [x.lay, y.lay]; rfl
  · unfold PyData.depthAll; exact Nat.max_le.mpr ⟨x.deep, y.deep⟩
theorem Fit.tuple {ds : List PyData} {k : Nat} (x : FitAll ds k) : Fit (.tuple ds) (k + 1) := ⟨by unfold PyData.canLay0; exact x.lay, by unfold PyData.depth; exact Nat.succ_le_succ x.deep⟩
theorem Fit.list {ds : List PyData} {k : Nat} (x : FitAll ds k) : Fit (.list ds) (k + 1) := ⟨by unfold PyData.canLay0; exact x.lay, by unfold PyData.depth; exact Nat.succ_le_succ x.deep⟩
theorem Fit.mono {d : PyData} {k j : Nat} (x : Fit d k) (h : k ≤ j) : Fit d j := ⟨x.lay, Nat.le_trans x.deep h⟩
theorem Fit.shaped {d : PyData} {k : Nat} (x : Fit d k) (h : k ≤ 64) : PySem.SeqAt.shaped d = true := by
  unfold PySem.SeqAt.shaped; rw [x.lay, decide_eq_true (Nat.le_trans x.deep h)]; rfl

theorem fit_A {v : MV} {d : PyData} (h : pyA v = some d) : Fit d 0 := by
  unfold pyA at h
  split at h <;> cases h
  all_goals first
    | exact ⟨by unfold PyData.canLay0; exact strOk_S _, by simp [PyData.depth]⟩
    | exact ⟨by simp [PyData.canLay0], by simp [PyData.depth]⟩
theorem fit_all {f : MV → Option PyData} {k : Nat} (hf : ∀ v d, f v = some d → Fit d k) : ∀ {l : List MV} {ds : List PyData}, mapO f l = some ds → FitAll ds k
  | [], _, h => by cases h; exact .nil k
  | x :: r, _, h => by
    obtain ⟨y, ys, e1, e2, rfl⟩ := mapO_cons h
    exact .cons (hf x y e1) (fit_all hf e2)
theorem fit_T {v : MV} {d : PyData} (h : pyT v = some d) : Fit d 1 := by
  unfold pyT at h
  split at h
  case h_1 l => obtain ⟨ds, e, rfl⟩ := Option.map_eq_some_iff.mp h; exact .tuple (fit_all (fun _ _ => fit_A) e)
  all_goals (cases h)
  all_goals first
    | exact ⟨by unfold PyData.canLay0; exact strOk_S _, by simp [PyData.depth]⟩
    | exact ⟨by simp [PyData.canLay0], by simp [PyData.depth]⟩
theorem fit_H {H : MH} {v : MV} {d : PyData} (h : pyH H v = some d) : Fit d 2 := by
  unfold pyH at h
  split at h
  · split at h
    · obtain ⟨ds, e, rfl⟩ := Option.map_eq_some_iff.mp h; exact .list (fit_all (fun _ _ => fit_T) e)
    · cases h
  · obtain ⟨ds, e, rfl⟩ := Option.map_eq_some_iff.mp h; exact .list (fit_all (fun _ _ => fit_T) e)
  · obtain ⟨ds, e, rfl⟩ := Option.map_eq_some_iff.mp h; exact (Fit.tuple (fit_all (fun _ _ => fit_A) e)).mono (by decide)
  all_goals (cases h)
  all_goals first
    | exact ⟨by unfold PyData.canLay0; exact strOk_S _, by simp [PyData.depth]⟩
    | exact ⟨by simp [PyData.canLay0], by simp [PyData.depth]⟩

section
variable {c : Cx} {ad : List Addr} {H : MH} {h : Heap}
theorem reads_A {v : MV} {v' : Value} {d : PyData} (r : VRel c.B ad h v v') (e : pyA v = some d) : ∃ as, Reads h v' d as := by
  unfold pyA at e
  split at e <;> cases e
  · cases r; exact ⟨_, .none⟩
  · cases r; exact ⟨_, .bool _⟩
  · obtain ⟨t, rfl⟩ := r; exact ⟨_, .int _ _⟩
  · obtain ⟨t, rfl⟩ := r; exact ⟨_, .str _ _⟩
theorem reads_all {f : MV → Option PyData} (hf : ∀ v v' d, VRel c.B ad h v v' → f v = some d → ∃ as, Reads h v' d as) : ∀ {l : List MV} {vs : List Value} {ds : List PyData}, VRels c.B ad h l vs → mapO f l = some ds → ∃ as, ReadsAll h vs ds as
  | [], _, _, r, e => by cases (r : _ = []); cases e; exact ⟨_, .nil⟩
  | x :: l, _, _, ⟨v, vr, q, hv, hr⟩, e => by
    subst q
    obtain ⟨y, ys, e1, e2, rfl⟩ := mapO_cons e
    obtain ⟨as, h1⟩ := hf _ _ _ hv e1
    obtain ⟨bs, h2⟩ := reads_all hf hr e2
    exact ⟨_, .cons h1 h2⟩
theorem reads_tup {l : List MV} {v' : Value} {ds : List PyData} {f : MV → Option PyData} (hf : ∀ v v' d, VRel c.B ad h v v' → f v = some d → ∃ as, Reads h v' d as) (r : VRel c.B ad h (.tup l) v') (e : mapO f l = some ds) : ∃ as, Reads h v' (.tuple ds) as := by
  obtain ⟨a, vs, rfl, ⟨o, ho, hc, n, hd⟩, q⟩ := r
  obtain ⟨as, ra⟩ := reads_all hf q e
  exact ⟨_, .tuple ho hc hd (by simpa using ra)⟩
theorem reads_T {v : MV} {v' : Value} {d : PyData} (r : VRel c.B ad h v v') (e : pyT v = some d) : ∃ as, Reads h v' d as := by
  unfold pyT at e
  split at e
  · obtain ⟨ds, e', rfl⟩ := Option.map_eq_some_iff.mp e
    exact reads_tup (fun _ _ _ => reads_A) r e'
  all_goals (cases e)
  · cases r; exact ⟨_, .none⟩
  · cases r; exact ⟨_, .bool _⟩
  · obtain ⟨t, rfl⟩ := r; exact ⟨_, .int _ _⟩
  · obtain ⟨t, rfl⟩ := r; exact ⟨_, .str _ _⟩
theorem reads_H (R : SRel c ad H h) {v : MV} {v' : Value} {d : PyData} (r : VRel c.B ad h v v') (e : pyH H v = some d) : ∃ as, Reads h v' d as := by
  unfold pyH at e
  split at e
  · split at e
    · rename_i n _ l hn
      obtain ⟨a, ha, rfl⟩ := r
      obtain ⟨vs, ⟨k, ho⟩, q⟩ := R.obj n _ a hn ha
      obtain ⟨ds, e', rfl⟩ := Option.map_eq_some_iff.mp e
      obtain ⟨as, ra⟩ := reads_all (fun _ _ _ => reads_T) q e'
      exact ⟨_, .list ho rfl rfl (by simpa using ra)⟩
    · cases e
  · obtain ⟨ds, e', rfl⟩ := Option.map_eq_some_iff.mp e
    obtain ⟨a, vs, rfl, ⟨o, ho, hc, n, hd⟩, q⟩ := r
    obtain ⟨as, ra⟩ := reads_all (fun _ _ _ => reads_T) q e'
    exact ⟨_, .list (R.keep _ _ ho) hc hd (by simpa using ra)⟩
  · obtain ⟨ds, e', rfl⟩ := Option.map_eq_some_iff.mp e
    exact reads_tup (fun _ _ _ => reads_A) r e'
  all_goals (cases e)
  · cases r; exact ⟨_, .none⟩
  · cases r; exact ⟨_, .bool _⟩
  · obtain ⟨t, rfl⟩ := r; exact ⟨_, .int _ _⟩
  · obtain ⟨t, rfl⟩ := r; exact ⟨_, .str _ _⟩
end

noncomputable abbrev CmpF := MV → MV → MH → Option Bool
noncomputable def CmpRule (c : Cx) (n : Nat) (op : CmpOp) (F : CmpF) : Prop :=
  ∀ (A : Around) (ad : List Addr) (H : MH) (s : Shared) (a b : MV) (a' b' : Value) (r : Bool) (Q E : Value → Shared → Prop), Room n A → SRel c ad H s.heap → VRel c.B ad s.heap a a' → VRel c.B ad s.heap b b' → F a b H = some r →
    (∀ tk, Q (.bool r) { s with toks := tk }) → wpAny (model c.prog c.w) A (compareOp op a' b') Q E s
noncomputable def eCmp (F : CmpF) (f g : EvF) : EvF := fun l H => (f l H).bind fun x => (g l x.2).bind fun y => (F x.1 y.1 y.2).map fun r => (.bool r, y.2)
noncomputable def tCmp (F : CmpF) (f g : EvF) : TrF := fun l H => (f l H).bind fun x => (g l x.2).bind fun y => (F x.1 y.1 y.2).map fun r => (r, y.2)
theorem Binds.value {B : Heap} {ad : List Addr} {h : Heap} : ∀ {l : List (String × MV)} {b : List (Str × Value)}, Binds B ad h l b → ∀ (x : String), (∀ v, l.lookup x = some v → ∃ v', valueAt b (S x) = some v' ∧ VRel B ad h v v') ∧ (l.lookup x = none → valueAt b (S x) = none)
  | [], _, e, x => by cases (e : _ = []); exact ⟨fun v e => by simp at e, fun _ => rfl⟩
  | (y, u) :: l, _, ⟨u', br, q, hv, r⟩, x => by
    subst q
    obtain ⟨h1, h2⟩ := Binds.value r x
    unfold valueAt at h1 h2 ⊢
    rw [List.lookup_cons, List.find?_cons]
    by_cases hxy : x = y
    · subst hxy
      simp only [beq_self_eq_true, decide_true]
      exact ⟨fun v e => by cases e; exact ⟨u', rfl, hv⟩, fun e => by cases e⟩
    · have e1 : (x == y) = false := by simpa using hxy
      have e2 : decide (S y = S x) = false := by simpa using fun z => hxy (S_inj z).symm
      rw [e1, e2]
      exact ⟨h1, h2⟩
section
variable {c : Cx} {n : Nat} {sc : Scope'}
theorem Ev.cmp {op : CmpOp} {F : CmpF} {a b : Expr} {pos : Pos} {f g : EvF} (r : CmpRule c n op F) (ha : Ev c n sc a f) (hb : Ev c n sc b g) (hm : behindInMarks op b = false := by with_unfolding_all rfl) : Ev c n sc (.Compare a [op] [b] pos) (eCmp F f g) := by
  intro A env l ad H s v H' Q E hr he hl hs hf hQ
  obtain ⟨⟨x, H1⟩, e1, hf⟩ := Option.bind_eq_some_iff.mp hf
  obtain ⟨⟨y, H2⟩, e2, hf⟩ := Option.bind_eq_some_iff.mp hf
  obtain ⟨q, e3, hf⟩ := Option.map_eq_some_iff.mp hf
  cases hf
  refine wpAny_Compare1 (ha _ _ _ _ _ _ _ _ _ _ hr he hl hs e1 fun ad1 x' h1 t1 x1 s1 v1 => ?_) hm
  refine hb _ _ _ _ _ _ _ _ _ _ hr he (hl.mono hs x1) s1 e2 fun ad2 y' h2 t2 x2 s2 v2 => ?_
  refine r _ _ _ _ _ _ _ _ _ _ _ hr s2 (VRel.mono s1 x2 (Dull.none _) _ _ v1) v2 e3 fun tk => ?_
  exact hQ ad2 _ h2 tk (x1.trans x2) s2 rfl
theorem Tr.cmp {op : CmpOp} {F : CmpF} {a b : Expr} {pos : Pos} {f g : EvF} (r : CmpRule c n op F) (ha : Ev c n sc a f) (hb : Ev c n sc b g) (hm : behindInMarks op b = false := by with_unfolding_all rfl) : Tr c n sc (.Compare a [op] [b] pos) (tCmp F f g) := by
  intro A env l ad H s v H' Q E hr he hl hs hf hQ
  obtain ⟨⟨x, H1⟩, e1, hf⟩ := Option.bind_eq_some_iff.mp hf
  obtain ⟨⟨y, H2⟩, e2, hf⟩ := Option.bind_eq_some_iff.mp hf
  obtain ⟨q, e3, hf⟩ := Option.map_eq_some_iff.mp hf
  cases hf
  refine wpAny_isTrue_Compare1 (ha _ _ _ _ _ _ _ _ _ _ hr he hl hs e1 fun ad1 x' h1 t1 x1 s1 v1 => ?_) hm
  refine hb _ _ _ _ _ _ _ _ _ _ hr he (hl.mono hs x1) s1 e2 fun ad2 y' h2 t2 x2 s2 v2 => ?_
  refine r _ _ _ _ _ _ _ _ _ _ _ hr s2 (VRel.mono s1 x2 (Dull.none _) _ _ v1) v2 e3 fun tk => ?_
  exact wpAny_truthy_bool (hQ ad2 h2 tk (x1.trans x2) s2)
/-- a < b < c -/
noncomputable def tCmp2 (F G : CmpF) (f g h : EvF) : TrF := fun l H => (f l H).bind fun x => (g l x.2).bind fun y => (F x.1 y.1 y.2).bind fun r =>
  if r = true then (h l y.2).bind fun z => (G y.1 z.1 z.2).map fun r => (r, z.2) else some (false, y.2)
theorem Tr.cmp2 {op op' : CmpOp} {F G : CmpF} {a b d : Expr} {pos : Pos} {f g h : EvF} (r : CmpRule c n op F) (r' : CmpRule c n op' G) (ha : Ev c n sc a f) (hb : Ev c n sc b g) (hd : Ev c n sc d h)
    (hm : lastMarks [op, op'] [b, d] = false := by with_unfolding_all rfl) : Tr c n sc (.Compare a [op, op'] [b, d] pos) (tCmp2 F G f g h) := by
  intro A env l ad H s v H' Q E hr he hl hs hf hQ
  obtain ⟨⟨x, H1⟩, e1, hf⟩ := Option.bind_eq_some_iff.mp hf
  obtain ⟨⟨y, H2⟩, e2, hf⟩ := Option.bind_eq_some_iff.mp hf
  obtain ⟨q, e3, hf⟩ := Option.bind_eq_some_iff.mp hf
  refine isTrue_chain (ha _ _ _ _ _ _ _ _ _ _ hr he hl hs e1 fun ad1 x' h1 t1 x1 s1 v1 => ?_) hm
  refine test_link (hb _ _ _ _ _ _ _ _ _ _ hr he (hl.mono hs x1) s1 e2 fun ad2 y' h2 t2 x2 s2 v2 => ?_)
  refine r _ _ _ _ _ _ _ _ _ _ _ hr s2 (VRel.mono s1 x2 (Dull.none _) _ _ v1) v2 e3 fun tk => ?_
  refine wpAny_truthy_bool ?_
  cases q with
  | false =>
    simp only [Bool.false_eq_true, if_false, Option.some.injEq, Prod.mk.injEq] at hf ⊢
    obtain ⟨rfl, rfl⟩ := hf
    exact hQ ad2 h2 tk (x1.trans x2) s2
  | true =>
    simp only [if_true] at hf ⊢
    obtain ⟨⟨z, H3⟩, e4, hf⟩ := Option.bind_eq_some_iff.mp hf
    obtain ⟨q, e5, hf⟩ := Option.map_eq_some_iff.mp hf
    cases hf
    refine test_last (hd _ _ _ _ _ { s with heap := h2, toks := tk } _ _ _ _ hr he ((hl.mono hs x1).mono s1 x2) s2 e4 fun ad3 z' h3 t3 x3 s3 v3 => ?_)
    refine r' _ _ _ _ _ _ _ _ _ _ _ hr s3 (VRel.mono s2 x3 (Dull.none _) _ _ v2) v3 e5 fun tk => ?_
    exact wpAny_truthy_bool (hQ ad3 h3 tk (x1.trans (x2.trans x3)) s3)

noncomputable def intC (F : Int → Int → Bool) : CmpF := fun a b _ => match a, b with
  | .int i, .int j => some (F i j)
  | _, _ => none
theorem intC_some {F : Int → Int → Bool} {a b : MV} {H : MH} {r : Bool} (h : intC F a b H = some r) : ∃ i j, a = .int i ∧ b = .int j ∧ r = F i j := by
  unfold intC at h
  split at h
  · cases h; exact ⟨_, _, rfl, rfl, rfl⟩
  · cases h
theorem lt_rule : CmpRule c n .Lt (intC fun i j => decide (i < j)) := by
  intro A ad H s a b a' b' r Q E hr hs ha hb hf hQ
  obtain ⟨i, j, rfl, rfl, rfl⟩ := intC_some hf
  obtain ⟨t, rfl⟩ := ha; obtain ⟨u, rfl⟩ := hb
  exact PyProof.Rows.lt_int (hQ s.toks)
theorem le_rule : CmpRule c n .LtE (intC fun i j => decide (i ≤ j)) := by
  intro A ad H s a b a' b' r Q E hr hs ha hb hf hQ
  obtain ⟨i, j, rfl, rfl, rfl⟩ := intC_some hf
  obtain ⟨t, rfl⟩ := ha; obtain ⟨u, rfl⟩ := hb
  exact PyProof.Rows.le_int (hQ s.toks)
theorem gt_rule : CmpRule c n .Gt (intC fun i j => decide (j < i)) := by
  intro A ad H s a b a' b' r Q E hr hs ha hb hf hQ
  obtain ⟨i, j, rfl, rfl, rfl⟩ := intC_some hf
  obtain ⟨t, rfl⟩ := ha; obtain ⟨u, rfl⟩ := hb
  exact PyProof.Rows.gt_int (hQ s.toks)
theorem ge_rule : CmpRule c n .GtE (intC fun i j => decide (j ≤ i)) := by
  intro A ad H s a b a' b' r Q E hr hs ha hb hf hQ
  obtain ⟨i, j, rfl, rfl, rfl⟩ := intC_some hf
  obtain ⟨t, rfl⟩ := ha; obtain ⟨u, rfl⟩ := hb
  exact PyProof.Rows.ge_int (hQ s.toks)
noncomputable def eqF : CmpF := fun a b H => (pyH H a).bind fun x => (pyH H b).map fun y => PyData.eqv x y
noncomputable def neF : CmpF := fun a b H => (eqF a b H).map fun r => !r
theorem Room.data {A : Around} (h : Room n A) : A.units + 65 < cLine := by
  have := h.2.2; omega
theorem eq_rule : CmpRule c n .Eq eqF := by
  intro A ad H s a b a' b' r Q E hr hs ha hb hf hQ
  obtain ⟨x, e1, hf⟩ := Option.bind_eq_some_iff.mp hf
  obtain ⟨y, e2, rfl⟩ := Option.map_eq_some_iff.mp hf
  obtain ⟨as, r1⟩ := reads_H hs ha e1
  obtain ⟨bs, r2⟩ := reads_H hs hb e2
  exact eq_dataH r1 r2 ((fit_H e1).shaped (by decide)) ((fit_H e2).shaped (by decide)) (by have := hr.data; omega) (hQ s.toks)
theorem ne_rule : CmpRule c n .NotEq neF := by
  intro A ad H s a b a' b' r Q E hr hs ha hb hf hQ
  obtain ⟨r, hf', rfl⟩ := Option.map_eq_some_iff.mp hf
  obtain ⟨x, e1, hf⟩ := Option.bind_eq_some_iff.mp hf'
  obtain ⟨y, e2, rfl⟩ := Option.map_eq_some_iff.mp hf
  obtain ⟨as, r1⟩ := reads_H hs ha e1
  obtain ⟨bs, r2⟩ := reads_H hs hb e2
  exact ne_dataH r1 r2 ((fit_H e1).shaped (by decide)) ((fit_H e2).shaped (by decide)) (by have := hr.data; omega) (hQ s.toks)
noncomputable def isF : CmpF := fun a b _ => match a, b with
  | .none, .none => some true
  | .tup _, .none => some false
  | .int _, .none => some false
  | _, _ => none
theorem is_rule : CmpRule c n .Is isF := by
  intro A ad H s a b a' b' r Q E hr hs ha hb hf hQ
  unfold isF at hf
  split at hf
  · cases hf; cases ha; cases hb; exact is_none_none (hQ s.toks)
  · cases hf
    obtain ⟨d, vs, rfl, _⟩ := ha
    cases hb
    exact is_ref_none (hQ s.toks)
  · cases hf
    obtain ⟨t, rfl⟩ := ha
    cases hb
    exact is_int_none (hQ s.toks)
  · cases hf
noncomputable def among (d : PyData) (xs : List PyData) : Option Bool := if (xs.all fun y => noMix y d) = true then some (xs.any fun y => PyData.eqv y d) else none
noncomputable def inF : CmpF := fun a b H => match b with
  | .tup l => (pyH H a).bind fun d => (mapO (pyH H) l).bind fun xs => among d xs
  | .ref m => match H[m]? with
    | some (.list l) => (pyH H a).bind fun d => (mapO pyT l).bind fun xs => among d xs
    | some (.dict es) => match a with
      | .str k => some (es.lookup k).isSome
      | _ => none
    | _ => none
  | _ => none
noncomputable def notInF : CmpF := fun a b H => (inF a b H).map fun r => !r
theorem among_some {d : PyData} {xs : List PyData} {r : Bool} (h : among d xs = some r) : (∀ y ∈ xs, noMix y d = true) ∧ decide (countIn d xs ≠ 0) = r := by
  unfold among at h
  split at h
  · rename_i q
    cases h
    have q' : ∀ y ∈ xs, noMix y d = true := by simpa using q
    exact ⟨q', (any_eqv_countIn d xs q').symm⟩
  · cases h
theorem low_sys (C : c.Ok) : sysModules < c.B.objs.size := by
  obtain ⟨mc, hn, _⟩ := C.top.nolimit
  have h1 : 2 < c.B.objs.size := hn.lt
  exact Nat.lt_trans (by decide : 1 < 2) h1
theorem not_sys (C : c.Ok) {ad : List Addr} {H : MH} {h : Heap} (R : SRel c ad H h) {a : Addr} (ha : a ∈ ad) : (a == sysModules) = false := by
  have h1 := R.fresh a ha
  have h2 := low_sys C
  exact beq_eq_false_iff_ne.mpr (fun e => absurd (e ▸ h1 : c.B.objs.size ≤ sysModules) (Nat.not_le.mpr h2))
theorem in_rule (C : c.Ok) : CmpRule c n .In inF := by
  intro A ad H s a b a' b' r Q E hr hs ha hb hf hQ
  unfold inF at hf
  split at hf
  · obtain ⟨d, e1, hf⟩ := Option.bind_eq_some_iff.mp hf
    obtain ⟨xs, e2, hf⟩ := Option.bind_eq_some_iff.mp hf
    obtain ⟨hm, rfl⟩ := among_some hf
    obtain ⟨as, r1⟩ := reads_H hs ha e1
    obtain ⟨bs, r2⟩ := reads_tup (fun _ _ _ => reads_H hs) hb e2
    exact in_tuple_dataH r2 r1 ((Fit.tuple (fit_all (fun _ _ => fit_H) e2)).shaped (by decide)) ((fit_H e1).shaped (by decide)) hr.data hm (hQ s.toks)
  · rename_i m
    split at hf
    · rename_i l hn
      obtain ⟨d, e1, hf⟩ := Option.bind_eq_some_iff.mp hf
      obtain ⟨xs, e2, hf⟩ := Option.bind_eq_some_iff.mp hf
      obtain ⟨hm, rfl⟩ := among_some hf
      obtain ⟨as, r1⟩ := reads_H hs ha e1
      have e3 : pyH H (.ref m) = some (.list xs) := by unfold pyH; simp only [hn, e2, Option.map_some]
      obtain ⟨bs, r2⟩ := reads_H hs hb e3
      exact in_list_dataH r2 r1 ((fit_H e3).shaped (by decide)) ((fit_H e1).shaped (by decide)) hr.data hm (hQ s.toks)
    · rename_i es hn
      split at hf
      · rename_i k
        cases hf
        obtain ⟨t, rfl⟩ := ha
        obtain ⟨d, hd, rfl⟩ := hb
        obtain ⟨kvs, hm, q⟩ := hs.obj m _ d hn hd
        obtain ⟨q1, q2⟩ := q.value k
        refine wpAny_in_of (strKind_is _ _ _ _) (not_sys C hs (List.mem_of_getElem? hd)) hm.mapOf ?_
        have : (valueAt kvs (S k)).isSome = (es.lookup k).isSome := by
          cases e : es.lookup k with
          | none => rw [q2 e]; rfl
          | some v => obtain ⟨v', e', _⟩ := q1 v e; rw [e']; rfl
        rw [this]
        exact hQ _
      · cases hf
    · cases hf
  · cases hf
theorem notIn_rule (C : c.Ok) : CmpRule c n .NotIn notInF := by
  intro A ad H s a b a' b' r Q E hr hs ha hb hf hQ
  obtain ⟨r, hf', rfl⟩ := Option.map_eq_some_iff.mp hf
  replace hf := hf'
  unfold inF at hf
  split at hf
  · obtain ⟨d, e1, hf⟩ := Option.bind_eq_some_iff.mp hf
    obtain ⟨xs, e2, hf⟩ := Option.bind_eq_some_iff.mp hf
    obtain ⟨hm, rfl⟩ := among_some hf
    obtain ⟨as, r1⟩ := reads_H hs ha e1
    obtain ⟨bs, r2⟩ := reads_tup (fun _ _ _ => reads_H hs) hb e2
    exact notIn_tuple_dataH r2 r1 ((Fit.tuple (fit_all (fun _ _ => fit_H) e2)).shaped (by decide)) ((fit_H e1).shaped (by decide)) hr.data hm (hQ s.toks)
  · rename_i m
    split at hf
    · rename_i l hn
      obtain ⟨d, e1, hf⟩ := Option.bind_eq_some_iff.mp hf
      obtain ⟨xs, e2, hf⟩ := Option.bind_eq_some_iff.mp hf
      obtain ⟨hm, rfl⟩ := among_some hf
      obtain ⟨as, r1⟩ := reads_H hs ha e1
      have e3 : pyH H (.ref m) = some (.list xs) := by unfold pyH; simp only [hn, e2, Option.map_some]
      obtain ⟨bs, r2⟩ := reads_H hs hb e3
      exact notIn_list_dataH r2 r1 ((fit_H e3).shaped (by decide)) ((fit_H e1).shaped (by decide)) hr.data hm (hQ s.toks)
    · rename_i es hn
      split at hf
      · rename_i k
        cases hf
        obtain ⟨t, rfl⟩ := ha
        obtain ⟨d, hd, rfl⟩ := hb
        obtain ⟨kvs, hm, q⟩ := hs.obj m _ d hn hd
        obtain ⟨q1, q2⟩ := q.value k
        refine wpAny_notIn_of (strKind_is _ _ _ _) (not_sys C hs (List.mem_of_getElem? hd)) hm.mapOf ?_
        have : (valueAt kvs (S k)).isSome = (es.lookup k).isSome := by
          cases e : es.lookup k with
          | none => rw [q2 e]; rfl
          | some v => obtain ⟨v', e', _⟩ := q1 v e; rw [e']; rfl
        rw [this]
        exact hQ _
      · cases hf
    · cases hf
  · cases hf
end
end Nt
end
section
open PySem PySem.W PySem.Spec PySem.Calls PyProof.Rows PySem.SeqAt
namespace Nt
/-! statements -/
/-- the frame is turned beside the abstract heap -/
theorem SRel.own {c : Cx} {own : Addr → Prop} {ad : List Addr} {H : MH} {h h' : Heap} (R : SRel c ad H h) (D : Dull own h) (off : ∀ a, own a → a ∉ ad ∧ c.B.objs.size ≤ a) (k : ∀ b o, ¬ own b → h.get? b = some o → h'.get? b = some o) (sz : h.objs.size ≤ h'.objs.size) :
    SRel c ad H h' ∧ Ext own ad h ad h' := by
  have x : Ext own ad h ad h' := ⟨⟨[], by simp, fun _ hm => nomatch hm⟩, fun b o e _ ho => k b o ho e, sz⟩
  refine ⟨⟨Nat.le_trans R.bs sz, fun b o e => k b o (fun q => absurd (Heap.lt_size e) (Nat.not_lt.mpr (off b q).2)) (R.keep b o e), R.len, R.nodup, R.fresh, fun n o a e1 e2 => ?_⟩, x⟩
  exact (R.obj n o a e1 e2).move R x D fun ob e => k _ _ (fun q => (off a q).1 (List.mem_of_getElem? e2)) e
theorem LRel.offs {c : Cx} {env : Env} {l : Loc} {ad : List Addr} {h : Heap} (L : LRel c env l ad h) : ∀ a, Own env a → a ∉ ad ∧ c.B.objs.size ≤ a := by
  intro a ha
  rcases ha with rfl | ⟨y, hy⟩
  · exact ⟨L.off, L.low⟩
  · exact (L.cells y a hy).2
theorem LRel.cell_ne {c : Cx} {env : Env} {l : Loc} {ad : List Addr} {h : Heap} (L : LRel c env l ad h) {y : Str} {a : Addr} (e : env.cells.lookup y = some a) : a ≠ env.locals := by
  rintro rfl
  obtain ⟨m, ⟨o', es, ep, q, qd, _⟩, _⟩ := L.ns
  obtain ⟨v, o, ho, hd⟩ := (L.cells y _ e).1
  rw [q] at ho; cases ho
  rw [qd] at hd; cases hd

/-- a state after a step that may have turned the frame -/
noncomputable abbrev Then (c : Cx) (env : Env) (ad : List Addr) (s : Shared) (l' : Loc) (H' : MH) (Q : Unit → Shared → Prop) : Prop :=
  ∀ ad' h' tk', Ext (Own env) ad s.heap ad' h' → LRel c env l' ad' h' → SRel c ad' H' h' → Q () { s with heap := h', toks := tk' }

section
variable {c : Cx} {n : Nat} {sc : Scope'}
noncomputable def OwnL (env : Env) : Addr → Prop := fun a => a = env.locals
noncomputable abbrev ThenL (c : Cx) (env : Env) (ad : List Addr) (s : Shared) (l' : Loc) (H' : MH) (Q : Unit → Shared → Prop) : Prop :=
  ∀ ad' h' tk', Ext (OwnL env) ad s.heap ad' h' → LRel c env l' ad' h' → SRel c ad' H' h' → Q () { s with heap := h', toks := tk' }
theorem LRel.dullL {env : Env} {l : Loc} {ad : List Addr} {h : Heap} (L : LRel c env l ad h) : Dull (OwnL env) h := fun b hb o ho => L.dull b (.inl hb) o ho
theorem storeL {A : Around} {env : Env} {l : Loc} {ad : List Addr} {H : MH} {s : Shared} {x : String} {v : MV} {v' : Value} {Q : Unit → Shared → Prop} {E : Value → Shared → Prop} (he : EnvOk sc env) (hl : LRel c env l ad s.heap) (hs : SRel c ad H s.heap) (hv : VRel c.B ad s.heap v v')
    (hk : sc.lookup (S x) = some .local) (hQ : ThenL c env ad s (setKV x v l) H Q) : wpAny (model c.prog c.w) A (storeName env (S x) v') Q E s := by
  have D := hl.dullL
  obtain ⟨m, hn, hm⟩ := hl.ns
  have kd : env.kindOf (S x) = some .local := by unfold Env.kindOf; rw [he.names]; exact hk
  refine wpAny_storeName_local kd hn (fun h' hn' sb => ?_) (by rw [he.kind]; rfl)
  have k : ∀ b o, ¬ OwnL env b → s.heap.get? b = some o → h'.get? b = some o := fun b o hb e => (sb.2 b fun q => hb q).trans e
  obtain ⟨hs', x'⟩ := hs.own D (fun a ha => hl.offs a (.inl ha)) k (Nat.le_of_eq sb.1.symm)
  refine hQ ad h' _ x' ⟨⟨_, hn', fun y u e ky => ?_⟩, fun y u e ky => ?_, hl.has, fun y a e => ?_, hl.apart, hl.off, hl.low⟩ hs'
  · rw [lookup_setKV] at e
    by_cases hy : y = x
    · rw [if_pos hy] at e; cases e
      exact ⟨v', by rw [if_pos (S_eq.mpr hy)], hv.mono hs x' D⟩
    · rw [if_neg hy] at e
      obtain ⟨u', q, r⟩ := hm y u e ky
      exact ⟨u', by rw [if_neg (fun z => hy (S_inj z))]; exact q, r.mono hs x' D⟩
  · rw [lookup_setKV] at e
    by_cases hy : y = x
    · subst hy; rw [kd] at ky; cases ky
    · rw [if_neg hy] at e
      obtain ⟨a, u', q, ⟨o, ho, hd⟩, r⟩ := hl.cell y u e ky
      exact ⟨a, u', q, ⟨o, (sb.2 a (hl.cell_ne q)).trans ho, hd⟩, r.mono hs x' D⟩
  · obtain ⟨⟨u, o, ho, hd⟩, r⟩ := hl.cells y a e
    exact ⟨⟨u, o, (sb.2 a (hl.cell_ne e)).trans ho, hd⟩, r⟩
theorem store {A : Around} {env : Env} {l : Loc} {ad : List Addr} {H : MH} {s : Shared} {x : String} {v : MV} {v' : Value} {Q : Unit → Shared → Prop} {E : Value → Shared → Prop} (he : EnvOk sc env) (hl : LRel c env l ad s.heap) (hs : SRel c ad H s.heap) (hv : VRel c.B ad s.heap v v')
    (hk : sc.lookup (S x) = some .local ∨ sc.lookup (S x) = some .cell) (hQ : Then c env ad s (setKV x v l) H Q) : wpAny (model c.prog c.w) A (storeName env (S x) v') Q E s := by
  have D := hl.dull
  obtain ⟨m, hn, hm⟩ := hl.ns
  rcases hk with hk | hk
  · exact storeL he hl hs hv hk fun ad' h' tk' x' l' s' => hQ ad' h' tk' (x'.weaken fun a ha => .inl ha) l' s'
  · have kd : env.kindOf (S x) = some .cell := by unfold Env.kindOf; rw [he.names]; exact hk
    obtain ⟨a, ha⟩ := hl.has _ kd
    obtain ⟨⟨u₀, hc⟩, _⟩ := hl.cells _ a ha
    refine wpAny_storeName_cell he.kind kd ha hc fun h' hc' sb => ?_
    have k : ∀ b o, ¬ Own env b → s.heap.get? b = some o → h'.get? b = some o := fun b o hb e => (sb.2 b fun q => hb (.inr ⟨S x, q ▸ ha⟩)).trans e
    obtain ⟨hs', x'⟩ := hs.own D hl.offs k (Nat.le_of_eq sb.1.symm)
    refine hQ ad h' s.toks x' ⟨⟨m, hn.sameBut sb (hl.cell_ne ha).symm, fun y u e ky => ?_⟩, fun y u e ky => ?_, hl.has, fun y b e => ?_, hl.apart, hl.off, hl.low⟩ hs'
    · rw [lookup_setKV] at e
      by_cases hy : y = x
      · subst hy; rw [kd] at ky; cases ky
      · rw [if_neg hy] at e
        obtain ⟨u', q, r⟩ := hm y u e ky
        exact ⟨u', q, r.mono hs x' D⟩
    · rw [lookup_setKV] at e
      by_cases hy : y = x
      · rw [if_pos hy] at e; cases e
        subst hy
        exact ⟨a, v', ha, hc', hv.mono hs x' D⟩
      · rw [if_neg hy] at e
        obtain ⟨b, u', q, ⟨o, ho, hd⟩, r⟩ := hl.cell y u e ky
        exact ⟨b, u', q, ⟨o, (sb.2 b fun z => hy (S_inj (hl.apart _ _ _ q (z ▸ ha)))).trans ho, hd⟩, r.mono hs x' D⟩
    · by_cases hb : b = a
      · subst hb; exact ⟨⟨_, hc'⟩, (hl.cells y b e).2⟩
      · obtain ⟨⟨u, o, ho, hd⟩, r⟩ := hl.cells y b e
        exact ⟨⟨u, o, (sb.2 b hb).trans ho, hd⟩, r⟩

/-! targets -/
noncomputable abbrev AsF := MV → Loc → MH → Option (Loc × MH)
noncomputable def As (c : Cx) (n : Nat) (sc : Scope') (t : Expr) (f : AsF) : Prop :=
  ∀ (A : Around) (env : Env) (l : Loc) (ad : List Addr) (H : MH) (s : Shared) (v : MV) (v' : Value) (l' : Loc) (H' : MH) (Q : Unit → Shared → Prop) (E : Value → Shared → Prop),
    Room n A → EnvOk sc env → LRel c env l ad s.heap → SRel c ad H s.heap → VRel c.B ad s.heap v v' → f v l H = some (l', H') → Then c env ad s l' H' Q → wpAny (model c.prog c.w) A (assign t env v') Q E s
noncomputable def aN (x : String) : AsF := fun v l H => some (setKV x v l, H)
theorem As.name {x : String} {pos : Pos} (hk : sc.lookup (S x) = some .local ∨ sc.lookup (S x) = some .cell) : As c n sc (.Name (S x) pos) (aN x) := by
  intro A env l ad H s v v' l' H' Q E hr he hl hs hv hf hQ
  cases hf
  exact wpAny_assign_Name (store he hl hs hv hk hQ)

/-- targets in order -/
noncomputable abbrev AsLF := List MV → Loc → MH → Option (Loc × MH)
structure AsL (c : Cx) (n : Nat) (sc : Scope') (ts : List Expr) (f : AsLF) : Prop where
  len : ∀ vs l H r, f vs l H = some r → vs.length = ts.length
  each : ∀ env, (assignEach ts env).length = ts.length ∧ (assignEach ts env).findIdx? (·.1) = none
  walk : ∀ (A : Around) (env : Env) (l : Loc) (ad : List Addr) (H : MH) (s : Shared) (vs : List MV) (vs' : List Value) (l' : Loc) (H' : MH) (Q : Unit → Shared → Prop) (E : Value → Shared → Prop),
    Room n A → EnvOk sc env → LRel c env l ad s.heap → SRel c ad H s.heap → VRels c.B ad s.heap vs vs' → f vs l H = some (l', H') → Then c env ad s l' H' Q →
    wpAny (model c.prog c.w) A (assignInOrder ((assignEach ts env).map (·.2)) vs') Q E s
noncomputable def aNil : AsLF := fun vs l H => match vs with
  | [] => some (l, H)
  | _ => none
noncomputable def aCons (f : AsF) (g : AsLF) : AsLF := fun vs l H => match vs with
  | v :: r => (f v l H).bind fun x => g r x.1 x.2
  | [] => none
theorem AsL.nil : AsL c n sc [] aNil := by
  refine ⟨fun vs l H r h => ?_, fun _ => ⟨rfl, rfl⟩, ?_⟩
  · unfold aNil at h
    split at h
    · rfl
    · cases h
  · intro A env l ad H s vs vs' l' H' Q E hr he hl hs hv hf hQ
    unfold aNil at hf
    split at hf
    · cases hf
      exact wpAny_pure (hQ ad s.heap s.toks (.refl ..) hl hs)
    · cases hf
theorem AsL.cons {t : Expr} {ts : List Expr} {f : AsF} {g : AsLF} (h1 : As c n sc t f) (h2 : AsL c n sc ts g) (hp : ∀ env, assignEach (t :: ts) env = (false, assign t env) :: assignEach ts env := by intro _; rfl) : AsL c n sc (t :: ts) (aCons f g) := by
  refine ⟨fun vs l H r h => ?_, fun env => ?_, ?_⟩
  · unfold aCons at h
    split at h
    · obtain ⟨x, _, h⟩ := Option.bind_eq_some_iff.mp h
      simp only [List.length_cons, h2.len _ _ _ _ h]
    · cases h
  · rw [hp]
    obtain ⟨e1, e2⟩ := h2.each env
    refine ⟨by simp only [List.length_cons, e1], ?_⟩
    rw [List.findIdx?_cons, e2]; rfl
  · intro A env l ad H s vs vs' l' H' Q E hr he hl hs hv hf hQ
    unfold aCons at hf
    split at hf
    · obtain ⟨⟨l1, H1⟩, e1, hf⟩ := Option.bind_eq_some_iff.mp hf
      obtain ⟨v', vr, rfl, hv', hr'⟩ := hv
      rw [hp]
      show wpAny _ _ (do holding vr (assign t env v'); assignInOrder ((assignEach ts env).map (·.2)) vr) Q E s
      refine wpAny_bind (wpAny_holding (h1 _ _ _ _ _ _ _ _ _ _ _ _ hr he hl hs hv' e1 fun ad1 h1 t1 x1 hl1 hs1 => ?_))
      exact h2.walk _ _ _ _ _ { s with heap := h1, toks := t1 } _ _ _ _ _ _ hr he hl1 hs1 (VRels.mono hs x1 hl.dull _ _ hr') hf fun ad2 h2 t2 x2 hl2 hs2 => hQ ad2 h2 t2 (x1.trans x2) hl2 hs2
    · cases hf
noncomputable def aTup (g : AsLF) : AsF := fun v l H => match v with
  | .tup vs => g vs l H
  | _ => none
theorem ext_of_unpacked {c : Cx} {ad : List Addr} {H : MH} {h h' : Heap} (hs : SRel c ad H h) (sz : h.objs.size ≤ h'.objs.size) (k : Heap.ExtBut h.objs.size h h') : SRel c ad H h' ∧ Ext0 ad h ad h' := by
  have k' : ∀ b o, h.get? b = some o → h'.get? b = some o := fun b o e => k b o (Nat.ne_of_lt (Heap.lt_size e)) e
  exact ⟨hs.keeps k' sz, Ext0.of k' sz⟩
theorem As.tup {ts : List Expr} {k : Nat} {pos : Pos} {g : AsLF} (h : AsL c n sc ts g) : As c n sc (.Tuple ts k pos) (aTup g) := by
  intro A env l ad H s v v' l' H' Q E hr he hl hs hv hf hQ
  unfold aTup at hf
  split at hf
  · rename_i vs
    obtain ⟨a, vs', rfl, ht, hvs⟩ := hv
    rw [arm_assign_Tuple]
    refine wpAny_bind (wpAny_standAt ?_)
    unfold unpack
    have e1 : (assignEach ts env).length = vs'.toArray.size := by
      rw [(h.each env).1, ← h.len _ _ _ _ hf, List.size_toArray, hvs.length]
    rw [e1, (h.each env).2]
    refine wpAny_bind (wpAny_holding (with_size (unpackItems_tuple hr.1 ht fun h' k sz => ?_)))
    obtain ⟨hs', x⟩ := ext_of_unpacked hs sz k
    exact h.walk _ _ _ _ _ { s with heap := h' } _ _ _ _ _ _ hr he (hl.mono hs x) hs' (VRels.mono hs x (Dull.none _) _ _ hvs) hf fun ad2 h2 t2 x2 hl2 hs2 => hQ ad2 h2 t2 (x.weaken0.trans x2) hl2 hs2
  · cases hf

/-! statements -/
noncomputable def xAssign (f : EvF) (g : AsF) : ExF := fun l H => (f l H).bind fun x => (g x.1 l x.2).map fun y => (.next, y.1, y.2)
theorem Ex.assign {t value : Expr} {pos : Pos} {f : EvF} {g : AsF} (h1 : Ev c n sc value f) (h2 : As c n sc t g) (hs : ∀ env, EnvOk sc env → swapsWithSole [t] value pos.line env = pure false) (hw : ∀ env, EnvOk sc env → swappedStores [t] value env = pure none)
    (hp : ∀ env, (assignEach [t] env).map (·.2) = [assign t env] := by intro _; rfl) : Ex c n sc (.Assign [t] value pos) (xAssign f g) := by
  intro A env l ad H s fl l' H' Q E hr he hl hsr hf hQ
  obtain ⟨⟨v, H1⟩, e1, hf⟩ := Option.bind_eq_some_iff.mp hf
  obtain ⟨⟨l2, H2⟩, e2, hf⟩ := Option.map_eq_some_iff.mp hf
  cases hf
  refine wpAny_Assign_stores (h1 _ _ _ _ _ _ _ _ _ _ hr he hl hsr e1 fun ad1 v' h1 t1 x1 s1 v1 => ?_) (hs env he) (hw env he)
  rw [hp]
  show wpAny _ _ (PySem.assign t env v') _ _ _
  exact h2 _ _ _ _ _ _ _ _ _ _ _ _ hr he (hl.mono hsr x1) s1 v1 e2 fun ad2 h2 t2 x2 l2 s2 => hQ ad2 _ h2 t2 (x1.weaken0.trans x2) l2 s2 rfl

/-- a, b = x, y between local names of the frame: stored from the last to the first -/
noncomputable def aRev (xs : List String) : AsF := fun v l H => match v with
  | .tup vs => if vs.length = xs.length then some ((xs.reverse.zip vs.reverse).foldl (fun l p => setKV p.1 p.2 l) l, H) else none
  | _ => none
theorem storeAll {A : Around} {env : Env} {H : MH} {Q : Unit → Shared → Prop} {E : Value → Shared → Prop} (he : EnvOk sc env) : ∀ (xs : List String) (vs : List MV) (vs' : List Value) (l : Loc) (ad : List Addr) (s : Shared), LRel c env l ad s.heap → SRel c ad H s.heap → VRels c.B ad s.heap vs vs' →
    vs.length = xs.length → (∀ x ∈ xs, sc.lookup (S x) = some .local) → Then c env ad s ((xs.zip vs).foldl (fun l p => setKV p.1 p.2 l) l) H Q →
    wpAny (model c.prog c.w) A (assignInOrder (xs.map fun x => bindName env (S x)) vs') Q E s
  | [], [], _, l, ad, s, hl, hs, hv, _, _, hQ => by
    cases (hv : _ = [])
    exact wpAny_pure (hQ ad s.heap s.toks (.refl ..) hl hs)
  | x :: xs, v :: vs, _, l, ad, s, hl, hs, ⟨v', vr, q, hv, hr⟩, hlen, hk, hQ => by
    subst q
    show wpAny _ _ (do holding vr (bindName env (S x) v'); assignInOrder (xs.map fun x => bindName env (S x)) vr) Q E s
    refine wpAny_bind (wpAny_holding (wpAny_bindName (store he hl hs hv (.inl (hk x (.head _))) fun ad1 h1 t1 x1 hl1 hs1 => ?_)))
    refine storeAll he xs vs vr _ ad1 { s with heap := h1, toks := t1 } hl1 hs1 (VRels.mono hs x1 hl.dull _ _ hr) (by simpa using hlen) (fun y hy => hk y (.tail _ hy)) fun ad2 h2 t2 x2 hl2 hs2 => ?_
    exact hQ ad2 h2 t2 (x1.trans x2) hl2 hs2
  | [], _ :: _, _, _, _, _, _, _, _, h, _, _ => by simp at h
  | _ :: _, [], _, _, _, _, _, _, _, h, _, _ => by simp at h
theorem VRels.reverse {B : Heap} {ad : List Addr} {h : Heap} : ∀ {l : List MV} {vs : List Value}, VRels B ad h l vs → VRels B ad h l.reverse vs.reverse
  | [], _, e => by cases (e : _ = []); rfl
  | _ :: l, _, ⟨v, vr, e, hv, r⟩ => by
    subst e
    rw [List.reverse_cons, List.reverse_cons]
    exact VRels.append (VRels.reverse r) ⟨v, [], rfl, hv, rfl⟩
theorem Ex.assignSwap {ts : List Expr} {k : Nat} {tpos : Pos} {value : Expr} {pos : Pos} {f : EvF} {xs : List String} (h1 : Ev c n sc value f) (hs : ∀ env, EnvOk sc env → swapsWithSole [.Tuple ts k tpos] value pos.line env = pure false)
    (hw : ∀ env, EnvOk sc env → swappedStores [.Tuple ts k tpos] value env = pure (some (xs.map S))) (hk : ∀ x ∈ xs, sc.lookup (S x) = some .local) : Ex c n sc (.Assign [.Tuple ts k tpos] value pos) (xAssign f (aRev xs)) := by
  intro A env l ad H s fl l' H' Q E hr he hl hsr hf hQ
  obtain ⟨⟨v, H1⟩, e1, hf⟩ := Option.bind_eq_some_iff.mp hf
  obtain ⟨⟨l2, H2⟩, e2, hf⟩ := Option.map_eq_some_iff.mp hf
  cases hf
  refine Assign_Tuple_swapped (names := xs.map S) (h1 _ _ _ _ _ _ _ _ _ _ hr he hl hsr e1 fun ad1 v' h1 t1 x1 s1 v1 => ?_) (hs env he) (hw env he)
  dsimp only at e2
  unfold aRev at e2
  split at e2
  · rename_i vs
    split at e2
    · rename_i hlen
      cases e2
      obtain ⟨a, vs', rfl, ht, hvs⟩ := v1
      have e3 : (xs.map S).length = vs'.toArray.size := by rw [List.length_map, List.size_toArray, hvs.length, hlen]
      rw [e3]
      refine with_size (unpackItems_tuple hr.1 ht fun h' k sz => ?_)
      obtain ⟨hs', x⟩ := ext_of_unpacked s1 sz k
      have e4 : (xs.map S).reverse.map (fun n => bindName env n) = xs.reverse.map fun x => bindName env (S x) := by
        rw [← List.map_reverse, List.map_map]; rfl
      rw [e4]
      refine storeAll he xs.reverse vs.reverse _ l ad1 { s with heap := h', toks := t1 } ((hl.mono hsr x1).mono s1 x) hs' (VRels.reverse (VRels.mono s1 x (Dull.none _) _ _ hvs)) (by simp [hlen]) (fun y hy => hk y (List.mem_reverse.mp hy)) fun ad2 h2 t2 x2 l2 s2 => ?_
      exact hQ ad2 _ h2 t2 ((x1.trans x).weaken0.trans x2) l2 s2 rfl
    · cases e2
  · cases e2

noncomputable def xExpr (f : EvF) : ExF := fun l H => (f l H).map fun x => (.next, l, x.2)
theorem EnvOk.inter {env : Env} (he : EnvOk sc env) : interactive env = false := by
  unfold interactive; rw [he.kind]; rfl
theorem Ex.expr {e : Expr} {pos : Pos} {f : EvF} (h : Ev c n sc e f) (hs : ∀ env, swapsWith e none pos.line env = pure false := by intro _; rfl) : Ex c n sc (.Expr e pos) (xExpr f) := by
  intro A env l ad H s fl l' H' Q E hr he hl hsr hf hQ
  obtain ⟨⟨v, H1⟩, e1, hf⟩ := Option.map_eq_some_iff.mp hf
  cases hf
  refine wpAny_Expr_any (h _ _ _ _ _ _ _ _ _ _ hr he hl hsr e1 fun ad1 v' h1 t1 x1 s1 v1 => ?_) he.inter (hs env)
  exact hQ ad1 _ h1 t1 x1.weaken0 (hl.mono hsr x1) s1 rfl
noncomputable def xRet (f : EvF) : ExF := fun l H => (f l H).map fun x => (.ret x.1, l, x.2)
theorem Ex.ret {e : Expr} {pos : Pos} {f : EvF} (h : Ev c n sc e f) : Ex c n sc (.Return (some e) pos) (xRet f) := by
  intro A env l ad H s fl l' H' Q E hr he hl hsr hf hQ
  obtain ⟨⟨v, H1⟩, e1, hf⟩ := Option.map_eq_some_iff.mp hf
  cases hf
  refine wpAny_Return_some (h _ _ _ _ _ _ _ _ _ _ hr he hl hsr e1 fun ad1 v' h1 t1 x1 s1 v1 => ?_)
  exact hQ ad1 _ h1 t1 x1.weaken0 (hl.mono hsr x1) s1 ⟨v', rfl, v1⟩
noncomputable def xRet0 : ExF := fun l H => some (.ret .none, l, H)
theorem Ex.ret0 {pos : Pos} : Ex c n sc (.Return none pos) xRet0 := by
  intro A env l ad H s fl l' H' Q E hr he hl hsr hf hQ
  cases hf
  exact wpAny_Return_none (hQ ad _ s.heap s.toks (.refl ..) hl hsr ⟨_, rfl, rfl⟩)
noncomputable def xNil : ExF := fun l H => some (.next, l, H)
noncomputable def xCons (f g : ExF) : ExF := fun l H => (f l H).bind fun x => match x.1 with
  | .next => g x.2.1 x.2.2
  | .ret v => some (.ret v, x.2.1, x.2.2)
theorem Exs.nil : Exs c n sc [] xNil := by
  intro A env l ad H s fl l' H' Q E hr he hl hsr hf hQ
  cases hf
  exact wpAny_execs_nil (hQ ad _ s.heap s.toks (.refl ..) hl hsr rfl)
theorem Exs.cons {st : Stmt} {r : List Stmt} {f g : ExF} (h1 : Ex c n sc st f) (h2 : Exs c n sc r g) : Exs c n sc (st :: r) (xCons f g) := by
  intro A env l ad H s fl l' H' Q E hr he hl hsr hf hQ
  obtain ⟨⟨fl1, l1, H1⟩, e1, hf⟩ := Option.bind_eq_some_iff.mp hf
  refine wpAny_execs_cons (h1 _ _ _ _ _ _ _ _ _ _ _ hr he hl hsr e1 fun ad1 fl' h1 t1 x1 l1' s1 r1 => ?_)
  dsimp only at hf
  split at hf
  · cases (r1 : fl' = _)
    exact h2 _ _ _ _ _ _ _ _ _ _ _ hr he l1' s1 hf fun ad2 fl2 h2 t2 x2 l2 s2 r2 => hQ ad2 fl2 h2 t2 (x1.trans x2) l2 s2 r2
  · cases hf
    obtain ⟨v', q, hv⟩ := r1
    subst q
    exact hQ ad1 _ h1 t1 x1 l1' s1 ⟨v', rfl, hv⟩
noncomputable def xIf (t : TrF) (f g : ExF) : ExF := fun l H => (t l H).bind fun x => if x.1 = true then f l x.2 else g l x.2
theorem Ex.ite {t : Expr} {a b : List Stmt} {pos : Pos} {ft : TrF} {f g : ExF} (h1 : Tr c n sc t ft) (h2 : Exs c n sc a f) (h3 : Exs c n sc b g) : Ex c n sc (.If t a b pos) (xIf ft f g) := by
  intro A env l ad H s fl l' H' Q E hr he hl hsr hf hQ
  obtain ⟨⟨x, H1⟩, e1, hf⟩ := Option.bind_eq_some_iff.mp hf
  refine wpAny_If (h1 _ _ _ _ _ _ _ _ _ _ hr he hl hsr e1 fun ad1 h1 t1 x1 s1 => ?_)
  cases x with
  | true =>
    simp only [if_true] at hf ⊢
    exact h2 _ _ _ _ _ _ _ _ _ _ _ hr he (hl.mono hsr x1) s1 hf fun ad2 fl' h2 t2 x2 l2 s2 r2 => hQ ad2 fl' h2 t2 (x1.weaken0.trans x2) l2 s2 r2
  | false =>
    simp only [Bool.false_eq_true, if_false] at hf ⊢
    exact h3 _ _ _ _ _ _ _ _ _ _ _ hr he (hl.mono hsr x1) s1 hf fun ad2 fl' h2 t2 x2 l2 s2 r2 => hQ ad2 fl' h2 t2 (x1.weaken0.trans x2) l2 s2 r2
/-- at most k turns -/
noncomputable def whileF (t : TrF) (b : ExF) : Nat → ExF
  | 0 => fun _ _ => none
  | k + 1 => fun l H => (t l H).bind fun x => if x.1 = true then
      (b l x.2).bind fun y => match y.1 with
        | .next => whileF t b k y.2.1 y.2.2
        | .ret v => some (.ret v, y.2.1, y.2.2)
    else some (.next, l, x.2)
/-- a loop's state -/
inductive LSt (c : Cx) (env : Env) (own : Addr → Prop) (ad : List Addr) (s : Shared) (P : List Addr → Loc → MH → Heap → Prop) : Shared → Prop
  | mk (ad1 : List Addr) (l1 : Loc) (H1 : MH) (h1 : Heap) (t1 : Nat) (x : Ext own ad s.heap ad1 h1) (hl : LRel c env l1 ad1 h1) (hs : SRel c ad1 H1 h1) (p : P ad1 l1 H1 h1) : LSt c env own ad s P { s with heap := h1, toks := t1 }
theorem Ex.while {t : Expr} {b : List Stmt} {pos : Pos} {ft : TrF} {f : ExF} {k : Nat} (h1 : Tr c n sc t ft) (h2 : Exs c n sc b f) : Ex c n sc (.While t b [] pos) (whileF ft f k) := by
  intro A env l ad H s fl l' H' Q E hr he hl hsr hf hQ
  refine wpAny_While (codeAny_whileLoop (fun j s' => LSt c env (Own env) ad s (fun _ l1 H1 _ => whileF ft f j l1 H1 = some (fl, l', H')) s') ?_ k (.mk ad l H s.heap s.toks (.refl ..) hl hsr hf))
  rintro j s' ⟨ad1, l1, H1, h1', t1, x1, hl1, hs1, hf1⟩
  cases j with
  | zero => cases hf1
  | succ j =>
    unfold whileF at hf1
    obtain ⟨⟨x, H2⟩, e1, hf1⟩ := Option.bind_eq_some_iff.mp hf1
    refine h1 _ _ _ _ _ { s with heap := h1', toks := t1 } _ _ _ _ hr he hl1 hs1 e1 fun ad2 h2' t2 x2 s2 => ?_
    cases x with
    | false =>
      simp only [Bool.false_eq_true, if_false, Option.some.injEq, Prod.mk.injEq] at hf1 ⊢
      obtain ⟨rfl, rfl, rfl⟩ := hf1
      exact wpAny_execs_nil (hQ ad2 _ h2' t2 (x1.trans x2.weaken0) (hl1.mono hs1 x2) s2 rfl)
    | true =>
      simp only [if_true] at hf1 ⊢
      obtain ⟨⟨fl3, l3, H3⟩, e2, hf1⟩ := Option.bind_eq_some_iff.mp hf1
      refine h2 _ _ _ _ _ { s with heap := h2', toks := t2 } _ _ _ _ _ hr he (hl1.mono hs1 x2) s2 e2 fun ad3 fl' h3' t3 x3 l3' s3 r3 => ?_
      dsimp only at hf1
      split at hf1
      · cases (r3 : fl' = _)
        exact ⟨j, Nat.lt_succ_self j, .mk ad3 l3 H3 h3' t3 (x1.trans (x2.weaken0.trans x3)) l3' s3 hf1⟩
      · cases hf1
        obtain ⟨v', q, hv⟩ := r3
        subst q
        exact hQ ad3 _ h3' t3 (x1.trans (x2.weaken0.trans x3)) l3' s3 ⟨v', rfl, hv⟩
end
end Nt
end
section
open PySem PySem.W PySem.Spec PySem.Calls PyProof.Rows PySem.SeqAt
namespace Nt
/-! calls of the text's defs -/
theorem Binds.append {B : Heap} {ad : List Addr} {h : Heap} : ∀ {l l' : List (String × MV)} {b b' : List (Str × Value)}, Binds B ad h l b → Binds B ad h l' b' → Binds B ad h (l ++ l') (b ++ b')
  | [], _, _, _, e, r => by cases (e : _ = []); exact r
  | _ :: l, _, _, _, ⟨v, br, e, hv, q⟩, r => by subst e; exact ⟨v, br ++ _, rfl, hv, Binds.append q r⟩
theorem Binds.reverse {B : Heap} {ad : List Addr} {h : Heap} : ∀ {l : List (String × MV)} {b : List (Str × Value)}, Binds B ad h l b → Binds B ad h l.reverse b.reverse
  | [], _, e => by cases (e : _ = []); rfl
  | _ :: l, _, ⟨v, br, e, hv, q⟩ => by
    subst e
    rw [List.reverse_cons, List.reverse_cons]
    exact Binds.append (Binds.reverse q) ⟨v, [], rfl, hv, rfl⟩
theorem Binds.lookup {B : Heap} {ad : List Addr} {h : Heap} : ∀ {l : List (String × MV)} {b : List (Str × Value)}, Binds B ad h l b → ∀ {x : String} {v : MV}, l.lookup x = some v → ∃ v', b.lookup (S x) = some v' ∧ VRel B ad h v v'
  | [], _, _, _, _, e => by simp at e
  | (y, u) :: l, _, ⟨u', br, q, hv, r⟩, x, v, e => by
    subst q
    rw [List.lookup_cons] at e
    cases hxy : x == y with
    | true =>
      rw [hxy] at e; cases e
      have : x = y := by simpa using hxy
      subst this
      exact ⟨u', by simp, hv⟩
    | false =>
      rw [hxy] at e
      obtain ⟨v', q', hv'⟩ := Binds.lookup r e
      have : (S x == S y) = false := by
        have : x ≠ y := by simpa using hxy
        exact beq_eq_false_iff_ne.mpr fun z => this (S_inj z)
      exact ⟨v', by rw [List.lookup_cons, this]; exact q', hv'⟩
theorem Binds.zip {B : Heap} {ad : List Addr} {h : Heap} : ∀ {ps : List String} {l : List MV} {vs : List Value}, VRels B ad h l vs → Binds B ad h (ps.zip l) ((ps.map S).zip vs)
  | [], _, _, _ => by simp [Binds]
  | _ :: _, [], _, e => by cases (e : _ = []); simp [Binds]
  | p :: ps, _ :: l, _, ⟨v, vr, e, hv, r⟩ => by
    subst e
    exact ⟨v, (ps.map S).zip vr, rfl, hv, Binds.zip r⟩

noncomputable def fnF (ps : List String) (fb : ExF) : FnF := fun args H => if args.length = ps.length then (fb (ps.zip args).reverse H).map fun x => (match x.1 with | .ret v => v | .next => .none, x.2.2) else none

section
variable {c : Cx} {n : Nat}
theorem Room.deeper {A : Around} {env : Env} (h : Room (n + 1) A) : Room n (A.deeper env) := by
  obtain ⟨h1, h2, h3⟩ := h
  refine ⟨h1, ?_, ?_⟩
  · show A.depth + 1 + 5 * n < recursionLimit; omega
  · show A.units + 3 + 30 * n + 100 < cLine; omega
theorem Room.depth {A : Around} (h : Room n A) : A.depth < recursionLimit := by have := h.2.1; omega

theorem fn_back {ad : List Addr} {H' : MH} {s : Shared} {v : MV} {R : Result → Shared → Prop} {env : Env} {h₁ : Heap} {fl : Fl} {l' : Loc} {tk : Nat} (hv : v = (match fl with | .ret v => v | .next => .none))
    (hk : ∀ b o, s.heap.get? b = some o → h₁.get? b = some o) (sz : s.heap.objs.size ≤ h₁.objs.size) (fresh : ∀ a, Own env a → s.heap.objs.size ≤ a)
    (hQ : Back c ad s v H' (fun v' s' => R (.ok (.ret v')) s')) :
    After c env ad { s with heap := h₁, toks := tk } fl l' H' (fun f s' => R (.ok (.ret (match f with | .ret v => v | _ => .none))) s') := by
  intro ad' fl' h' tk' x l s' r
  have x0 : Ext0 ad s.heap ad' h' := by
    refine ⟨?_, fun b o e hb _ => x.keep b o (hk b o e) hb fun q => absurd (Heap.lt_size e) (Nat.not_lt.mpr (fresh b q)), Nat.le_trans sz x.size⟩
    obtain ⟨m, e, hm⟩ := x.more
    exact ⟨m, e, fun a ha => Nat.le_trans sz (hm a ha)⟩
  cases fl with
  | next => cases (r : fl' = _); subst hv; exact hQ ad' _ h' tk' x0 s' rfl
  | ret u =>
    obtain ⟨v', q, hv'⟩ := r
    subst q hv
    exact hQ ad' _ h' tk' x0 s' hv'

theorem Fn.plain {f : Addr} {ps : List String} {name qual : Str} {params : Arguments} {body : List Stmt} {scope : Scope} {dV kV doc pm cdv ct oc : Value} {an od : Option Addr} {osl : Array (Option Value)} {fb : ExF} (C : c.Ok)
    (ho : c.K.lookup f = some ⟨oc, od, .func (fnOf name qual params body scope dV kV doc pm an cdv ct), osl⟩) (hcd : codeIn c.K cdv qual = true)
    (hb : Exs c n scope.names body fb)
    (hbind : ∀ vals : List Value, vals.length = ps.length → bindArgs (fnOf name qual params body scope dV kV doc pm an cdv ct) ⟨vals, []⟩ = pure ((ps.map S).zip vals))
    (hloc : ∀ x ∈ ps, scope.names.lookup (S x) = some .local) (hcell : ∀ x ∈ scope.names, x.2 ≠ .cell)
    (hco : scope.isCoroutine = false := by rfl) (hgen : scope.isGenerator = false := by rfl) (hk : scope.kind = .function := by rfl) : Fn c (n + 1) (.ref f) (fnF ps fb) := by
  intro A ad H s args args' v H' R hr hs hv hf hQ
  unfold fnF at hf
  split at hf
  · rename_i hlen
    obtain ⟨⟨fl, l', H1⟩, e1, hf⟩ := Option.map_eq_some_iff.mp hf
    cases hf
    have X := C.inK.keeps hs.keep
    refine codeAny_call_def (fd := fnOf name qual params body scope dV kV doc pm an cdv ct) (body := body) (binds := (ps.map S).zip args') hr.depth (X _ _ ho) rfl (C.top.nolimit.keeps hs.keep) (codeRec_of X hcd) rfl
      (.of_eq (hbind args' (by rw [hv.length, hlen]))) hcell (fun y hy => ?_) (fun h₁ hns hk₁ => ?_) hco hgen hk
    · obtain ⟨x, hx, e⟩ := List.mem_map.mp (List.of_mem_zip hy).1
      rw [← e]; exact hloc x hx
    · have sz : s.heap.objs.size ≤ h₁.objs.size := Nat.le_of_lt hns.lt
      have x0 : Ext0 ad s.heap ad h₁ := Ext0.of hk₁ sz
      have hs₁ := hs.keeps hk₁ sz
      have he : EnvOk scope.names (callEnv (fnOf name qual params body scope dV kV doc pm an cdv ct) s.heap.objs.size f) := ⟨hk, rfl, rfl, rfl⟩
      have hB : Binds c.B ad h₁ (ps.zip args).reverse ((ps.map S).zip args').reverse := Binds.reverse (Binds.zip (VRels.mono hs x0 (Dull.none _) _ _ hv))
      have hl : LRel c (callEnv (fnOf name qual params body scope dV kV doc pm an cdv ct) s.heap.objs.size f) (ps.zip args).reverse ad h₁ := by
        refine ⟨⟨_, hns, fun x u e _ => hB.lookup e⟩, fun x u e k => ?_, fun y k => ?_, fun y a e => ?_, fun y z a e => ?_, fun hm => ?_, hs.bs⟩
        · exact absurd rfl (hcell _ (mem_of_lookup k))
        · exact absurd rfl (hcell _ (mem_of_lookup k))
        · cases e
        · cases e
        · exact Nat.lt_irrefl _ (hs.there _ hm)
      refine hb _ _ _ _ _ { s with heap := h₁, toks := s.toks + ((ps.map S).zip args').length } fl l' H1 _ _ hr.deeper he hl hs₁ e1 ?_
      refine fn_back rfl hk₁ sz (fun a ha => ?_) hQ
      rcases ha with rfl | ⟨y, hy⟩
      · exact Nat.le_refl _
      · cases hy
  · cases hf

/-- a frame with cells: what the arguments lay -/
theorem binds_cells {kindOf : Str → Option NameKind} {B : Heap} {ad : List Addr} {h : Heap} : ∀ {l : List (String × MV)} {b : List (Str × Value)} {acc : Loc} {m cm : Str → Option Value}, Binds B ad h l b →
    (∀ x v, acc.lookup x = some v → (kindOf (S x) = some .local → ∃ v', m (S x) = some v' ∧ VRel B ad h v v') ∧ (kindOf (S x) = some .cell → ∃ v', cm (S x) = some v' ∧ VRel B ad h v v')) →
    ∀ x v, (l.reverse ++ acc).lookup x = some v → (kindOf (S x) = some .local → ∃ v', bindL kindOf b m (S x) = some v' ∧ VRel B ad h v v') ∧ (kindOf (S x) = some .cell → ∃ v', bindC kindOf b cm (S x) = some v' ∧ VRel B ad h v v')
  | [], _, acc, m, cm, e, ha => by cases (e : _ = []); simpa [bindL, bindC] using ha
  | (y, u) :: l, _, acc, m, cm, ⟨u', br, q, hu, r⟩, ha => by
    subst q
    rw [List.reverse_cons, List.append_assoc, List.singleton_append]
    unfold bindL bindC
    refine binds_cells r fun x v e => ?_
    rw [List.lookup_cons] at e
    cases hxy : x == y with
    | true =>
      rw [hxy] at e; cases e
      have : x = y := by simpa using hxy
      subst this
      refine ⟨fun k => ⟨u', by rw [if_pos k]; simp, hu⟩, fun k => ⟨u', ?_, hu⟩⟩
      have : kindOf (S x) ≠ some .local := by rw [k]; decide
      rw [if_neg this]; simp
    | false =>
      rw [hxy] at e
      have hne : S x ≠ S y := fun z => by
        have : x ≠ y := by simpa using hxy
        exact this (S_inj z)
      obtain ⟨h1, h2⟩ := ha x v e
      refine ⟨fun k => ?_, fun k => ?_⟩
      · obtain ⟨v', q, hv⟩ := h1 k
        refine ⟨v', ?_, hv⟩
        split
        · simp only [if_neg hne]; exact q
        · exact q
      · obtain ⟨v', q, hv⟩ := h2 k
        refine ⟨v', ?_, hv⟩
        split
        · exact q
        · simp only [if_neg hne]; exact q

theorem cellsFrom_has {x : Str} {names : List (Str × NameKind)} (n : Nat) (h : names.lookup x = some .cell) : ∃ a, (cellsFrom n names []).lookup x = some a :=
  Option.isSome_iff_exists.mp (cellsFrom_some names n [] (.inl h))

theorem Fn.cells {f : Addr} {ps : List String} {name qual : Str} {params : Arguments} {body : List Stmt} {scope : Scope} {dV kV doc pm cdv ct oc : Value} {an od : Option Addr} {osl : Array (Option Value)} {fb : ExF} (C : c.Ok)
    (ho : c.K.lookup f = some ⟨oc, od, .func (fnOf name qual params body scope dV kV doc pm an cdv ct), osl⟩) (hcd : codeIn c.K cdv qual = true)
    (hb : Exs c n scope.names body fb)
    (hbind : ∀ vals : List Value, vals.length = ps.length → bindArgs (fnOf name qual params body scope dV kV doc pm an cdv ct) ⟨vals, []⟩ = pure ((ps.map S).zip vals))
    (hkind : ∀ x ∈ ps, scope.names.lookup (S x) = some .local ∨ scope.names.lookup (S x) = some .cell)
    (hco : scope.isCoroutine = false := by rfl) (hgen : scope.isGenerator = false := by rfl) (hk : scope.kind = .function := by rfl) : Fn c (n + 1) (.ref f) (fnF ps fb) := by
  intro A ad H s args args' v H' R hr hs hv hf hQ
  unfold fnF at hf
  split at hf
  · rename_i hlen
    obtain ⟨⟨fl, l', H1⟩, e1, hf⟩ := Option.map_eq_some_iff.mp hf
    cases hf
    have X := C.inK.keeps hs.keep
    refine codeAny_call_function (fd := fnOf name qual params body scope dV kV doc pm an cdv ct) (body := body) hr.depth (X _ _ ho) rfl hco hgen rfl (codeRec_of X hcd) ?_
    rw [hbind args' (by rw [hv.length, hlen])]
    refine wpAny_pure (wpAny_newFunctionEnv_cells hk (fun y hy => ?_) fun env henv s' x => ?_)
    · obtain ⟨z, hz, e⟩ := List.mem_map.mp (List.of_mem_zip hy).1
      rw [← e]
      rcases hkind z hz with q | q
      · exact .inl q
      · obtain ⟨a, ha⟩ := cellsFrom_has (s.heap.objs.size + 1) q
        exact .inr ⟨q, by rw [ha]; rfl⟩
    · have he : EnvOk scope.names env := by subst henv; exact ⟨hk, rfl, rfl, rfl⟩
      have hloc : env.locals = s.heap.objs.size := by subst henv; rfl
      have hcl : env.cells = cellsFrom (s.heap.objs.size + 1) scope.names [] := by subst henv; rfl
      obtain ⟨⟨h₁, tk, hs'⟩, hns, hk₁, hfr⟩ := x.toInCall
      subst hs'
      dsimp only at hns hk₁
      have sz : s.heap.objs.size ≤ h₁.objs.size := by have := hns.lt; rw [hloc] at this; exact Nat.le_of_lt this
      refine ⟨(C.top.nolimit.keeps hs.keep).keeps hk₁, codeAny_func ?_⟩
      have x0 : Ext0 ad s.heap ad h₁ := Ext0.of hk₁ sz
      have hs₁ := hs.keeps hk₁ sz
      have hB : Binds c.B ad h₁ (ps.zip args) ((ps.map S).zip args') := Binds.zip (VRels.mono hs x0 (Dull.none _) _ _ hv)
      have hBC := binds_cells (kindOf := env.kindOf) (acc := []) (m := fun _ => none) (cm := fun _ => none) hB (fun x v e => by simp at e)
      rw [List.append_nil] at hBC
      have above : ∀ y a, env.cells.lookup y = some a → s.heap.objs.size < a := fun y a e => by
        have := x.above y a (mem_of_lookup e); rwa [hloc] at this
      have hl : LRel c env (ps.zip args).reverse ad h₁ := by
        refine ⟨⟨_, hns, fun y u e k => (hBC y u e).1 k⟩, fun y u e k => ?_, fun y k => ?_, fun y a e => ?_, fun y z a e e' => ?_, fun hm => ?_, by rw [hloc]; exact hs.bs⟩
        · obtain ⟨v', q, hv'⟩ := (hBC y u e).2 k
          have k' : scope.names.lookup (S y) = some .cell := by unfold Env.kindOf at k; rw [he.names] at k; exact k
          obtain ⟨a, ha⟩ := cellsFrom_has (s.heap.objs.size + 1) k'
          rw [← hcl] at ha
          have := x.cell _ a ha
          rw [q] at this
          exact ⟨a, v', ha, this, hv'⟩
        · have k' : scope.names.lookup y = some .cell := by unfold Env.kindOf at k; rw [he.names] at k; exact k
          obtain ⟨a, ha⟩ := cellsFrom_has (s.heap.objs.size + 1) k'
          exact ⟨a, by rw [hcl]; exact ha⟩
        · have := above y a e
          exact ⟨⟨_, x.cell y a e⟩, fun hm => absurd (hs.there a hm) (Nat.not_lt.mpr (Nat.le_of_lt this)), Nat.le_trans hs.bs (Nat.le_of_lt this)⟩
        · exact name_of_addr x.apart (mem_of_lookup e) (mem_of_lookup e')
        · rw [hloc] at hm; exact Nat.lt_irrefl _ (hs.there _ hm)
      refine hb _ _ _ _ _ { s with heap := h₁, toks := tk } fl l' H1 _ _ hr.deeper he hl hs₁ e1 ?_
      refine fn_back rfl hk₁ sz (fun a ha => ?_) hQ
      rcases ha with rfl | ⟨y, hy⟩
      · rw [hloc]; exact Nat.le_refl _
      · exact Nat.le_of_lt (above y a hy)
  · cases hf

theorem Fn.weaken {f : Value} {g : FnF} {m : Nat} (h : Fn c n f g) (hm : n ≤ m) : Fn c m f g := fun A ad H s args args' v H' R hr => h A ad H s args args' v H' R
  ⟨hr.1, Nat.lt_of_le_of_lt (Nat.add_le_add_left (Nat.mul_le_mul_left 5 hm) _) hr.2.1, Nat.lt_of_le_of_lt (Nat.add_le_add_right (Nat.add_le_add_left (Nat.mul_le_mul_left 30 hm) _) _) hr.2.2⟩
theorem Fn.imp {f : Value} {g g' : FnF} (h : Fn c n f g) (hg : ∀ args H r, g' args H = some r → g args H = some r) : Fn c n f g' := fun A ad H s args args' v H' R hr hs hv hf hQ => h A ad H s args args' v H' R hr hs hv (hg _ _ _ hf) hQ

/-! arguments, calls by name -/
variable {sc : Scope'}
noncomputable def lNil : EvLF := fun _ H => some ([], H)
noncomputable def lCons (f : EvF) (g : EvLF) : EvLF := fun l H => (f l H).bind fun x => (g l x.2).map fun y => (x.1 :: y.1, y.2)
theorem EvL.nil : EvL c n sc [] lNil := by
  intro A env l ad H s vs H' pos Q E hr he hl hs hf hQ
  cases hf
  exact spliced_none (hQ ad [] s.heap s.toks (.refl ..) hs rfl)
theorem EvL.cons {e : Expr} {es : List Expr} {f : EvF} {g : EvLF} (h1 : Ev c n sc e f) (h2 : EvL c n sc es g) (hp : ∀ env, starEach (e :: es) env = (false, eval e env) :: starEach es env := by intro _; rfl) : EvL c n sc (e :: es) (lCons f g) := by
  intro A env l ad H s vs H' pos Q E hr he hl hs hf hQ
  obtain ⟨⟨x, H1⟩, e1, hf⟩ := Option.bind_eq_some_iff.mp hf
  obtain ⟨⟨y, H2⟩, e2, hf⟩ := Option.map_eq_some_iff.mp hf
  cases hf
  refine spliced_more (h1 _ _ _ _ _ _ _ _ _ _ hr he hl hs e1 fun ad1 x' h1 t1 x1 s1 v1 => ?_) (hp env)
  refine h2 _ _ _ _ _ { s with heap := h1, toks := t1 } _ _ _ _ _ hr he (hl.mono hs x1) s1 e2 fun ad2 y' h2 t2 x2 s2 v2 => ?_
  exact hQ ad2 _ h2 t2 (x1.trans x2) s2 ⟨x', y', rfl, VRel.mono s1 x2 (Dull.none _) _ _ v1, v2⟩

/-- a call of a value -/
noncomputable def Cal (c : Cx) (n : Nat) (f : Value) (g : FnF) : Prop :=
  ∀ (A : Around) (ad : List Addr) (H : MH) (s : Shared) (vs : List MV) (vs' : List Value) (v : MV) (H' : MH) (Q E : Value → Shared → Prop), Room n A → SRel c ad H s.heap → VRels c.B ad s.heap vs vs' → g vs H = some (v, H') → Back c ad s v H' Q →
    wpAny (model c.prog c.w) A (call f vs') Q E s
theorem Cal.ofFn {f : Value} {g : FnF} (h : Fn c n f g) : Cal c n f g := by
  intro A ad H s vs vs' v H' Q E hr hs hv hf hQ
  exact wpAny_call (h A ad H s vs vs' v H' _ hr hs hv hf hQ)
theorem Cal.imp {f : Value} {g g' : FnF} (h : Cal c n f g) (hg : ∀ args H r, g' args H = some r → g args H = some r) : Cal c n f g' := fun A ad H s vs vs' v H' Q E hr hs hv hf hQ => h A ad H s vs vs' v H' Q E hr hs hv (hg _ _ _ hf) hQ

/-- a value that is called as functions, methods of built-ins and classes are -/
noncomputable def Keeps' (c : Cx) (f : Value) : Prop := ∀ h, c.K.In h → ∃ k, (k = Keeper.frame ∨ k = Keeper.machine ∨ k = Keeper.boundFrame) ∧ Looks (model c.prog c.w) h (keeperOf f) k
theorem Keeps'.ofK {f : Value} (h : keepIn c.K f = true) : Keeps' c f := fun hp X => keeps_K h hp X
theorem Keeps'.builtin {i : String} : Keeps' c (.builtin i) := fun _ _ => ⟨.machine, .inr (.inl rfl), Looks.of_pure rfl⟩
theorem Keeps'.type {i : String} : Keeps' c (.type i) := fun _ _ => ⟨.machine, .inr (.inl rfl), Looks.of_pure rfl⟩

noncomputable def NoStar (es : List Expr) : Prop := ∀ env, starEach es env = es.map fun e => (false, eval e env)
theorem backTo_plain {es : List Expr} (hp : NoStar es) (env : Env) (pos : Pos) : backTo pos (starEach es env) = es.map fun e => (false, eval e env) := by
  rw [hp env]
  unfold backTo
  rw [List.map_map]
  rfl
theorem any_plain (es : List Expr) (env : Env) : ((es.map fun e => (false, eval e env)).any fun x => x.1) = false := by
  induction es with
  | nil => rfl
  | cons e r ih => simp only [List.map_cons, List.any_cons, Bool.false_or]; exact ih
theorem callW {f : Value} {es : List Expr} {first : List Value} {A : Around} {env : Env} {pos : Pos} {s : Shared} {Q E : Value → Shared → Prop} (hk : Keeps' c f) (hp : NoStar es)
    (h : wpAny (model c.prog c.w) A (spliced (backTo pos (starEach es env))) (fun vs s₁ => c.K.In s₁.heap ∧ wpAny (model c.prog c.w) A (call f (first ++ vs)) Q E s₁) E s) :
    wpAny (model c.prog c.w) A (callWith pos f first (backTo pos (starEach es env)) []) Q E s := by
  rw [backTo_plain hp] at h ⊢
  refine callWith_of (P := fun h => c.K.In h) (by rw [any_plain]; rfl) hk ?_
  cases es with
  | nil =>
    unfold evalArgs
    show wpAny _ _ (spliced [] >>= _) _ _ _
    refine wpAny_bind (wpAny_mono h (fun vs s₁ h₁ => wpAny_bind (wpAny_pure ?_)) fun _ _ x => x)
    refine wpAny_holding ?_
    exact wpAny_bind (wpAny_pure (wpAny_bind (wpAny_pure (wpAny_pure h₁))))
  | cons e r => exact evalArgs_plain h
end
end Nt
end
section
open PySem PySem.W PySem.Spec PySem.Calls PyProof.Rows PySem.SeqAt
namespace Nt
section
variable {c : Cx} {n : Nat} {sc : Scope'}
/-! a call by name -/
noncomputable def eCall (g : FnF) (fa : EvLF) : EvF := fun l H => (fa l H).bind fun x => g x.1 x.2
theorem Ev.call {x : Str} {np pos : Pos} {es : List Expr} {fv : Value} {g : FnF} {fa : EvLF} (C : c.Ok) (hf : Ev c n sc (.Name x np) (eC (.raw fv))) (hk : Keeps' c fv) (hc : Cal c n fv g) (ha : EvL c n sc es fa) (hp : NoStar es := by intro _; rfl) :
    Ev c n sc (.Call (.Name x np) es [] pos) (eCall g fa) := by
  intro A env l ad H s v H' Q E hr he hl hs hf' hQ
  obtain ⟨⟨vs, H1⟩, e1, hf'⟩ := Option.bind_eq_some_iff.mp hf'
  show wpAny _ _ (do callWith pos (← eval (.Name x np) env) [] (backTo pos (starEach es env)) []) _ _ _
  refine wpAny_bind (hf _ _ _ _ _ _ _ _ _ _ hr he hl hs rfl fun ad1 f' h1 t1 x1 s1 v1 => ?_)
  cases (v1 : f' = fv)
  refine callW hk hp (ha _ _ _ _ _ { s with heap := h1, toks := t1 } _ _ _ _ _ hr he (hl.mono hs x1) s1 e1 fun ad2 vs' h2 t2 x2 s2 v2 => ?_)
  exact ⟨C.inK.keeps s2.keep, hc _ _ _ { s with heap := h2, toks := t2 } _ _ _ _ _ _ hr s2 v2 hf' fun ad3 v' h3 t3 x3 s3 v3 => hQ ad3 v' h3 t3 (x1.trans (x2.trans x3)) s3 v3⟩

/-! instances -/
structure ClsOk (c : Cx) (C : Addr) : Prop where
  cd : (clsIn c.K C).any (·.hasDict) = true
  ga : findIn c.K (.ref C) "__getattribute__" = some (some (.builtin "object.__getattribute__"))
  hook : findIn c.K (.ref C) "__getattr__" = some none
  sa : findIn c.K (.ref C) "__setattr__" = some (some (.builtin "object.__setattr__"))
  over : plainOver c.K C = true
  makes : makesIn c.K C = true

noncomputable def instD (C : Addr) (o : MV) (H : MH) : Option (Nat × List (String × MV)) := match o with
  | .ref m => match H[m]? with
    | some (.inst C' d) => if C' = C then (match H[d]? with
        | some (.attrs l) => some (d, l)
        | _ => none) else none
    | _ => none
  | _ => none
theorem lookIn_ns {o : Obj} {es : Array DictEntry} {ep : Nat} {name : Str} (hd : o.data = .dict es ep) (hk : StrKeys es) : lookIn name o = some (nsFind es name) := by
  unfold lookIn nsFind findBy
  rw [hd]
  dsimp only
  rw [← Array.find?_toList]
  cases e : es.toList.find? (fun x => x.key.isStr name) with
  | some x => rfl
  | none =>
    dsimp only
    have : es.toList.any (fun x => x.refKey) = false := by
      rw [List.any_eq_false]
      intro x hx
      obtain ⟨k, t, q⟩ := hk x (Array.mem_toList_iff.mp hx)
      simp [DictEntry.refKey, q]
    rw [this]; rfl
/-- what the heap holds of an object -/
theorem instD_some {ad : List Addr} {H : MH} {s : Shared} {C : Addr} {o : MV} {o' : Value} {d : Nat} {l : List (String × MV)} (R : SRel c ad H s.heap) (hv : VRel c.B ad s.heap o o') (h : instD C o H = some (d, l)) :
    ∃ x dx m od es ep, o' = .ref x ∧ ad[d]? = some dx ∧ H[d]? = some (.attrs l) ∧ s.heap.Ns1 dx m ∧ InstAt s.heap x (instObj C dx) C (some od) ∧ od.data = .dict es ep ∧ StrKeys es ∧ (∀ name, nsFind es name = m name) ∧ s.heap.get? dx = some od ∧
      (∀ y v, l.lookup y = some v → ∃ v', m (S y) = some v' ∧ VRel c.B ad s.heap v v') ∧ Within m (l.map fun p => S p.1) := by
  unfold instD at h
  split at h
  · rename_i m
    split at h
    · rename_i C' d' hm
      split at h
      · rename_i hC
        subst hC
        split at h
        · rename_i l' hd
          cases h
          obtain ⟨x, hx, rfl⟩ := hv
          obtain ⟨dx, hdx, ho⟩ := R.obj m _ x hm hx
          obtain ⟨mm, hn, q2, q1⟩ := R.obj d _ dx hd hdx
          have hn' := hn
          obtain ⟨od, es, ep, e1, e2, e3, _, e4⟩ := hn'
          exact ⟨x, dx, mm, od, es, ep, rfl, hdx, hd, hn, ⟨ho, rfl, rfl, e1⟩, e2, e3, e4, e1, q1, q2⟩
        · cases h
      · cases h
    · cases h
  · cases h

noncomputable def isData : MV → Bool
  | .raw _ => false
  | _ => true
theorem handed_data {B : Heap} {ad : List Addr} {h : Heap} {v : MV} {v' : Value} (hv : VRel B ad h v v') (hd : isData v = true) : handedIn v' = true := by
  cases v with
  | none => cases hv; rfl
  | bool b => cases hv; rfl
  | int i => obtain ⟨t, rfl⟩ := hv; rfl
  | str i => obtain ⟨t, rfl⟩ := hv; rfl
  | ref m => obtain ⟨a, _, rfl⟩ := hv; rfl
  | tup m => obtain ⟨a, _, rfl, _⟩ := hv; rfl
  | lst m => obtain ⟨a, _, rfl, _⟩ := hv; rfl
  | rng a b => obtain ⟨r, _, _, _, rfl, _⟩ := hv; rfl
  | raw r => cases hd

noncomputable def eAttr (C : Addr) (x : String) (f : EvF) : EvF := fun l H => (f l H).bind fun y => (instD C y.1 y.2).bind fun d => (d.2.lookup x).bind fun v => if isData v = true then some (v, y.2) else none
theorem Ev.attr {C : Addr} {x : String} {e : Expr} {pos : Pos} {f : EvF} (Ok : c.Ok) (K : ClsOk c C) (hx : findIn c.K (.ref C) (S x) = some none) (h : Ev c n sc e f)
    (he : ∀ env, eval (.Attribute e (S x) pos) env = (do
      let o ← eval e env
      standAt pos.atName
      let r ← holding [o] (getAttr o (S x) true)
      letTemporaryGo e o r
      pure r) := by intro _; with_unfolding_all rfl) : Ev c n sc (.Attribute e (S x) pos) (eAttr C x f) := by
  intro A env l ad H s v H' Q E hr hev hl hs hf hQ
  obtain ⟨⟨o, H1⟩, e1, hf⟩ := Option.bind_eq_some_iff.mp hf
  obtain ⟨⟨d, fs⟩, e2, hf⟩ := Option.bind_eq_some_iff.mp hf
  obtain ⟨u, e3, hf⟩ := Option.bind_eq_some_iff.mp hf
  split at hf
  · rename_i hdat
    cases hf
    refine Attribute_any_ (h _ _ _ _ _ _ _ _ _ _ hr hev hl hs e1 fun ad1 o' h1 t1 x1 s1 v1 => ?_) (he env)
    obtain ⟨xa, dx, m, od, es, ep, rfl, hdx, _, hn, I, hod, hk, hm, _, q1, q2⟩ := instD_some (s := { s with heap := h1, toks := t1 }) s1 v1 e2
    obtain ⟨u', hu, hv⟩ := q1 x _ e3
    obtain ⟨cd, hcd, hdict⟩ := any_some K.cd
    have hfind : findObj c.K C (some od) (S x) = some (.value u') := by
      unfold findObj
      rw [hcd, Option.bind_some, hx, Option.bind_some]
      dsimp only
      rw [Option.bind_some, Option.bind_some]
      dsimp only
      unfold W.ownOf
      rw [if_pos hdict]
      dsimp only
      rw [lookIn_ns hod hk, hm, hu]
      rfl
    exact get_value (s := { s with heap := h1, toks := t1 }) (Ok.inK.keeps s1.keep) I K.ga hfind (handed_data hv hdat) (hQ ad1 u' h1 _ x1 s1 hv)
  · cases hf

/-- a field is set -/
noncomputable def putAttr (C : Addr) (x : String) (v o : MV) (H : MH) : Option MH := (instD C o H).bind fun d => if d.2.length ≤ 1000 then some (H.set d.1 (.attrs (setKV x v d.2))) else none
theorem keys_setKV (x : String) (v : MV) : ∀ (l : List (String × MV)) (y : String), (y = x ∨ y ∈ l.map (·.1)) → y ∈ (setKV x v l).map (·.1)
  | [], y, h => by
    rcases h with rfl | h
    · simp [setKV]
    · simp at h
  | (j, u) :: r, y, h => by
    unfold setKV
    split
    · rename_i hj
      rcases h with rfl | h
      · simp
      · rw [List.map_cons, List.mem_cons] at h ⊢
        rcases h with h | h
        · exact .inl (h.trans hj)
        · exact .inr h
    · rw [List.map_cons, List.mem_cons]
      rcases h with h | h
      · exact .inr (keys_setKV x v r y (.inl h))
      · rw [List.map_cons, List.mem_cons] at h
        rcases h with h | h
        · exact .inl h
        · exact .inr (keys_setKV x v r y (.inr h))
theorem within_setKV {m : Str → Option Value} {l : List (String × MV)} {x : String} {v : MV} {v' : Value} (h : Within m (l.map fun p => S p.1)) : Within (fun y => if y = S x then some v' else m y) ((setKV x v l).map fun p => S p.1) := by
  intro y hy
  have e : ∀ k : List (String × MV), (k.map fun p => S p.1) = (k.map (·.1)).map S := fun k => by rw [List.map_map]; rfl
  rw [e]
  by_cases hx : y = S x
  · subst hx
    exact List.mem_map_of_mem (keys_setKV x v l x (.inl rfl))
  · have := h y (by simpa [hx] using hy)
    rw [e] at this
    obtain ⟨z, hz, rfl⟩ := List.mem_map.mp this
    exact List.mem_map_of_mem (keys_setKV x v l z (.inr hz))
theorem within_none {m : Str → Option Value} {l : List (String × MV)} {x : String} (h : Within m (l.map fun p => S p.1)) (e : l.lookup x = none) : m (S x) = none := by
  cases q : m (S x) with
  | none => rfl
  | some v =>
    obtain ⟨p, hp, hp'⟩ := List.mem_map.mp (h (S x) (by rw [q]; intro z; cases z))
    have := S_inj hp'
    subst this
    exact absurd e (by
      intro e
      have := List.lookup_eq_none_iff.mp e p hp
      simp at this)
theorem set_attr {C : Addr} {x : String} {A : Around} {ad : List Addr} {H : MH} {s : Shared} {o v : MV} {o' v' : Value} {H' : MH} {Q : Unit → Shared → Prop} {E : Value → Shared → Prop} (Ok : c.Ok) (K : ClsOk c C) (hx : findIn c.K (.ref C) (S x) = some none)
    (hs : SRel c ad H s.heap) (ho : VRel c.B ad s.heap o o') (hv : VRel c.B ad s.heap v v') (hf : putAttr C x v o H = some H') (hQ : ∀ h' tk', Ext0 ad s.heap ad h' → SRel c ad H' h' → Q () { s with heap := h', toks := tk' }) :
    wpAny (model c.prog c.w) A (setAttr o' (S x) v') Q E s := by
  obtain ⟨⟨d, fs⟩, e2, hf⟩ := Option.bind_eq_some_iff.mp hf
  split at hf
  · rename_i hlen
    cases hf
    obtain ⟨xa, dx, m, od, es, ep, rfl, hdx, hd, hn, I, hod, hk, hm, hat, q1, q2⟩ := instD_some hs ho e2
    have X := Ok.inK.keeps hs.keep
    refine set_plain X I K.sa ?_
    have ht : takerIn c.K C (S x) = some none := by unfold takerIn; rw [hx]; rfl
    refine osa_open (s := { s with toks := s.toks + 1 }) X I K.over ht fun b => ?_
    obtain ⟨cd, hc, hdict⟩ := any_some K.cd
    refine wpAny_bind (wpAny_pure (wpAny_bind (wpAny_bind (wpAny_loadPart I.at_ (wpAny_bind (Looks.at (looks_clsIn (M := model c.prog c.w) X hc) ?_))))))
    rw [hdict]
    refine wpAny_pure (a := some dx) ?_
    show wpAny _ _ (Builtin.ObjectAttr.storeInDict dx _ _ _) _ _ _
    unfold Builtin.ObjectAttr.storeInDict Builtin.ObjectAttr.newKeyGuard
    refine wpAny_bind (wpAny_pure (wpAny_bind (wpAny_nsSet1 (s := { s with toks := s.toks + 1 }) hn fun h' hn' sb => ?_)))
    have hw := within_setKV (x := x) (v := v) (v' := v') q2
    have len : ∀ l : List (String × MV), (setKV x v l).length ≤ l.length + 1 := by
      intro l
      induction l with
      | nil => simp [setKV]
      | cons p r ih =>
        obtain ⟨j, u⟩ := p
        unfold setKV
        split
        · simp
        · simpa using ih
    obtain ⟨oD, esD, epD, hoD, hdD, hcD⟩ := hn'.count hw
    have k : ∀ b ob, b ≠ dx → s.heap.get? b = some ob → h'.get? b = some ob := fun b ob hb e => (sb.2 b hb).trans e
    have x0 : Ext0 ad s.heap ad h' := ⟨⟨[], by simp, fun _ hm => nomatch hm⟩, fun b o e hb _ => k b o (fun q => hb (q ▸ List.mem_of_getElem? hdx)) e, Nat.le_of_eq sb.1.symm⟩
    obtain ⟨hs', x'⟩ := hs.set (o' := .attrs (setKV x v fs)) hdx k (Nat.le_of_eq sb.1.symm) ⟨_, hn', hw, fun y u e => by
      rw [lookup_setKV] at e
      by_cases hy : y = x
      · rw [if_pos hy] at e; cases e
        exact ⟨v', by rw [if_pos (S_eq.mpr hy)], VRel.mono hs x0 (Dull.none _) _ _ hv⟩
      · rw [if_neg hy] at e
        obtain ⟨u', q, r⟩ := q1 y u e
        exact ⟨u', by rw [if_neg (fun z => hy (S_inj z))]; exact q, VRel.mono hs x0 (Dull.none _) _ _ r⟩⟩
    refine wpAny_bind (wpAny_lookBehind (s := { s with heap := h', toks := s.toks + 1 + 1 }) hoD (by rw [hdD]; exact pastItsLine_dict (Nat.le_trans hcD (by rw [List.length_map, sizeLine_eq]; have := len fs; dsimp only at hlen; omega))) ?_)
    exact wpAny_pure (hQ h' _ x' hs')
  · cases hf
noncomputable def aAttr (C : Addr) (x : String) (f : EvF) : AsF := fun v l H => (f l H).bind fun y => (putAttr C x v y.1 y.2).map fun H' => (l, H')
theorem As.attr {C : Addr} {x : String} {e : Expr} {pos : Pos} {f : EvF} (Ok : c.Ok) (K : ClsOk c C) (hx : findIn c.K (.ref C) (S x) = some none) (h : Ev c n sc e f) : As c n sc (.Attribute e (S x) pos) (aAttr C x f) := by
  intro A env l ad H s v v' l' H' Q E hr he hl hs hv hf hQ
  obtain ⟨⟨o, H1⟩, e1, hf⟩ := Option.bind_eq_some_iff.mp hf
  obtain ⟨H2, e2, hf⟩ := Option.map_eq_some_iff.mp hf
  cases hf
  rw [arm_assign_Attribute]
  refine wpAny_bind (wpAny_holding (h _ _ _ _ _ _ _ _ _ _ hr he hl hs e1 fun ad1 o' h1 t1 x1 s1 v1 => ?_))
  refine wpAny_bind (wpAny_standAt (wpAny_bind (wpAny_holding (set_attr (s := { s with heap := h1, toks := t1 }) Ok K hx s1 v1 (VRel.mono hs x1 (Dull.none _) _ _ hv) e2 fun h2 t2 x2 s2 => ?_))))
  exact wpAny_release' (hQ ad1 h2 t2 (x1.trans x2).weaken0 (hl.mono hs (x1.trans x2)) s2)
end
end Nt
end
section
open PySem PySem.W PySem.Spec PySem.Calls PyProof.Rows PySem.SeqAt
namespace Nt
theorem VRels.cons {B : Heap} {ad : List Addr} {h : Heap} {x : MV} {v : Value} {l : List MV} {vs : List Value} (hv : VRel B ad h x v) (hr : VRels B ad h l vs) : VRels B ad h (x :: l) (v :: vs) := ⟨v, vs, rfl, hv, hr⟩
section
variable {c : Cx} {n : Nat} {sc : Scope'}
/-! methods of own classes -/
/-- a method call in the text: what it is -/
noncomputable def MethEq (o : Expr) (x : Str) (apos : Pos) (es : List Expr) (pos : Pos) (pl : Env → Sem Bool) : Prop := ∀ env, eval (.Call (.Attribute o x apos) es [] pos) env = (do
      let ov ← eval o env
      standAt apos.atName
      let (f, first) ← holding [ov] (getMethod ov x (pl env))
      callWith pos f first (backTo pos (starEach es env)) [])

noncomputable def eMeth (C : Addr) (x : String) (g : FnF) (f : EvF) (fa : EvLF) : EvF := fun l H => (f l H).bind fun y => (instD C y.1 y.2).bind fun d => if (d.2.lookup x).isNone = true then (fa l y.2).bind fun z => g (y.1 :: z.1) z.2 else none
theorem Ev.meth {C fn : Addr} {x : String} {o : Expr} {apos pos : Pos} {es : List Expr} {g : FnF} {f : EvF} {fa : EvLF} {pl : Env → Sem Bool} (Ok : c.Ok) (K : ClsOk c C) (hm : findIn c.K (.ref C) (S x) = some (some (.ref fn))) (ht : typeIn c.K (.ref fn) = some (.type "function"))
    (hk : keepIn c.K (.ref fn) = true) (hc : Cal c n (.ref fn) g) (ho : Ev c n sc o f) (ha : EvL c n sc es fa) (he : MethEq o (S x) apos es pos pl) (hp : NoStar es := by intro _; rfl) : Ev c n sc (.Call (.Attribute o (S x) apos) es [] pos) (eMeth C x g f fa) := by
  intro A env l ad H s v H' Q E hr hev hl hs hf hQ
  obtain ⟨⟨o, H1⟩, e1, hf⟩ := Option.bind_eq_some_iff.mp hf
  obtain ⟨⟨d, fs⟩, e2, hf⟩ := Option.bind_eq_some_iff.mp hf
  split at hf
  · rename_i hnone
    obtain ⟨⟨vs, H2⟩, e3, hf⟩ := Option.bind_eq_some_iff.mp hf
    refine MethodCall_ (ho _ _ _ _ _ _ _ _ _ _ hr hev hl hs e1 fun ad1 o' h1 t1 x1 s1 v1 => ?_) (he env)
    obtain ⟨xa, dx, m, od, es', ep, rfl, hdx, _, hn, I, hod, hsk, hmm, _, q1, q2⟩ := instD_some (s := { s with heap := h1, toks := t1 }) s1 v1 e2
    have X := Ok.inK.keeps s1.keep
    have hsh : shadowIn (some od) (S x) = some false := by
      unfold shadowIn
      dsimp only
      rw [lookIn_ns hod hsk, hmm, within_none q2 (Option.isNone_iff_eq_none.mp hnone)]
      rfl
    refine method_fn (s := { s with heap := h1, toks := t1 }) X I K.ga K.hook hm ht hsh ?_
    refine callW (.ofK hk) hp (ha _ _ _ _ _ { s with heap := h1, toks := t1 } _ _ _ _ _ hr hev (hl.mono hs x1) s1 e3 fun ad2 vs' h2 t2 x2 s2 v2 => ?_)
    refine ⟨Ok.inK.keeps s2.keep, hc _ _ _ { s with heap := h2, toks := t2 } _ _ _ _ _ _ hr s2 (VRels.cons (VRel.mono s1 x2 (Dull.none _) _ _ v1) v2) hf fun ad3 v' h3 t3 x3 s3 v3 => ?_⟩
    exact hQ ad3 v' h3 t3 (x1.trans (x2.trans x3)) s3 v3
  · cases hf

/-! an object is made -/
noncomputable def newF (C : Addr) (g : FnF) : FnF := fun args H => (g (.ref (H.length + 1) :: args) (H ++ [.attrs [], .inst C H.length])).bind fun x => match x.1 with
  | .none => some (.ref (H.length + 1), x.2)
  | _ => none
theorem Room.make {A : Around} {C : Addr} {vals : List Value} {kw : List (Str × Value)} (h : Room (n + 1) A) : Room n (A.under (.builtin "type.__call__" ⟨.ref C :: vals, kw⟩)) := by
  obtain ⟨h1, h2, h3⟩ := h
  refine ⟨h1, ?_, ?_⟩
  · show A.depth + 1 + 5 * n < recursionLimit; omega
  · show A.units + 1 + 30 * n + 100 < cLine; omega
theorem Fn.make {C fI : Addr} {g : FnF} (Ok : c.Ok) (K : ClsOk c C) (hi : findIn c.K (.ref C) "__init__" = some (some (.ref fI))) (hf : typeIn c.K (.ref fI) = some (.type "function")) (hg : Fn c n (.ref fI) g) : Fn c (n + 1) (.ref C) (newF C g) := by
  intro A ad H s args args' v H' R hr hs hv hfn hQ
  unfold newF at hfn
  obtain ⟨⟨u, H1⟩, e1, hfn⟩ := Option.bind_eq_some_iff.mp hfn
  dsimp only at hfn
  split at hfn
  · cases hfn
    have X := Ok.inK.keeps hs.keep
    obtain ⟨h, gs, dr, t, os⟩ := s
    dsimp only at hs hv hQ X
    -- the dict
    have k1 : ∀ b o, h.get? b = some o → (h.push emptyDict).get? b = some o := fun b o e => Heap.get?_push_of_some _ e
    have z1 : (h.push emptyDict).objs.size = h.objs.size + 1 := Heap.size_push ..
    obtain ⟨s1, x1⟩ := hs.push (o' := .attrs []) (Nat.le_refl _) k1 (by rw [z1]; exact Nat.le_succ _) (fun _ _ => ⟨fun _ => none, Heap.Ns1.of_empty (Heap.Ns.new h (.type "dict")), fun y hy => absurd rfl hy, fun x v e => by simp at e⟩) hs.there
    have hg1 : (h.push emptyDict).get? h.objs.size = some emptyDict := Heap.get?_push_size _ rfl
    have k2 : ∀ b o, (h.push emptyDict).get? b = some o → ((h.push emptyDict).push (instObj C h.objs.size)).get? b = some o := fun b o e => Heap.get?_push_of_some _ e
    have z2 : ((h.push emptyDict).push (instObj C h.objs.size)).objs.size = h.objs.size + 2 := by rw [Heap.size_push, z1]
    have hd : (ad ++ [h.objs.size])[H.length]? = some h.objs.size := by rw [← hs.len]; simp
    obtain ⟨s2, x2⟩ := s1.push (o' := .inst C H.length) (a := h.objs.size + 1) (by rw [z1]; exact Nat.le_refl _) k2 (by rw [z1, z2]; omega) (fun _ x => ⟨h.objs.size, x.get hd, by
      have := Heap.get?_push_size (h.push emptyDict) (o := instObj C h.objs.size) rfl
      rw [z1] at this; exact this⟩) s1.there
    refine make_core (makes_of X K.makes) (looks_findIn X hi) (fun self => bind_fn X self hf) (.inl rfl) ?_
    have hx : ((ad ++ [h.objs.size]) ++ [h.objs.size + 1])[H.length + 1]? = some (h.objs.size + 1) := by rw [← hs.len]; simp
    have eH : H ++ [.attrs [], .inst C H.length] = (H ++ [.attrs []]) ++ [.inst C H.length] := by simp
    rw [eH] at e1
    refine hg _ _ _ ⟨_, gs, dr, t, os⟩ _ _ _ _ _ hr.make s2 (VRels.cons (x := .ref (H.length + 1)) ⟨_, hx, rfl⟩ (VRels.mono hs (x1.trans x2) (Dull.none _) _ _ hv)) e1 fun ad3 v' h3 t3 x3 s3 v3 => ?_
    exact ⟨v3, hQ ad3 _ h3 t3 (x1.trans (x2.trans x3)) s3 ⟨_, x3.get hx, rfl⟩⟩
  · cases hfn

/-! methods of lists -/
noncomputable def listD (o : MV) (H : MH) : Option (Nat × List MV) := match o with
  | .ref m => match H[m]? with
    | some (.list l) => some (m, l)
    | _ => none
  | _ => none
theorem listD_some {ad : List Addr} {H : MH} {h : Heap} {o : MV} {o' : Value} {m : Nat} {l : List MV} (R : SRel c ad H h) (hv : VRel c.B ad h o o') (e : listD o H = some (m, l)) :
    ∃ a vs k, o = .ref m ∧ o' = .ref a ∧ ad[m]? = some a ∧ H[m]? = some (.list l) ∧ h.get? a = some { cls := .type "list", data := .seq vs k } ∧ VRels c.B ad h l vs.toList := by
  unfold listD at e
  split at e
  · split at e
    · rename_i l' hm
      cases e
      obtain ⟨a, ha, rfl⟩ := hv
      obtain ⟨vs, ⟨k, ho⟩, q⟩ := R.obj _ _ a hm ha
      exact ⟨a, vs.toArray, k, rfl, rfl, ha, hm, ho, by simpa using q⟩
    · cases e
  · cases e
/-- a method of a built-in type, bound to a list -/
structure ListMeth (c : Cx) (n : Nat) (x : String) (id : String) (g : FnF) : Prop where
  slot : Slot "list" (S x) id
  ty : typeOf (.builtin id) = pure (.type "method_descriptor")
  cal : Cal c n (.builtin id) g
noncomputable def eMethL (g : FnF) (f : EvF) (fa : EvLF) : EvF := fun l H => (f l H).bind fun y => (listD y.1 y.2).bind fun _ => (fa l y.2).bind fun z => g (y.1 :: z.1) z.2
theorem Ev.methL {x id : String} {o : Expr} {apos pos : Pos} {es : List Expr} {g : FnF} {f : EvF} {fa : EvLF} {pl : Env → Sem Bool} (Ok : c.Ok) (hm : ListMeth c n x id g) (ho : Ev c n sc o f) (ha : EvL c n sc es fa) (he : MethEq o (S x) apos es pos pl) (hp : NoStar es := by intro _; rfl) :
    Ev c n sc (.Call (.Attribute o (S x) apos) es [] pos) (eMethL g f fa) := by
  intro A env l ad H s v H' Q E hr hev hl hs hf hQ
  obtain ⟨⟨o, H1⟩, e1, hf⟩ := Option.bind_eq_some_iff.mp hf
  obtain ⟨⟨d, fs⟩, e2, hf⟩ := Option.bind_eq_some_iff.mp hf
  obtain ⟨⟨vs, H2⟩, e3, hf⟩ := Option.bind_eq_some_iff.mp hf
  refine MethodCall_ (ho _ _ _ _ _ _ _ _ _ _ hr hev hl hs e1 fun ad1 o' h1 t1 x1 s1 v1 => ?_) (he env)
  obtain ⟨a, ws, k, ho, rfl, ha', hm', hob, _⟩ := listD_some s1 v1 e2
  refine getMethod_builtin (s := { s with heap := h1, toks := t1 }) ⟨_, hob, rfl⟩ PySem.F.plainAttrs_list hm.slot hm.ty (fun b e => by cases e; exact ⟨_, hob, rfl⟩) ?_
  refine callW .builtin hp (ha _ _ _ _ _ { s with heap := h1, toks := t1 } _ _ _ _ _ hr hev (hl.mono hs x1) s1 e3 fun ad2 vs' h2 t2 x2 s2 v2 => ?_)
  refine ⟨Ok.inK.keeps s2.keep, hm.cal _ _ _ { s with heap := h2, toks := t2 } _ _ _ _ _ _ hr s2 (VRels.cons (VRel.mono s1 x2 (Dull.none _) _ _ v1) v2) hf fun ad3 v' h3 t3 x3 s3 v3 => ?_⟩
  exact hQ ad3 v' h3 t3 (x1.trans (x2.trans x3)) s3 v3

noncomputable def appendF : FnF := fun args H => match args with
  | [o, v] => (listD o H).bind fun d => if d.2.length ≤ 1000 then some (.none, H.set d.1 (.list (d.2 ++ [v]))) else none
  | _ => none
theorem append_meth : ListMeth c n "append" "list.append" appendF := by
  refine ⟨PySem.F.slot_list_append, PySem.F.type_list_append, ?_⟩
  intro A ad H s vs vs' v H' Q E hr hs hv hf hQ
  unfold appendF at hf
  split at hf
  · rename_i o v
    obtain ⟨⟨m, l⟩, e1, hf⟩ := Option.bind_eq_some_iff.mp hf
    split at hf
    · rename_i hlen
      cases hf
      obtain ⟨o', vr, rfl, ho, v', vr', rfl, hv', hnil⟩ := hv
      cases (hnil : vr' = [])
      obtain ⟨a, ws, k, rfl, rfl, ha, hm, hob, hws⟩ := listD_some hs ho e1
      have e2 : ws.size = l.length := by have := hws.length; simpa using this
      refine wpAny_list_append_plain ⟨_, hob⟩ (fun h' hp sb => ?_) (by rw [e2, sizeLine_eq]; dsimp only at hlen; omega)
      have k : ∀ b o, b ≠ a → s.heap.get? b = some o → h'.get? b = some o := fun b o hb e => (sb.2 b hb).trans e
      have x0 : Ext0 ad s.heap ad h' := ⟨⟨[], by simp, fun _ hm => nomatch hm⟩, fun b o e hb _ => k b o (fun q => hb (q ▸ List.mem_of_getElem? ha)) e, Nat.le_of_eq sb.1.symm⟩
      have e5 : (ws.toList ++ [v']).toArray = ws.push v' := by
        apply Array.ext'
        simp
      obtain ⟨hs', x'⟩ := hs.set (o' := .list (l ++ [v])) ha k (Nat.le_of_eq sb.1.symm) ⟨ws.toList ++ [v'], by rw [e5]; exact hp, VRels.append (VRels.mono hs x0 (Dull.none _) _ _ hws) ⟨v', [], rfl, VRel.mono hs x0 (Dull.none _) _ _ hv', rfl⟩⟩
      exact hQ ad _ h' s.toks x' hs' rfl
    · cases hf
  · cases hf
theorem mapSeq_list {vs : Array Value} {k : Nat} (f : Array Value → Array Value) : Obj.mapSeq f { cls := .type "list", data := .seq vs k } = { cls := .type "list", data := .seq (f vs) (if (f vs).size == vs.size then k else k + 1) } := rfl
/-- a list is turned -/
theorem list_turned {ad : List Addr} {H : MH} {s : Shared} {m : Nat} {a : Addr} {ws : Array Value} {k : Nat} {l' : List MV} {f : Array Value → Array Value} (hs : SRel c ad H s.heap) (ha : ad[m]? = some a) (hob : s.heap.get? a = some { cls := .type "list", data := .seq ws k })
    (hl : VRels c.B ad s.heap l' (f ws).toList) : SRel c ad (H.set m (.list l')) (s.heap.update a (Obj.mapSeq f)) ∧ Ext0 ad s.heap ad (s.heap.update a (Obj.mapSeq f)) := by
  have sb : Heap.SameBut a s.heap (s.heap.update a (Obj.mapSeq f)) := Heap.SameBut.update ..
  have k' : ∀ b o, b ≠ a → s.heap.get? b = some o → (s.heap.update a (Obj.mapSeq f)).get? b = some o := fun b o hb e => (sb.2 b hb).trans e
  have x0 : Ext0 ad s.heap ad (s.heap.update a (Obj.mapSeq f)) := ⟨⟨[], by simp, fun _ hm => nomatch hm⟩, fun b o e hb _ => k' b o (fun q => hb (q ▸ List.mem_of_getElem? ha)) e, Nat.le_of_eq sb.1.symm⟩
  have e1 : (s.heap.update a (Obj.mapSeq f)).get? a = some { cls := .type "list", data := .seq (f ws).toList.toArray (if (f ws).size == ws.size then k else k + 1) } := by
    rw [Heap.get?_update_self _ hob (by rw [mapSeq_list]; rfl), mapSeq_list, Array.toArray_toList]
  exact hs.set (o' := .list l') ha k' (Nat.le_of_eq sb.1.symm) ⟨(f ws).toList, ⟨_, e1⟩, VRels.mono hs x0 (Dull.none _) _ _ hl⟩
noncomputable def extendF : FnF := fun args H => match args with
  | [o, v] => (listD o H).bind fun d => (listD v H).bind fun e => if d.2.length ≤ 1000 ∧ e.2.length ≤ 1000 then some (.none, H.set d.1 (.list (d.2 ++ e.2))) else none
  | _ => none
theorem extend_meth : ListMeth c n "extend" "list.extend" extendF := by
  refine ⟨PySem.F.slot_list_extend, PySem.F.type_list_extend, ?_⟩
  intro A ad H s vs vs' v H' Q E hr hs hv hf hQ
  unfold extendF at hf
  split at hf
  · rename_i o v
    obtain ⟨⟨m, l⟩, e1, hf⟩ := Option.bind_eq_some_iff.mp hf
    obtain ⟨⟨m2, l2⟩, e2, hf⟩ := Option.bind_eq_some_iff.mp hf
    split at hf
    · rename_i hlen
      cases hf
      obtain ⟨o', vr, rfl, ho, v', vr', rfl, hv', hnil⟩ := hv
      cases (hnil : vr' = [])
      obtain ⟨a, ws, k, rfl, rfl, ha, hm, hob, hws⟩ := listD_some hs ho e1
      obtain ⟨a2, ws2, k2, rfl, rfl, ha2, hm2, hob2, hws2⟩ := listD_some hs hv' e2
      have e3 : ws.size = l.length := by have := hws.length; simpa using this
      have e4 : ws2.size = l2.length := by have := hws2.length; simpa using this
      dsimp only at hlen
      refine call_meets PySem.F.slot_list_extend ⟨_, hob, rfl⟩ PySem.F.entry_list_extend (PySem.F.args_list_extend_2 _ _) (AutoSeq1.list_extend_list_list_0 a ws k a2 ws2 k2 ?_ (by rw [e3, sizeLine_eq]; omega) (by rw [e3, e4, sizeLine_eq]; omega)) ⟨hob, hob2, ?_⟩
      · rw [e3, e4]
        have : Builtin.List.listTooLong (l.length + l2.length) = false := by
          unfold Builtin.List.listTooLong
          rw [sizeLine_eq]; simp; omega
        rw [this]; simp
      · obtain ⟨hs', x'⟩ := list_turned (s := s) (f := fun x => x ++ ws2) (l' := l ++ l2) hs ha hob (by rw [Array.toList_append]; exact VRels.append hws hws2)
        exact hQ ad _ _ s.toks x' hs' rfl
    · cases hf
  · cases hf
noncomputable def popF : FnF := fun args H => match args with
  | [o] => (listD o H).bind fun d => if d.2.length ≤ 1000 then (d.2.getLast?).map fun v => (v, H.set d.1 (.list d.2.dropLast)) else none
  | _ => none
theorem VRels.dropLast {B : Heap} {ad : List Addr} {h : Heap} : ∀ {l : List MV} {vs : List Value}, VRels B ad h l vs → VRels B ad h l.dropLast vs.dropLast
  | [], _, e => by cases (e : _ = []); rfl
  | [_], _, ⟨v, vr, e, _, r⟩ => by subst e; cases (r : vr = []); rfl
  | _ :: y :: l, _, ⟨v, vr, e, hv, r⟩ => by
    subst e
    have r' := r
    obtain ⟨u, ur, e, _, _⟩ := r'
    subst e
    exact ⟨v, (u :: ur).dropLast, rfl, hv, VRels.dropLast r⟩
theorem VRels.getLast {B : Heap} {ad : List Addr} {h : Heap} {l : List MV} {vs : List Value} {x : MV} (r : VRels B ad h l vs) (e : l.getLast? = some x) : ∃ v, vs.getLast? = some v ∧ VRel B ad h x v := by
  rw [List.getLast?_eq_getElem?] at e ⊢
  rw [r.length]
  exact r.get e
theorem pop_meth : ListMeth c n "pop" "list.pop" popF := by
  refine ⟨PySem.F.slot_list_pop, PySem.F.type_list_pop, ?_⟩
  intro A ad H s vs vs' v H' Q E hr hs hv hf hQ
  unfold popF at hf
  split at hf
  · rename_i o
    obtain ⟨⟨m, l⟩, e1, hf⟩ := Option.bind_eq_some_iff.mp hf
    split at hf
    · rename_i hlen
      obtain ⟨x, e2, hf⟩ := Option.map_eq_some_iff.mp hf
      cases hf
      obtain ⟨o', vr, rfl, ho, hnil⟩ := hv
      cases (hnil : vr = [])
      obtain ⟨a, ws, k, rfl, rfl, ha, hm, hob, hws⟩ := listD_some hs ho e1
      have e3 : ws.size = l.length := by have := hws.length; simpa using this
      dsimp only at hlen
      obtain ⟨y, hy, hyv⟩ := hws.getLast e2
      rw [List.getLast?_eq_getElem?] at hy
      refine call_meets PySem.F.slot_list_pop ⟨_, hob, rfl⟩ PySem.F.entry_list_pop (PySem.F.args_list_pop_1 _) (MeetsSeq.list_pop_last a ws k y (by simpa using hy) (by rw [e3, sizeLine_eq]; omega)) ⟨hob, ?_⟩
      have e4 : (ws.eraseIdxIfInBounds (ws.size - 1)).toList = ws.toList.dropLast := by
        have hpos : 0 < ws.size := by
          rcases Nat.eq_zero_or_pos ws.size with h0 | h0
          · have : ws.toList = [] := by apply List.eq_nil_of_length_eq_zero; simpa using h0
            rw [this] at hy; simp at hy
          · exact h0
        rw [Array.eraseIdxIfInBounds_eq, dif_pos (by omega)]
        rw [Array.toList_eraseIdx]
        have : ∀ (l : List Value), 0 < l.length → l.eraseIdx (l.length - 1) = l.dropLast := by
          intro l
          induction l with
          | nil => intro h; simp at h
          | cons x r ih =>
            intro _
            cases r with
            | nil => rfl
            | cons y r =>
              have := ih (by simp)
              simp only [List.length_cons, Nat.add_sub_cancel] at this ⊢
              rw [List.eraseIdx_cons_succ, List.dropLast_cons_cons, this]
        have h2 := this ws.toList (by simpa using hpos)
        simpa using h2
      obtain ⟨hs', x'⟩ := list_turned (s := s) (f := fun xs => xs.eraseIdxIfInBounds (ws.size - 1)) (l' := l.dropLast) hs ha hob (by rw [e4]; exact hws.dropLast)
      exact hQ ad y _ s.toks x' hs' (VRel.mono hs x' (Dull.none _) _ _ hyv)
    · cases hf
  · cases hf
end
end Nt
end
section
open PySem PySem.W PySem.Spec PySem.Calls PyProof.Rows PySem.SeqAt
namespace Nt
section
variable {c : Cx} {n : Nat} {sc : Scope'}
/-! more arithmetic -/
noncomputable def divF (i j : Int) : Option Int := if 0 < j ∧ j < 1073741824 then some (i.fdiv j) else none
theorem div_rule : BinRule c n .FloorDiv (intB divF) := by
  intro A ad H s a b a' b' v H' Q E hr hs ha hb hf hQ
  obtain ⟨i, j, k, rfl, rfl, e, rfl, rfl⟩ := intB_some hf
  obtain ⟨t, rfl⟩ := ha; obtain ⟨u, rfl⟩ := hb
  unfold divF at e
  split at e
  · rename_i h0
    cases e
    exact PyProof.Rows.floordiv_int (by omega) (hQ ad _ s.heap _ (.refl ..) hs ⟨_, rfl⟩) (.inl (PyProof.noPylong_small (by omega)))
  · cases e
/-- a new list -/
theorem new_list {ad : List Addr} {H : MH} {s : Shared} {l : List MV} {vs : List Value} {Q : Value → Shared → Prop} (hs : SRel c ad H s.heap) (hv : VRels c.B ad s.heap l vs)
    (hQ : Back c ad s (.ref H.length) (H ++ [.list l]) Q) : Q (.ref s.heap.objs.size) { s with heap := s.heap.push { cls := .type "list", data := .seq vs.toArray } } := by
  have k1 : ∀ b o, s.heap.get? b = some o → (s.heap.push { cls := .type "list", data := .seq vs.toArray }).get? b = some o := fun b o e => Heap.get?_push_of_some _ e
  have z1 : (s.heap.push { cls := .type "list", data := .seq vs.toArray }).objs.size = s.heap.objs.size + 1 := Heap.size_push ..
  obtain ⟨s1, x1⟩ := hs.push (o' := .list l) (Nat.le_refl _) k1 (by rw [z1]; exact Nat.le_succ _) (fun _ x => ⟨vs, ⟨0, Heap.get?_push_size _ rfl⟩, VRels.mono hs x (Dull.none _) _ _ hv⟩) hs.there
  exact hQ _ _ _ s.toks x1 s1 ⟨s.heap.objs.size, by rw [← hs.len]; simp, rfl⟩
theorem new_tuple {ad : List Addr} {H : MH} {s : Shared} {l : List MV} {vs : List Value} {Q : Value → Shared → Prop} (hs : SRel c ad H s.heap) (hv : VRels c.B ad s.heap l vs)
    (hQ : Back c ad s (.tup l) H Q) : Q (.ref s.heap.objs.size) { s with heap := s.heap.push { cls := .type "tuple", data := .seq vs.toArray } } := by
  have k1 : ∀ b o, s.heap.get? b = some o → (s.heap.push { cls := .type "tuple", data := .seq vs.toArray }).get? b = some o := fun b o e => Heap.get?_push_of_some _ e
  have z1 : (s.heap.push { cls := .type "tuple", data := .seq vs.toArray }).objs.size = s.heap.objs.size + 1 := Heap.size_push ..
  have x1 : Ext0 ad s.heap ad (s.heap.push { cls := .type "tuple", data := .seq vs.toArray }) := Ext0.of k1 (by rw [z1]; exact Nat.le_succ _)
  exact hQ _ _ _ s.toks x1 (hs.keeps k1 (by rw [z1]; exact Nat.le_succ _)) ⟨s.heap.objs.size, vs, rfl, IsTup.new _ _, VRels.mono hs x1 (Dull.none _) _ _ hv⟩
noncomputable def addL (a b : MV) (H : MH) : Option (MV × MH) := (listD a H).bind fun x => (listD b H).bind fun y => if x.2.length + y.2.length ≤ 1000 then some (.ref H.length, H ++ [.list (x.2 ++ y.2)]) else none
noncomputable def addF : BinF := fun a b H => match a, b with
  | .int i, .int j => some (.int (i + j), H)
  | .ref _, .ref _ => addL a b H
  | _, _ => none
theorem add_rule : BinRule c n .Add addF := by
  intro A ad H s a b a' b' v H' Q E hr hs ha hb hf hQ
  unfold addF at hf
  split at hf
  · cases hf
    obtain ⟨t, rfl⟩ := ha; obtain ⟨u, rfl⟩ := hb
    exact PyProof.Rows.add_int (hQ ad _ s.heap _ (.refl ..) hs ⟨_, rfl⟩)
  · unfold addL at hf
    obtain ⟨⟨m1, l1⟩, e1, hf⟩ := Option.bind_eq_some_iff.mp hf
    obtain ⟨⟨m2, l2⟩, e2, hf⟩ := Option.bind_eq_some_iff.mp hf
    split at hf
    · rename_i hlen
      cases hf
      obtain ⟨a, ws, k, _, rfl, ha', hm, hob, hws⟩ := listD_some hs ha e1
      obtain ⟨a2, ws2, k2, _, rfl, ha2, hm2, hob2, hws2⟩ := listD_some hs hb e2
      have e3 : ws.size = l1.length := by have := hws.length; simpa using this
      have e4 : ws2.size = l2.length := by have := hws2.length; simpa using this
      dsimp only at hlen
      refine PySem.P.add_list hob hob2 ?_ (by rw [e3, e4, sizeLine_eq]; omega)
      have e5 : ws ++ ws2 = (ws.toList ++ ws2.toList).toArray := by apply Array.ext'; simp
      rw [e5]
      exact new_list hs (VRels.append hws hws2) hQ
    · cases hf
  · cases hf

/-! displays -/
noncomputable def eTup (fa : EvLF) : EvF := fun l H => (fa l H).bind fun x => if x.1.length ≤ 1000 then some (.tup x.1, x.2) else none
theorem Ev.tuple {es : List Expr} {k : Nat} {pos : Pos} {fa : EvLF} (h : EvL c n sc es fa) : Ev c n sc (.Tuple es k pos) (eTup fa) := by
  intro A env l ad H s v H' Q E hr he hl hs hf hQ
  obtain ⟨⟨vs, H1⟩, e1, hf⟩ := Option.bind_eq_some_iff.mp hf
  split at hf
  · rename_i hlen
    cases hf
    refine Tuple_ (h _ _ _ _ _ _ _ _ _ _ _ hr he hl hs e1 fun ad1 vs' h1 t1 x1 s1 v1 => ?_)
    refine wpAny_newObj_type (new_tuple (s := { s with heap := h1, toks := t1 }) s1 v1 fun ad2 v' h2 t2 x2 s2 v2 => hQ ad2 v' h2 t2 (x1.trans x2) s2 v2) ?_
    show vs'.toArray.size ≤ sizeLine
    rw [List.size_toArray, v1.length, sizeLine_eq]; dsimp only at hlen; omega
  · cases hf
noncomputable def eLst (fa : EvLF) : EvF := fun l H => (fa l H).bind fun x => if x.1.length ≤ 1000 then some (.ref x.2.length, x.2 ++ [.list x.1]) else none
theorem Ev.list {es : List Expr} {pos : Pos} {fa : EvLF} (h : EvL c n sc es fa) : Ev c n sc (.List es pos) (eLst fa) := by
  intro A env l ad H s v H' Q E hr he hl hs hf hQ
  obtain ⟨⟨vs, H1⟩, e1, hf⟩ := Option.bind_eq_some_iff.mp hf
  split at hf
  · rename_i hlen
    cases hf
    refine List_ (h _ _ _ _ _ _ _ _ _ _ _ hr he hl hs e1 fun ad1 vs' h1 t1 x1 s1 v1 => ?_)
    refine wpAny_newObj_type (new_list (s := { s with heap := h1, toks := t1 }) s1 v1 fun ad2 v' h2 t2 x2 s2 v2 => hQ ad2 v' h2 t2 (x1.trans x2) s2 v2) ?_
    show vs'.toArray.size ≤ sizeLine
    rw [List.size_toArray, v1.length, sizeLine_eq]; dsimp only at hlen; omega
  · cases hf

/-! items -/
noncomputable def pickI (l : List MV) (k : Int) : Option MV := if 0 ≤ k then (if k < 2 ^ 63 then l[k.toNat]? else none) else if -(l.length : Int) ≤ k ∧ -(2 ^ 63) ≤ k then l[(k + l.length).toNat]? else none
noncomputable def itemF (o i : MV) (H : MH) : Option MV := match o, i with
  | .tup l, .int k => if l.length ≤ 1000 then pickI l k else none
  | .lst l, .int k => pickI l k
  | .ref m, .int k => match H[m]? with
    | some (.list l) => pickI l k
    | _ => none
  | .ref m, .str x => match H[m]? with
    | some (.dict l) => l.lookup x
    | _ => none
  | _, _ => none
noncomputable def eSub (f g : EvF) : EvF := fun l H => (f l H).bind fun x => (g l x.2).bind fun y => (itemF x.1 y.1 y.2).map fun v => (v, y.2)
theorem item_list {A : Around} {ad : List Addr} {s : Shared} {a : Addr} {l : List MV} {vs : List Value} {k : Int} {u : Tok} {v : MV} {Q E : Value → Shared → Prop} (hl : s.heap.IsList a vs.toArray) (hv : VRels c.B ad s.heap l vs) (e : pickI l k = some v)
    (hQ : ∀ v', VRel c.B ad s.heap v v' → Q v' s) : wpAny (model c.prog c.w) A (getItem (.ref a) (.int k u)) Q E s := by
  unfold pickI at e
  have hlen := hv.length
  split at e
  · split at e
    · obtain ⟨v', e', hv'⟩ := hv.get e
      exact wpAny_getItem_list hl (by assumption) (by assumption) (by simpa using e') (hQ v' hv')
    · cases e
  · split at e
    · rename_i h0 h1
      obtain ⟨v', e', hv'⟩ := hv.get e
      exact wpAny_getItem_list_neg hl (by omega) (by rw [List.size_toArray, hlen]; exact h1.1) h1.2 (by rw [List.size_toArray, hlen]; simpa using e') (hQ v' hv')
    · cases e
theorem item_tup {A : Around} {ad : List Addr} {s : Shared} {a : Addr} {l : List MV} {vs : List Value} {k : Int} {u : Tok} {v : MV} {Q E : Value → Shared → Prop} (hl : IsTup s.heap a vs.toArray) (hv : VRels c.B ad s.heap l vs) (hlt : l.length < 2 ^ 62) (e : pickI l k = some v)
    (hQ : ∀ v', VRel c.B ad s.heap v v' → Q v' s) : wpAny (model c.prog c.w) A (getItem (.ref a) (.int k u)) Q E s := by
  unfold pickI at e
  have hlen := hv.length
  have hlt' : (l.length : Int) < 2 ^ 62 := by exact_mod_cast hlt
  split at e
  · split at e
    · rename_i h0 h1
      obtain ⟨v', e', hv'⟩ := hv.get e
      have hi : k.toNat < l.length := (List.getElem?_eq_some_iff.mp e).1
      refine getItem_tuple hl (by omega) h1 (j := k.toNat) ?_ (by simpa using e') (hQ v' hv')
      unfold seqIndex?
      rw [List.size_toArray, hlen]
      simp only [show ¬ k < 0 by omega, if_false]
      rw [if_pos (by simp only [Bool.and_eq_true, decide_eq_true_eq]; omega)]
    · cases e
  · split at e
    · rename_i h0 h1
      obtain ⟨v', e', hv'⟩ := hv.get e
      refine getItem_tuple hl h1.2 (by omega) (j := (k + l.length).toNat) (by rw [List.size_toArray, hlen]; exact seqIndex_neg (by omega) h1.1) (by simpa using e') (hQ v' hv')
    · cases e
theorem Ev.sub {value slice : Expr} {pos : Pos} {f g : EvF} (C : c.Ok) (h1 : Ev c n sc value f) (h2 : Ev c n sc slice g)
    (hsub : ∀ o i, subscripted slice false o i = operate [o, i] (getItem o i) := by intro _ _; with_unfolding_all rfl) : Ev c n sc (.Subscript value slice pos) (eSub f g) := by
  intro A env l ad H s v H' Q E hr he hl hs hf hQ
  obtain ⟨⟨x, H1⟩, e1, hf⟩ := Option.bind_eq_some_iff.mp hf
  obtain ⟨⟨y, H2⟩, e2, hf⟩ := Option.bind_eq_some_iff.mp hf
  obtain ⟨u, e3, hf⟩ := Option.map_eq_some_iff.mp hf
  cases hf
  refine Subscript_ (h1 _ _ _ _ _ _ _ _ _ _ hr he hl hs e1 fun ad1 x' h1' t1 x1 s1 v1 => ?_)
  refine h2 _ _ _ _ _ { s with heap := h1', toks := t1 } _ _ _ _ hr he (hl.mono hs x1) s1 e2 fun ad2 y' h2' t2 x2 s2 v2 => ?_
  have v1' := VRel.mono s1 x2 (Dull.none _) _ _ v1
  dsimp only at e3
  unfold itemF at e3
  have done : ∀ v', VRel c.B ad2 h2' v v' → Q v' { s with heap := h2', toks := t2 } := fun v' hv' => hQ ad2 v' h2' t2 (x1.trans x2) s2 hv'
  split at e3
  · obtain ⟨a, vs, rfl, ht, hvs⟩ := v1'
    obtain ⟨t, rfl⟩ := v2
    split at e3
    · rename_i hbig
      exact tail_any (s := { s with heap := h2', toks := t2 }) ht.typeIs slot_tuple_getitem.lookup (item_tup (c := c) (s := { s with heap := h2', toks := t2 }) ht hvs (by omega) e3 done) (hsub _ _)
    · cases e3
  · obtain ⟨a, vs, rfl, ht, hvs⟩ := v1'
    obtain ⟨t, rfl⟩ := v2
    have hL : h2'.IsList a vs.toArray := by
      obtain ⟨o, ho, r⟩ := ht
      exact ⟨o, s2.keep _ _ ho, r⟩
    exact tail_any (s := { s with heap := h2', toks := t2 }) hL.typeIs slot_list_getitem.lookup (item_list (c := c) (s := { s with heap := h2', toks := t2 }) hL hvs e3 done) (hsub _ _)
  · split at e3
    · rename_i hn
      obtain ⟨a, ha, rfl⟩ := v1'
      obtain ⟨t, rfl⟩ := v2
      obtain ⟨vs, ⟨k, ho⟩, hvs⟩ := s2.obj _ _ a hn ha
      have hL : h2'.IsList a vs.toArray := ⟨_, ho, rfl, k, rfl⟩
      exact tail_any (s := { s with heap := h2', toks := t2 }) hL.typeIs slot_list_getitem.lookup (item_list (c := c) (s := { s with heap := h2', toks := t2 }) hL hvs e3 done) (hsub _ _)
    · cases e3
  · split at e3
    · rename_i hn
      obtain ⟨a, ha, rfl⟩ := v1'
      obtain ⟨t, rfl⟩ := v2
      obtain ⟨kvs, hm, q⟩ := s2.obj _ _ a hn ha
      obtain ⟨v', e', hv'⟩ := (q.value _).1 _ e3
      refine tail_any (s := { s with heap := h2', toks := t2 }) hm.typeIs slot_dict_getitem.lookup (wpAny_getItem_of (s := { s with heap := h2', toks := t2 }) (strKind_is _ _ _ _) hm.mapOf e' ?_) (hsub _ _)
      exact hQ ad2 v' h2' _ (x1.trans x2) s2 hv'
    · cases e3
  · cases e3
end
end Nt
end
section
open PySem PySem.W PySem.Spec PySem.Calls PyProof.Rows PySem.SeqAt
namespace Nt
section
variable {c : Cx} {n : Nat} {sc : Scope'}
/-! slices of lists -/
noncomputable abbrev EvPF := Loc → MH → Option (Option Int × MH)
noncomputable def EvP (c : Cx) (n : Nat) (sc : Scope') (e : Option Expr) (f : EvPF) : Prop :=
  ∀ (A : Around) (env : Env) (l : Loc) (ad : List Addr) (H : MH) (s : Shared) (k : Option Int) (H' : MH) (Q E : Value → Shared → Prop),
    Room n A → EnvOk sc env → LRel c env l ad s.heap → SRel c ad H s.heap → f l H = some (k, H') →
    (∀ ad' v' h' tk', Ext0 ad s.heap ad' h' → SRel c ad' H' h' → IsPart v' k → Q v' { s with heap := h', toks := tk' }) →
    wpAny (model c.prog c.w) A (evalPart e env) Q E s
noncomputable def pNo : EvPF := fun _ H => some (none, H)
noncomputable def pSo (f : EvF) : EvPF := fun l H => (f l H).bind fun x => match x.1 with
  | .int i => some (some i, x.2)
  | _ => none
theorem EvP.no : EvP c n sc none pNo := by
  intro A env l ad H s k H' Q E hr he hl hs hf hQ
  cases hf
  rw [evalPart_none]
  exact wpAny_pure (hQ ad _ s.heap s.toks (.refl ..) hs .none)
theorem EvP.so {e : Expr} {f : EvF} (h : Ev c n sc e f) : EvP c n sc (some e) (pSo f) := by
  intro A env l ad H s k H' Q E hr he hl hs hf hQ
  obtain ⟨⟨x, H1⟩, e1, hf⟩ := Option.bind_eq_some_iff.mp hf
  rw [evalPart_some]
  refine h _ _ _ _ _ _ _ _ _ _ hr he hl hs e1 fun ad1 x' h1 t1 x1 s1 v1 => ?_
  dsimp only at hf
  split at hf
  · cases hf
    obtain ⟨t, rfl⟩ := v1
    exact hQ ad1 _ h1 t1 x1 s1 (.int _ _)
  · cases hf
noncomputable def pickS (l : List MV) (lo hi st : Option Int) : List MV := (sliceRange (sliceBounds lo hi st l.length).1 (sliceBounds lo hi st l.length).2.1 (sliceBounds lo hi st l.length).2.2).filterMap (l[·]?)
theorem VRels.pick {B : Heap} {ad : List Addr} {h : Heap} {l : List MV} {vs : List Value} (r : VRels B ad h l vs) : ∀ is : List Nat, VRels B ad h (is.filterMap (l[·]?)) (is.filterMap (vs[·]?))
  | [] => rfl
  | i :: is => by
    rw [List.filterMap_cons, List.filterMap_cons]
    cases e : l[i]? with
    | none =>
      have : vs[i]? = none := by
        rw [List.getElem?_eq_none_iff, r.length]
        exact List.getElem?_eq_none_iff.mp e
      rw [this]
      exact VRels.pick r is
    | some x =>
      obtain ⟨v, e', hv⟩ := r.get e
      rw [e']
      exact ⟨v, _, rfl, hv, VRels.pick r is⟩
theorem pickS_rel {B : Heap} {ad : List Addr} {h : Heap} {l : List MV} {vs : List Value} (r : VRels B ad h l vs) (lo hi st : Option Int) : ∃ ws, slicePick vs.toArray lo hi st = ws.toArray ∧ VRels B ad h (pickS l lo hi st) ws := by
  refine ⟨_, rfl, ?_⟩
  unfold pickS
  rw [List.size_toArray, r.length]
  have := r.pick (sliceRange (sliceBounds lo hi st l.length).1 (sliceBounds lo hi st l.length).2.1 (sliceBounds lo hi st l.length).2.2)
  have e : (fun x => vs.toArray[x]?) = fun x : Nat => vs[x]? := by
    funext x; simp
  rw [e]
  exact this
noncomputable def anyL (o : MV) (H : MH) : Option (List MV) := match o with
  | .lst l => some l
  | .ref m => match H[m]? with
    | some (.list l) => some l
    | _ => none
  | _ => none
theorem anyL_some {ad : List Addr} {H : MH} {h : Heap} {o : MV} {o' : Value} {l : List MV} (R : SRel c ad H h) (hv : VRel c.B ad h o o') (e : anyL o H = some l) : ∃ a vs, o' = .ref a ∧ h.IsList a vs.toArray ∧ VRels c.B ad h l vs := by
  unfold anyL at e
  split at e
  · cases e
    obtain ⟨a, vs, rfl, ⟨o, ho, r⟩, hvs⟩ := hv
    exact ⟨a, vs, rfl, ⟨o, R.keep _ _ ho, r⟩, hvs⟩
  · split at e
    · rename_i hn
      cases e
      obtain ⟨a, ha, rfl⟩ := hv
      obtain ⟨vs, ⟨k, ho⟩, hvs⟩ := R.obj _ _ a hn ha
      exact ⟨a, vs, rfl, ⟨_, ho, rfl, k, rfl⟩, hvs⟩
    · cases e
  · cases e
noncomputable def eSlice (f : EvF) (lo hi st : EvPF) : EvF := fun l H => (f l H).bind fun x => (lo l x.2).bind fun a => (hi l a.2).bind fun b => (st l b.2).bind fun d => (anyL x.1 d.2).bind fun xs =>
  if xs.length ≤ 1000 ∧ d.1 ≠ some 0 then some (.ref d.2.length, d.2 ++ [.list (pickS xs a.1 b.1 d.1)]) else none
theorem Ev.slice {value : Expr} {lower upper step : Option Expr} {p pos : Pos} {f : EvF} {lo hi st : EvPF} (h1 : Ev c n sc value f) (h2 : EvP c n sc lower lo) (h3 : EvP c n sc upper hi) (h4 : EvP c n sc step st)
    (hsub : ∀ o i, ∃ ops, subscripted (.Slice lower upper step p) false o i = operate ops (getItem o i) := by intro _ _; exact ⟨_, by with_unfolding_all rfl⟩) : Ev c n sc (.Subscript value (.Slice lower upper step p) pos) (eSlice f lo hi st) := by
  intro A env l ad H s v H' Q E hr he hl hs hf hQ
  obtain ⟨⟨x, H1⟩, e1, hf⟩ := Option.bind_eq_some_iff.mp hf
  obtain ⟨⟨ka, H2⟩, e2, hf⟩ := Option.bind_eq_some_iff.mp hf
  obtain ⟨⟨kb, H3⟩, e3, hf⟩ := Option.bind_eq_some_iff.mp hf
  obtain ⟨⟨kc, H4⟩, e4, hf⟩ := Option.bind_eq_some_iff.mp hf
  obtain ⟨xs, e5, hf⟩ := Option.bind_eq_some_iff.mp hf
  split at hf
  · rename_i hlen
    cases hf
    refine Subscript_ (h1 _ _ _ _ _ _ _ _ _ _ hr he hl hs e1 fun ad1 x' h1' t1 x1 s1 v1 => ?_)
    have hl1 := hl.mono hs x1
    refine wpAny_Slice (h2 _ _ _ _ _ { s with heap := h1', toks := t1 } _ _ _ _ hr he hl1 s1 e2 fun ad2 y' h2' t2 x2 s2 p2 => ?_)
    have hl2 := hl1.mono s1 x2
    refine h3 _ _ _ _ _ { s with heap := h2', toks := t2 } _ _ _ _ hr he hl2 s2 e3 fun ad3 z' h3' t3 x3 s3 p3 => ?_
    have hl3 := hl2.mono s2 x3
    refine h4 _ _ _ _ _ { s with heap := h3', toks := t3 } _ _ _ _ hr he hl3 s3 e4 fun ad4 w' h4' t4 x4 s4 p4 => ?_
    have v4 := VRel.mono s3 x4 (Dull.none _) _ _ (VRel.mono s2 x3 (Dull.none _) _ _ (VRel.mono s1 x2 (Dull.none _) _ _ v1))
    obtain ⟨a, vs, rfl, hL, hvs⟩ := anyL_some s4 v4 e5
    obtain ⟨ws, ew, hws⟩ := pickS_rel hvs ka kb kc
    have k1 : ∀ b o, h4'.get? b = some o → (h4'.push { cls := .type "slice", data := .fields #[y', z', w'] }).get? b = some o := fun b o e => Heap.get?_push_of_some _ e
    have z1 : (h4'.push { cls := .type "slice", data := .fields #[y', z', w'] }).objs.size = h4'.objs.size + 1 := Heap.size_push ..
    have zz : h4'.objs.size ≤ (h4'.push { cls := .type "slice", data := .fields #[y', z', w'] }).objs.size := by rw [z1]; exact Nat.le_succ _
    have xp : Ext0 ad4 h4' ad4 (h4'.push { cls := .type "slice", data := .fields #[y', z', w'] }) := Ext0.of k1 zz
    have sp := s4.keeps k1 zz
    have hlp := Heap.IsList.push hL { cls := .type "slice", data := .fields #[y', z', w'] }
    obtain ⟨ops, hops⟩ := hsub (.ref a) (.ref h4'.objs.size)
    refine tail_any (s := { s with heap := h4'.push { cls := .type "slice", data := .fields #[y', z', w'] }, toks := t4 }) (ops := ops) hlp.typeIs slot_list_getitem.lookup ?_ hops
    refine wpAny_getItem_list_slice hlp (Heap.IsSliceOf.new ..) p2 p3 p4 hlen.2 ?_ (by have := hvs.length; rw [List.size_toArray, sizeLine_eq]; have := hlen.1; omega)
    rw [ew]
    refine new_list (s := { s with heap := h4'.push { cls := .type "slice", data := .fields #[y', z', w'] }, toks := t4 }) sp (VRels.mono s4 xp (Dull.none _) _ _ hws) fun ad5 v5 h5 t5 x5 s5 r5 => ?_
    exact hQ ad5 v5 h5 t5 (x1.trans (x2.trans (x3.trans (x4.trans (xp.trans x5))))) s5 r5
  · cases hf

/-! dicts -/
theorem strIs (k : String) (t : Tok) : (strKind c.prog c.w).is (S k) (.str (S k) t) = true := strKind_is _ _ _ _
theorem stored_eq {kvs : List (Str × Value)} (nd : (kvs.map (·.1)).Nodup) {B : Heap} {ad : List Addr} {h : Heap} {k : String} {v : MV} {v' : Value} (hv : VRel B ad h v v') : ∀ {l : List (String × MV)}, Binds B ad h l kvs → Binds B ad h (setKV k v l) (stored kvs (S k) v') := by
  induction kvs with
  | nil =>
    intro l hb
    cases l with
    | nil => exact ⟨v', [], rfl, hv, rfl⟩
    | cons p l => obtain ⟨_, _, q, _⟩ := hb; cases q
  | cons p kvs ih =>
    intro l hb
    cases l with
    | nil => cases (hb : _ = [])
    | cons q l =>
      obtain ⟨y, u⟩ := q
      obtain ⟨u', br', e, hu, r⟩ := hb
      cases e
      rw [List.map_cons, List.nodup_cons] at nd
      unfold setKV stored
      by_cases hy : y = k
      · subst hy
        rw [if_pos rfl]
        have e1 : (((S y, u') :: kvs).any fun kv => decide (kv.1 = S y)) = true := by simp
        rw [if_pos e1, List.map_cons, if_pos rfl]
        have e2 : kvs.map (fun kv => if kv.1 = S y then (kv.1, v') else kv) = kvs := by
          have : ∀ kv ∈ kvs, (if kv.1 = S y then (kv.1, v') else kv) = kv := fun kv hkv => by
            rw [if_neg]
            intro e
            refine nd.1 ?_
            show S y ∈ _
            rw [← e]
            exact List.mem_map_of_mem (f := fun p : Str × Value => p.1) hkv
          rw [List.map_congr_left this, List.map_id']
        rw [e2]
        exact ⟨v', kvs, rfl, hv, r⟩
      · rw [if_neg hy]
        have hne : ¬ S y = S k := fun e => hy (S_inj e)
        have := ih nd.2 r
        unfold stored at this
        have e1 : (((S y, u') :: kvs).any fun kv => decide (kv.1 = S k)) = kvs.any fun kv => decide (kv.1 = S k) := by
          rw [List.any_cons, decide_eq_false hne, Bool.false_or]
        rw [e1]
        cases e2 : kvs.any fun kv => decide (kv.1 = S k) with
        | true =>
          rw [e2, if_pos rfl] at this
          rw [if_pos rfl, List.map_cons, if_neg hne]
          exact ⟨u', _, rfl, hu, this⟩
        | false =>
          rw [e2, if_neg (by decide)] at this
          rw [if_neg (by decide)]
          exact ⟨u', _, rfl, hu, this⟩
theorem Binds.length {B : Heap} {ad : List Addr} {h : Heap} : ∀ {l : List (String × MV)} {b : List (Str × Value)}, Binds B ad h l b → b.length = l.length
  | [], _, e => by cases (e : _ = []); rfl
  | _ :: l, _, ⟨v, br, e, hv, r⟩ => by subst e; simp [Binds.length r]
noncomputable def dictD (o : MV) (H : MH) : Option (Nat × List (String × MV)) := match o with
  | .ref m => match H[m]? with
    | some (.dict l) => some (m, l)
    | _ => none
  | _ => none
theorem dictD_some {ad : List Addr} {H : MH} {h : Heap} {o : MV} {o' : Value} {m : Nat} {l : List (String × MV)} (R : SRel c ad H h) (hv : VRel c.B ad h o o') (e : dictD o H = some (m, l)) :
    ∃ a kvs, o = .ref m ∧ o' = .ref a ∧ ad[m]? = some a ∧ H[m]? = some (.dict l) ∧ h.DictOf (strKind c.prog c.w) a kvs ∧ Binds c.B ad h l kvs := by
  unfold dictD at e
  split at e
  · split at e
    · rename_i l' hm
      cases e
      obtain ⟨a, ha, rfl⟩ := hv
      obtain ⟨kvs, hd, q⟩ := R.obj _ _ a hm ha
      exact ⟨a, kvs, rfl, rfl, ha, hm, hd, q⟩
    · cases e
  · cases e
/-- a dict is turned -/
theorem dict_turned {ad : List Addr} {H : MH} {h h' : Heap} {m : Nat} {a : Addr} {l : List (String × MV)} {kvs : List (Str × Value)} {k : String} {v : MV} {v' : Value} (hs : SRel c ad H h) (ha : ad[m]? = some a) (hd : h.DictOf (strKind c.prog c.w) a kvs) (hb : Binds c.B ad h l kvs) (hv : VRel c.B ad h v v')
    (hd' : h'.DictOf (strKind c.prog c.w) a (stored kvs (S k) v')) (sb : Heap.SameBut a h h') : SRel c ad (H.set m (.dict (setKV k v l))) h' ∧ Ext0 ad h ad h' := by
  have k' : ∀ b o, b ≠ a → h.get? b = some o → h'.get? b = some o := fun b o hb e => (sb.2 b hb).trans e
  have x0 : Ext0 ad h ad h' := ⟨⟨[], by simp, fun _ hm => nomatch hm⟩, fun b o e hb _ => k' b o (fun q => hb (q ▸ List.mem_of_getElem? ha)) e, Nat.le_of_eq sb.1.symm⟩
  have nd : (kvs.map (·.1)).Nodup := by obtain ⟨_, _, _, _, _, _, _, _, q⟩ := hd; exact q
  exact hs.set (o' := .dict (setKV k v l)) ha k' (Nat.le_of_eq sb.1.symm) ⟨_, hd', Binds.mono hs x0 (Dull.none _) (stored_eq nd hv hb)⟩
noncomputable def aSub (f g : EvF) : AsF := fun v l H => (f l H).bind fun x => (g l x.2).bind fun y => match y.1 with
  | .str k => (dictD x.1 y.2).bind fun d => if d.2.length ≤ 1000 then some (l, y.2.set d.1 (.dict (setKV k v d.2))) else none
  | _ => none
theorem As.sub {o i : Expr} {pos : Pos} {f g : EvF} (h1 : Ev c n sc o f) (h2 : Ev c n sc i g) : As c n sc (.Subscript o i pos) (aSub f g) := by
  intro A env l ad H s v v' l' H' Q E hr he hl hs hv hf hQ
  obtain ⟨⟨x, H1⟩, e1, hf⟩ := Option.bind_eq_some_iff.mp hf
  obtain ⟨⟨y, H2⟩, e2, hf⟩ := Option.bind_eq_some_iff.mp hf
  dsimp only at hf
  split at hf
  · rename_i k
    obtain ⟨⟨m, kv⟩, e3, hf⟩ := Option.bind_eq_some_iff.mp hf
    split at hf
    · rename_i hlen
      cases hf
      rw [arm_assign_Subscript]
      refine wpAny_bind (wpAny_holding (h1 _ _ _ _ _ _ _ _ _ _ hr he hl hs e1 fun ad1 o' h1 t1 x1 s1 v1 => ?_))
      refine wpAny_bind (wpAny_holding (h2 _ _ _ _ _ { s with heap := h1, toks := t1 } _ _ _ _ hr he (hl.mono hs x1) s1 e2 fun ad2 i' h2 t2 x2 s2 v2 => ?_))
      obtain ⟨t, rfl⟩ := v2
      obtain ⟨a, kvs, rfl, rfl, ha, hm, hd, hb⟩ := dictD_some s2 (VRel.mono s1 x2 (Dull.none _) _ _ v1) e3
      have hv2 := VRel.mono s1 x2 (Dull.none _) _ _ (VRel.mono hs x1 (Dull.none _) _ _ hv)
      refine wpAny_bind (wpAny_standAt (wpAny_bind (wpAny_holding (wpAny_setItem_pairs (s := { s with heap := h2, toks := t2 }) (strIs k t) hd (fun h3 hd3 sb => ?_) (by have := hb.length; rw [sizeLine_eq]; dsimp only at hlen; omega)))))
      obtain ⟨s3, x3⟩ := dict_turned s2 ha hd hb hv2 hd3 sb
      exact wpAny_release' (hQ ad2 h3 _ (x1.trans (x2.trans x3)).weaken0 (hl.mono hs (x1.trans (x2.trans x3))) s3)
    · cases hf
  · cases hf
/-- a method of a built-in dict -/
structure DictMeth (c : Cx) (n : Nat) (x : String) (id : String) (g : FnF) : Prop where
  slot : Slot "dict" (S x) id
  ty : typeOf (.builtin id) = pure (.type "method_descriptor")
  cal : Cal c n (.builtin id) g
noncomputable def eMethD (g : FnF) (f : EvF) (fa : EvLF) : EvF := fun l H => (f l H).bind fun y => (dictD y.1 y.2).bind fun _ => (fa l y.2).bind fun z => g (y.1 :: z.1) z.2
theorem Ev.methD {x id : String} {o : Expr} {apos pos : Pos} {es : List Expr} {g : FnF} {f : EvF} {fa : EvLF} {pl : Env → Sem Bool} (Ok : c.Ok) (hm : DictMeth c n x id g) (ho : Ev c n sc o f) (ha : EvL c n sc es fa) (he : MethEq o (S x) apos es pos pl) (hp : NoStar es := by intro _; rfl) :
    Ev c n sc (.Call (.Attribute o (S x) apos) es [] pos) (eMethD g f fa) := by
  intro A env l ad H s v H' Q E hr hev hl hs hf hQ
  obtain ⟨⟨o, H1⟩, e1, hf⟩ := Option.bind_eq_some_iff.mp hf
  obtain ⟨⟨d, fs⟩, e2, hf⟩ := Option.bind_eq_some_iff.mp hf
  obtain ⟨⟨vs, H2⟩, e3, hf⟩ := Option.bind_eq_some_iff.mp hf
  refine MethodCall_ (ho _ _ _ _ _ _ _ _ _ _ hr hev hl hs e1 fun ad1 o' h1 t1 x1 s1 v1 => ?_) (he env)
  obtain ⟨a, kvs, ho, rfl, ha', hm', hob, _⟩ := dictD_some s1 v1 e2
  refine getMethod_builtin (s := { s with heap := h1, toks := t1 }) hob.typeIs PySem.F.plainAttrs_dict hm.slot hm.ty hob.mapOf.noDict ?_
  refine callW .builtin hp (ha _ _ _ _ _ { s with heap := h1, toks := t1 } _ _ _ _ _ hr hev (hl.mono hs x1) s1 e3 fun ad2 vs' h2 t2 x2 s2 v2 => ?_)
  refine ⟨Ok.inK.keeps s2.keep, hm.cal _ _ _ { s with heap := h2, toks := t2 } _ _ _ _ _ _ hr s2 (VRels.cons (VRel.mono s1 x2 (Dull.none _) _ _ v1) v2) hf fun ad3 v' h3 t3 x3 s3 v3 => ?_⟩
  exact hQ ad3 v' h3 t3 (x1.trans (x2.trans x3)) s3 v3
noncomputable def getF : FnF := fun args H => match args with
  | [o, .str k] => (dictD o H).map fun d => ((d.2.lookup k).getD .none, H)
  | _ => none
theorem get_meth (Ok : c.Ok) : DictMeth c n "get" "dict.get" getF := by
  refine ⟨PySem.F.slot_dict_get, PySem.F.type_dict_get, ?_⟩
  intro A ad H s vs vs' v H' Q E hr hs hv hf hQ
  unfold getF at hf
  split at hf
  · rename_i o k
    obtain ⟨⟨m, l⟩, e1, hf⟩ := Option.map_eq_some_iff.mp hf
    cases hf
    obtain ⟨o', vr, rfl, ho, v', vr', rfl, hv', hnil⟩ := hv
    cases (hnil : vr' = [])
    obtain ⟨t, rfl⟩ := hv'
    obtain ⟨a, kvs, rfl, rfl, ha, hm, hd, hb⟩ := dictD_some hs ho e1
    obtain ⟨q1, q2⟩ := hb.value k
    refine call_meetsIn PySem.F.slot_dict_get hd.typeIs PySem.F.entry_dict_get (PySem.F.args_dict_get_2 _ _) (meets_dict_get (strKind c.prog c.w) a (strIs k t) (not_sys Ok hs (List.mem_of_getElem? ha))) ⟨_, hd.mapOf, ?_⟩
    cases e : l.lookup k with
    | none =>
      rw [q2 e]
      refine hQ ad _ s.heap _ (.refl ..) hs ?_
      simp only [e]; rfl
    | some u =>
      obtain ⟨u', e', hu⟩ := q1 u e
      rw [e']
      refine hQ ad _ s.heap _ (.refl ..) hs ?_
      simp only [e]; exact hu
  · cases hf

/-! dict displays -/
noncomputable abbrev EvDF := Loc → MH → Option (List (String × MV) × MH)
noncomputable def pairsOf (env : Env) (pos : Pos) (kvs : List (Expr × Expr)) : List (Sem Value × Sem Value) := kvs.map fun p => (eval p.1 env, do let x ← eval p.2 env; standAt pos; pure x)
noncomputable def KeyOf (x : String) (v' : Value) : Prop := ∃ t, v' = .str (S x) t
noncomputable def Carry (B : Heap) (ad : List Addr) (h : Heap) : List (String × MV) → List (Value × Value) → Prop
  | [], vs => vs = []
  | (x, v) :: r, vs => ∃ t v' vr, vs = (.str (S x) t, v') :: vr ∧ VRel B ad h v v' ∧ Carry B ad h r vr
noncomputable def EvD (c : Cx) (n : Nat) (sc : Scope') (ps : List (Expr × Expr)) (f : EvDF) : Prop :=
  ∀ (A : Around) (env : Env) (l : Loc) (ad : List Addr) (H : MH) (s : Shared) (kvs : List (String × MV)) (H' : MH) (pos : Pos) (Q : List (Value × Value) → Shared → Prop) (E : Value → Shared → Prop),
    Room n A → EnvOk sc env → LRel c env l ad s.heap → SRel c ad H s.heap → f l H = some (kvs, H') →
    (∀ ad' vs' h' tk', Ext0 ad s.heap ad' h' → SRel c ad' H' h' → Carry c.B ad' h' kvs vs' → Q vs' { s with heap := h', toks := tk' }) →
    wpAny (model c.prog c.w) A (evalPairs (pairsOf env pos ps)) Q E s
noncomputable def dNil : EvDF := fun _ H => some ([], H)
noncomputable def dCons (x : String) (f : EvF) (g : EvDF) : EvDF := fun l H => (f l H).bind fun v => (g l v.2).map fun r => ((x, v.1) :: r.1, r.2)
theorem EvD.nil : EvD c n sc [] dNil := by
  intro A env l ad H s kvs H' pos Q E hr he hl hs hf hQ
  cases hf
  exact evalPairs_nil (hQ ad [] s.heap s.toks (.refl ..) hs rfl)
theorem EvD.cons {x : String} {k : Nat} {kp : Pos} {e : Expr} {ps : List (Expr × Expr)} {f : EvF} {g : EvDF} (h1 : Ev c n sc e f) (h2 : EvD c n sc ps g) : EvD c n sc ((.Constant (.str (S x)) k kp, e) :: ps) (dCons x f g) := by
  intro A env l ad H s kvs H' pos Q E hr he hl hs hf hQ
  obtain ⟨⟨v, H1⟩, e1, hf⟩ := Option.bind_eq_some_iff.mp hf
  obtain ⟨⟨r, H2⟩, e2, hf⟩ := Option.map_eq_some_iff.mp hf
  cases hf
  refine evalPairs_cons (Constant_str ?_)
  refine wpAny_bind (h1 _ _ _ _ _ { s with toks := s.toks + 1 } _ _ _ _ hr he hl hs e1 fun ad1 v' h1 t1 x1 s1 v1 => ?_)
  refine wpAny_bind (wpAny_standAt (wpAny_pure ?_))
  refine h2 _ _ _ _ _ { s with heap := h1, toks := t1 } _ _ _ _ _ hr he (hl.mono hs x1) s1 e2 fun ad2 vs h2 t2 x2 s2 c2 => ?_
  exact hQ ad2 _ h2 t2 (x1.trans x2) s2 ⟨_, v', vs, rfl, VRel.mono s1 x2 (Dull.none _) _ _ v1, c2⟩
noncomputable def mergeKV (acc : List (String × MV)) : List (String × MV) → List (String × MV)
  | [] => acc
  | (k, v) :: r => mergeKV (setKV k v acc) r
theorem carry_kvs {B : Heap} {ad : List Addr} {h : Heap} : ∀ {l : List (String × MV)} {vs : List (Value × Value)}, Carry B ad h l vs → ∃ kvs, Carries (strKind c.prog c.w) vs kvs ∧ Binds B ad h l kvs
  | [], _, e => by cases (e : _ = []); exact ⟨[], trivial, rfl⟩
  | (x, v) :: l, _, ⟨t, v', vr, e, hv, r⟩ => by
    subst e
    obtain ⟨kvs, q1, q2⟩ := carry_kvs r
    exact ⟨(S x, v') :: kvs, ⟨strIs x t, rfl, q1⟩, v', kvs, rfl, hv, q2⟩
theorem stored_nodup {kvs : List (Str × Value)} (nd : (kvs.map (·.1)).Nodup) (k : Str) (v : Value) : ((stored kvs k v).map (·.1)).Nodup := by
  unfold stored
  split
  · have : (kvs.map fun kv => if kv.1 = k then (kv.1, v) else kv).map (·.1) = kvs.map (·.1) := by
      rw [List.map_map]
      apply List.map_congr_left
      intro kv _
      dsimp only [Function.comp]
      split <;> rfl
    rw [this]; exact nd
  · rename_i hn
    rw [List.map_append, List.nodup_append]
    refine ⟨nd, by simp, fun a ha b hb e => ?_⟩
    simp only [List.map_cons, List.map_nil, List.mem_singleton] at hb
    subst hb e
    obtain ⟨kv, hkv, rfl⟩ := List.mem_map.mp ha
    exact hn (List.any_eq_true.mpr ⟨kv, hkv, by simp⟩)
theorem merge_binds {B : Heap} {ad : List Addr} {h : Heap} : ∀ {l : List (String × MV)} {kvs : List (Str × Value)} {acc : List (String × MV)} {acc' : List (Str × Value)}, Binds B ad h l kvs → Binds B ad h acc acc' → (acc'.map (·.1)).Nodup → Binds B ad h (mergeKV acc l) (merged acc' kvs)
  | [], _, _, _, e, ha, _ => by cases (e : _ = []); exact ha
  | (x, v) :: l, _, acc, acc', ⟨v', br, e, hv, r⟩, ha, nd => by
    subst e
    show Binds B ad h (mergeKV (setKV x v acc) l) (merged (stored acc' (S x) v') br)
    exact merge_binds r (stored_eq nd hv ha) (stored_nodup nd _ _)
noncomputable def eDict (f : EvDF) : EvF := fun l H => (f l (H ++ [.dict []])).bind fun x => match x.2[H.length]? with
  | some (.dict []) => some (.ref H.length, x.2.set H.length (.dict (mergeKV [] x.1)))
  | _ => none
theorem Ev.dict {ps : List (Expr × Expr)} {keys : List (Option Expr)} {values : List Expr} {pos : Pos} {f : EvDF} (h : EvD c n sc ps f) (h0 : ps ≠ []) (hlen : ps.length ≤ 15)
    (hshape : ∀ env, (evalEachOpt keys env).zip ((evalEach values env).map fun v => do let x ← v; standAt pos; pure x) = (pairsOf env pos ps).map (fun p => (some p.1, p.2)) := by intro _; rfl) : Ev c n sc (.Dict keys values pos) (eDict f) := by
  intro A env l ad H s v H' Q E hr he hl hs hf hQ
  obtain ⟨⟨kv, H1⟩, e1, hf⟩ := Option.bind_eq_some_iff.mp hf
  dsimp only at hf
  split at hf
  · rename_i hd
    cases hf
    have k1 : ∀ b o, s.heap.get? b = some o → (s.heap.push { cls := .type "dict", data := .dict #[] }).get? b = some o := fun b o e => Heap.get?_push_of_some _ e
    have z1 : (s.heap.push { cls := .type "dict", data := .dict #[] }).objs.size = s.heap.objs.size + 1 := Heap.size_push ..
    obtain ⟨s1, x1⟩ := hs.push (o' := .dict []) (Nat.le_refl _) k1 (by rw [z1]; exact Nat.le_succ _) (fun _ _ => ⟨[], Heap.DictOf.new _, rfl⟩) hs.there
    have hd1 : (ad ++ [s.heap.objs.size])[H.length]? = some s.heap.objs.size := by rw [← hs.len]; simp
    refine wpAny_Dict_pairs (knd := strKind c.prog c.w) (pairs := pairsOf env pos ps) (hshape env) (by unfold pairsOf; simpa using h0) (by unfold pairsOf; simpa using hlen) ?_
    refine h _ _ _ _ _ { s with heap := s.heap.push { cls := .type "dict", data := .dict #[] } } _ _ _ _ _ hr he (hl.mono hs x1) s1 e1 fun ad2 vs h2 t2 x2 s2 c2 => ?_
    obtain ⟨kvs, q1, q2⟩ := carry_kvs c2
    have hd2 := x2.get hd1
    obtain ⟨kvs0, hD, hb⟩ := s2.obj _ _ _ hd hd2
    cases (hb : kvs0 = [])
    refine ⟨kvs, q1, hD, fun h3 hd3 sb => ?_⟩
    have k' : ∀ b o, b ≠ s.heap.objs.size → h2.get? b = some o → h3.get? b = some o := fun b o hb e => (sb.2 b hb).trans e
    have x0 : Ext0 ad2 h2 ad2 h3 := ⟨⟨[], by simp, fun _ hm => nomatch hm⟩, fun b o e hb _ => k' b o (fun q => hb (q ▸ List.mem_of_getElem? hd2)) e, Nat.le_of_eq sb.1.symm⟩
    obtain ⟨s3, x3⟩ := s2.set (o' := .dict (mergeKV [] kv)) hd2 k' (Nat.le_of_eq sb.1.symm) ⟨_, hd3, Binds.mono s2 x0 (Dull.none _) (merge_binds q2 (acc := []) (acc' := []) rfl (by simp))⟩
    exact hQ ad2 _ h3 _ (x1.trans (x2.trans x3)) s3 ⟨_, hd2, rfl⟩
  · cases hf
noncomputable def eDict0 : EvF := fun _ H => some (.ref H.length, H ++ [.dict []])
theorem Ev.dict0 {pos : Pos} : Ev c n sc (.Dict [] [] pos) eDict0 := by
  intro A env l ad H s v H' Q E hr he hl hs hf hQ
  cases hf
  have k1 : ∀ b o, s.heap.get? b = some o → (s.heap.push { cls := .type "dict", data := .dict #[] }).get? b = some o := fun b o e => Heap.get?_push_of_some _ e
  have z1 : (s.heap.push { cls := .type "dict", data := .dict #[] }).objs.size = s.heap.objs.size + 1 := Heap.size_push ..
  obtain ⟨s1, x1⟩ := hs.push (o' := .dict []) (Nat.le_refl _) k1 (by rw [z1]; exact Nat.le_succ _) (fun _ _ => ⟨[], Heap.DictOf.new _, rfl⟩) hs.there
  exact wpAny_Dict_empty (hQ _ _ _ s.toks x1 s1 ⟨s.heap.objs.size, by rw [← hs.len]; simp, rfl⟩)
end
end Nt
end
section
open PySem PySem.W PySem.Spec PySem.Calls PyProof.Rows PySem.SeqAt
namespace Nt
section
variable {c : Cx} {n : Nat} {sc : Scope'}
/-! calls of built-ins -/
noncomputable def lenF : FnF := fun args H => match args with
  | [o] => (anyL o H).bind fun l => if l.length ≤ 1000 then some (.int l.length, H) else none
  | _ => none
theorem len_cal : Cal c n (.builtin "len") lenF := by
  intro A ad H s vs vs' v H' Q E hr hs hv hf hQ
  unfold lenF at hf
  split at hf
  · obtain ⟨l, e1, hf⟩ := Option.bind_eq_some_iff.mp hf
    split at hf
    · rename_i hlen
      cases hf
      obtain ⟨o', vr, rfl, ho, hnil⟩ := hv
      cases (hnil : vr = [])
      obtain ⟨a, ws, rfl, hL, hws⟩ := anyL_some hs ho e1
      have e2 := hws.length
      refine call_len_list hL (by rw [List.size_toArray, e2]; omega) ?_
      exact hQ ad _ s.heap _ (.refl ..) hs ⟨_, by rw [List.size_toArray, e2]⟩
    · cases hf
  · cases hf
noncomputable def rangeF : FnF := fun args H => match args with
  | [.int b] => some (.rng 0 b, H)
  | [.int a, .int b] => some (.rng a b, H)
  | _ => none
theorem range_cal : Cal c n (.type "range") rangeF := by
  intro A ad H s vs vs' v H' Q E hr hs hv hf hQ
  unfold rangeF at hf
  split at hf
  · rename_i b₀
    cases hf
    obtain ⟨o', vr, rfl, ⟨t, rfl⟩, hnil⟩ := hv
    cases (hnil : vr = [])
    refine call_range_1 ?_
    have k1 : ∀ b o, s.heap.get? b = some o → (s.heap.push { cls := .type "range", data := .fields #[.int 0 s.toks, .int b₀ t, .int 1 (s.toks + 1)] }).get? b = some o := fun b o e => Heap.get?_push_of_some _ e
    have z1 : s.heap.objs.size ≤ (s.heap.push { cls := .type "range", data := .fields #[.int 0 s.toks, .int b₀ t, .int 1 (s.toks + 1)] }).objs.size := by rw [Heap.size_push]; exact Nat.le_succ _
    exact hQ ad _ _ _ (Ext0.of k1 z1) (hs.keeps k1 z1) ⟨_, _, _, _, rfl, IsRange.new ..⟩
  · rename_i a₀ b₀
    cases hf
    obtain ⟨o', vr, rfl, ⟨t, rfl⟩, o2, vr2, rfl, ⟨u, rfl⟩, hnil⟩ := hv
    cases (hnil : vr2 = [])
    refine call_range_2 ?_
    have k1 : ∀ b o, s.heap.get? b = some o → (s.heap.push { cls := .type "range", data := .fields #[.int a₀ t, .int b₀ u, .int 1 s.toks] }).get? b = some o := fun b o e => Heap.get?_push_of_some _ e
    have z1 : s.heap.objs.size ≤ (s.heap.push { cls := .type "range", data := .fields #[.int a₀ t, .int b₀ u, .int 1 s.toks] }).objs.size := by rw [Heap.size_push]; exact Nat.le_succ _
    exact hQ ad _ _ _ (Ext0.of k1 z1) (hs.keeps k1 z1) ⟨_, _, _, _, rfl, IsRange.new ..⟩
  · cases hf
noncomputable def maxF : FnF := fun args H => match args with
  | [.int a, .int b] => some (.int (if b > a then b else a), H)
  | _ => none
theorem max_cal : Cal c n (.builtin "max") maxF := by
  intro A ad H s vs vs' v H' Q E hr hs hv hf hQ
  unfold maxF at hf
  split at hf
  · cases hf
    obtain ⟨o', vr, rfl, ⟨t, rfl⟩, o2, vr2, rfl, ⟨u, rfl⟩, hnil⟩ := hv
    cases (hnil : vr2 = [])
    refine with_size (max_two_ints hr.1 fun h' tk hk sz => ?_)
    refine hQ ad _ h' tk (Ext0.of hk sz) (hs.keeps hk sz) ?_
    split
    · exact ⟨_, rfl⟩
    · exact ⟨_, rfl⟩
  · cases hf
noncomputable def intF : FnF := fun args H => match args with
  | [.int a] => some (.int a, H)
  | _ => none
theorem int_cal : Cal c n (.type "int") intF := by
  intro A ad H s vs vs' v H' Q E hr hs hv hf hQ
  unfold intF at hf
  split at hf
  · cases hf
    obtain ⟨o', vr, rfl, ⟨t, rfl⟩, hnil⟩ := hv
    cases (hnil : vr = [])
    exact call_int_int (hQ ad _ s.heap s.toks (.refl ..) hs ⟨_, rfl⟩)
  · cases hf
noncomputable def tupleF : FnF := fun args H => match args with
  | [.tup l] => some (.tup l, H)
  | _ => none
theorem tuple_cal : Cal c n (.type "tuple") tupleF := by
  intro A ad H s vs vs' v H' Q E hr hs hv hf hQ
  unfold tupleF at hf
  split at hf
  · cases hf
    obtain ⟨o', vr, rfl, hv, hnil⟩ := hv
    cases (hnil : vr = [])
    obtain ⟨a, ws, rfl, ht, hws⟩ := hv
    exact call_tuple_same ht (hQ ad _ s.heap s.toks (.refl ..) hs ⟨a, ws, rfl, ht, hws⟩)
  · cases hf
noncomputable def listF : FnF := fun args H => match args with
  | [o] => (anyL o H).bind fun l => if l.length ≤ 1000 then some (.ref H.length, H ++ [.list l]) else none
  | _ => none
theorem list_cal : Cal c n (.type "list") listF := by
  intro A ad H s vs vs' v H' Q E hr hs hv hf hQ
  unfold listF at hf
  split at hf
  · obtain ⟨l, e1, hf⟩ := Option.bind_eq_some_iff.mp hf
    split at hf
    · rename_i hlen
      cases hf
      obtain ⟨o', vr, rfl, ho, hnil⟩ := hv
      cases (hnil : vr = [])
      obtain ⟨a, ws, rfl, ⟨ob, hob, hc, k, hd⟩, hws⟩ := anyL_some hs ho e1
      have e2 := hws.length
      refine with_size (call_list_seq a (.inl rfl) hob hc hd (fun h' c' hk hn sz => ?_) (by rw [List.size_toArray, e2, sizeLine_eq]; omega))
      have e3 : s.heap.objs.size < h'.objs.size := Heap.lt_size hn
      obtain ⟨s1, x1⟩ := hs.push (o' := .list l) (Nat.le_refl _) hk sz (fun _ x => ⟨ws, ⟨c', hn⟩, VRels.mono hs x (Dull.none _) _ _ hws⟩) hs.there
      exact hQ _ _ _ s.toks x1 s1 ⟨s.heap.objs.size, by rw [← hs.len]; simp, rfl⟩
    · cases hf
  · cases hf

/-- the place of a str in a list of strs -/
noncomputable def strV : MV → Option String
  | .str s => some s
  | _ => none
noncomputable def indexF : FnF := fun args H => match args with
  | [o, .str x] => (listD o H).bind fun d => (mapO strV d.2).bind fun xs => (xs.idxOf? x).bind fun j => if d.2.length ≤ 1000 then some (.int j, H) else none
  | _ => none
theorem strV_rel {B : Heap} {ad : List Addr} {h : Heap} : ∀ {l : List MV} {vs : List Value} {xs : List String}, VRels B ad h l vs → mapO strV l = some xs → vs.length = xs.length ∧ ∀ (i : Nat) (y : Value), vs[i]? = some y → ∃ s t, xs[i]? = some s ∧ y = .str (S s) t
  | [], _, _, e, hx => by cases (e : _ = []); cases hx; exact ⟨rfl, fun i y e => by simp at e⟩
  | m :: l, _, _, ⟨v, vr, e, hv, r⟩, hx => by
    subst e
    obtain ⟨y, ys, e1, e2, rfl⟩ := mapO_cons hx
    obtain ⟨q1, q2⟩ := strV_rel r e2
    refine ⟨by simp [q1], fun i z ez => ?_⟩
    cases i with
    | zero =>
      simp at ez; subst ez
      unfold strV at e1
      split at e1
      · cases e1; obtain ⟨t, rfl⟩ := hv; exact ⟨_, t, by simp, rfl⟩
      · cases e1
    | succ i => simp at ez; simpa using q2 i z ez
theorem index_meth : ListMeth c n "index" "list.index" indexF := by
  refine ⟨PySem.F.slot_list_index, PySem.F.type_list_index, ?_⟩
  intro A ad H s vs vs' v H' Q E hr hs hv hf hQ
  unfold indexF at hf
  split at hf
  · rename_i o x
    obtain ⟨⟨m, l⟩, e1, hf⟩ := Option.bind_eq_some_iff.mp hf
    obtain ⟨xs, e2, hf⟩ := Option.bind_eq_some_iff.mp hf
    obtain ⟨j, e3, hf⟩ := Option.bind_eq_some_iff.mp hf
    split at hf
    · rename_i hlen
      cases hf
      obtain ⟨o', vr, rfl, ho, v', vr', rfl, hv', hnil⟩ := hv
      cases (hnil : vr' = [])
      obtain ⟨t, rfl⟩ := hv'
      obtain ⟨a, ws, k, rfl, rfl, ha, hm, hob, hws⟩ := listD_some hs ho e1
      obtain ⟨q1, q2⟩ := strV_rel hws e2
      have q3 : ws.size = l.length := by have := hws.length; simpa using this
      dsimp only at hlen
      have e4 := List.idxOf?_eq_some_iff.mp e3
      obtain ⟨h1, h2, h3⟩ := e4
      have q1' : ws.size = xs.length := by simpa using q1
      have hj : j < ws.size := by omega
      refine call_meets PySem.F.slot_list_index ⟨_, hob, rfl⟩ PySem.F.entry_list_index (PySem.F.args_list_index_2 _ _) (MeetsSeq.list_index a ws k (.str (S x) t) (fun y => match y with | .str z _ => z == S x | _ => false) ?_ j hj (by omega) ?_ ?_) ⟨hob, ?_⟩
      · intro y hy
        obtain ⟨i, hi, rfl⟩ := Array.getElem_of_mem hy
        obtain ⟨z, u, _, e⟩ := q2 i ws[i] (by simp [hi])
        rw [e]
        exact eqGives_str _ _ _ _
      · obtain ⟨z, u, ez, e⟩ := q2 j ws[j] (by simp [hj])
        rw [e]
        have : xs[j] = x := by simpa using h2
        rw [List.getElem?_eq_getElem h1] at ez
        cases ez
        rw [this]
        simp
      · intro m hm hmj
        obtain ⟨z, u, ez, e⟩ := q2 m ws[m] (by simp [hm])
        rw [e]
        have hm' : m < xs.length := by omega
        rw [List.getElem?_eq_getElem hm'] at ez
        cases ez
        have := h3 m hmj
        have hne : xs[m] ≠ x := by simpa using this
        show (S xs[m] == S x) = false
        exact beq_eq_false_iff_ne.mpr fun z => hne (S_inj z)
      · exact hQ ad _ s.heap _ (.refl ..) hs ⟨_, rfl⟩
    · cases hf
  · cases hf
end
end Nt
end
section
open PySem PySem.W PySem.Spec PySem.Calls PyProof.Rows PySem.SeqAt
namespace Nt
section
variable {c : Cx} {n : Nat} {sc : Scope'}
/-! iterators -/
noncomputable def iterOk (src : MV) (H : MH) : Bool := match src with
  | .tup l => decide (l.length ≤ 1000)
  | .lst l => decide (l.length ≤ 1000)
  | .ref m => match H[m]? with
    | some (.list _) => true
    | _ => false
  | .rng a b => decide (-(2 ^ 30) ≤ a) && decide (a < 2 ^ 30) && decide (-(2 ^ 30) ≤ b) && decide (b < 2 ^ 30)
  | _ => false
noncomputable def iterAt (src : MV) (i : Nat) (H : MH) : Option (Option MV) := match src with
  | .tup l => some l[i]?
  | .lst l => some l[i]?
  | .ref m => match H[m]? with
    | some (.list l) => some l[i]?
    | _ => none
  | .rng a b => some (if a + i < b then some (.int (a + i)) else none)
  | _ => none
noncomputable def It (c : Cx) (ad : List Addr) (h : Heap) (it : Addr) (src : MV) (i : Nat) : Prop := match src with
  | .tup l => ∃ a vs, IsTup h a vs.toArray ∧ VRels c.B ad h l vs ∧ h.IsTupleIter it a i
  | .lst l => ∃ a vs, c.B.IsList a vs.toArray ∧ VRels c.B ad h l vs ∧ h.IsListIter it a i
  | .ref m => ∃ a, ad[m]? = some a ∧ h.IsListIter it a i
  | .rng a b => IsRangeIter h it (a + i) ((if a < b then b - a else 0) - i) 1
  | _ => False
structure ItObj (h : Heap) (it : Addr) : Prop where
  obj : ∃ o n vs, h.get? it = some o ∧ o.cls = .type n ∧ o.data = .fields vs ∧ (n = "list_iterator" ∨ n = "tuple_iterator" ∨ n = "range_iterator")
theorem It.objAt {ad : List Addr} {h : Heap} {it : Addr} {src : MV} {i : Nat} (I : It c ad h it src i) : ItObj h it := by
  unfold It at I
  split at I
  · obtain ⟨a, vs, _, _, o, ho, hc, hd⟩ := I; exact ⟨o, _, _, ho, hc, hd, .inr (.inl rfl)⟩
  · obtain ⟨a, vs, _, _, o, ho, hc, hd⟩ := I; exact ⟨o, _, _, ho, hc, hd, .inl rfl⟩
  · obtain ⟨a, _, o, ho, hc, hd⟩ := I; exact ⟨o, _, _, ho, hc, hd, .inl rfl⟩
  · exact ⟨_, _, _, I, rfl, rfl, .inr (.inr rfl)⟩
  · exact I.elim
noncomputable def OwnI (it : Addr) : Addr → Prop := fun a => a = it
theorem ItObj.dull {h : Heap} {it : Addr} (I : ItObj h it) : Dull (OwnI it) h := by
  intro b hb o ho
  obtain ⟨o', n, vs, ho', hc, hd, hn⟩ := I.obj
  cases hb
  rw [ho'] at ho; cases ho
  refine .inr (.inr ⟨?_, ?_⟩) <;> rw [hc] <;> rcases hn with rfl | rfl | rfl <;> decide
theorem ItObj.off {ad : List Addr} {H : MH} {h : Heap} {it : Addr} (I : ItObj h it) (R : SRel c ad H h) : it ∉ ad := by
  obtain ⟨o', n, vs, ho', hc, hd, hn⟩ := I.obj
  refine R.clsOf ho' ?_ ?_ ?_
  · rw [hc]; rcases hn with rfl | rfl | rfl <;> decide
  · intro es ep e; rw [hd] at e; cases e
  · intro e; rw [hd] at e; cases e
theorem ItObj.letGo {M : Program} {w : World} {A : Around} {s : Shared} {it : Addr} {E : Value → Shared → Prop} {t : Expr} {v : Value} {Q : Unit → Shared → Prop} (I : ItObj s.heap it) (h : Q () s) : wpAny (model M w) A (letOwnedTupleGo t (.ref it) v) Q E s := by
  obtain ⟨o, n, vs, ho, hc, hd, hn⟩ := I.obj
  have go : ∀ a : Addr, wpAny (model M w) A (do
      let o ← load it
      match o.cls, o.data with
      | .type n, .fields vs =>
        if ["enumerate", "zip", "dict_itemiterator", "dict_reverseitemiterator", "odict_iterator", "itertools.zip_longest", "itertools.pairwise"].contains n && vs[0]? == some (rawInt a) then
          rule "for.unpacks-the-owned-tuple"
          updateField it 0 .none
      | _, _ => pure ()) Q E s := fun a => by
    refine wpAny_bind (wpAny_load ho ?_)
    rw [hc, hd]
    have hno : (["enumerate", "zip", "dict_itemiterator", "dict_reverseitemiterator", "odict_iterator", "itertools.zip_longest", "itertools.pairwise"].contains n) = false := by
      rcases hn with rfl | rfl | rfl <;> decide
    dsimp only
    rw [hno, Bool.false_and, if_neg (by decide)]
    exact wpAny_pure h
  unfold letOwnedTupleGo
  split
  · split
    · rename_i e; cases e; exact go _
    · exact wpAny_pure h
  · split
    · rename_i e; cases e; exact go _
    · exact wpAny_pure h
  · exact wpAny_pure h
theorem It.move {own : Addr → Prop} {ad ad' : List Addr} {H : MH} {h h' : Heap} {it : Addr} {src : MV} {i : Nat} (I : It c ad h it src i) (R : SRel c ad H h) (x : Ext own ad h ad' h') (D : Dull own h) (ho : ¬ own it) : It c ad' h' it src i := by
  have off := I.objAt.off R
  cases src with
  | tup l =>
    obtain ⟨a, vs, ⟨o, h1, hc, k, hd⟩, h2, o', h3⟩ := I
    refine ⟨a, vs, ⟨o, x.keep a o h1 (R.clsOf h1 (by rw [hc]; decide) (by intro es ep e; rw [hd] at e; cases e) (by intro e; rw [hd] at e; cases e)) (fun w => ?_), hc, k, hd⟩, VRels.mono R x D _ _ h2, o', x.keep it o' h3.1 off ho, h3.2⟩
    rcases D a w o h1 with ⟨es, ep, e⟩ | ⟨v, e⟩ | ⟨e, _⟩
    · rw [hd] at e; cases e
    · rw [hd] at e; cases e
    · exact e hc
  | lst l =>
    obtain ⟨a, vs, h1, h2, o', h3⟩ := I
    exact ⟨a, vs, h1, VRels.mono R x D _ _ h2, o', x.keep it o' h3.1 off ho, h3.2⟩
  | ref m =>
    obtain ⟨a, h1, o', h3⟩ := I
    exact ⟨a, x.get h1, o', x.keep it o' h3.1 off ho, h3.2⟩
  | rng a b => exact x.keep it _ I off ho
  | none => exact I.elim
  | bool _ => exact I.elim
  | int _ => exact I.elim
  | str _ => exact I.elim
  | raw _ => exact I.elim
/-- the heap beside the iterator -/
theorem SRel.beside {ad : List Addr} {H : MH} {h h' : Heap} {it : Addr} (R : SRel c ad H h) (I : ItObj h it) (low : c.B.objs.size ≤ it) (k : ∀ b o, b ≠ it → h.get? b = some o → h'.get? b = some o) (sz : h.objs.size ≤ h'.objs.size) : SRel c ad H h' ∧ Ext (OwnI it) ad h ad h' :=
  R.own I.dull (fun a ha => by cases ha; exact ⟨I.off R, low⟩) (fun b o hb e => k b o hb e) sz
theorem It.start {A : Around} {ad : List Addr} {H : MH} {s : Shared} {src : MV} {x' : Value} {Q E : Value → Shared → Prop} (R : SRel c ad H s.heap) (hv : VRel c.B ad s.heap src x') (hok : iterOk src H = true)
    (hQ : ∀ it h', s.heap.objs.size ≤ it → it < h'.objs.size → (∀ b o, s.heap.get? b = some o → h'.get? b = some o) → s.heap.objs.size ≤ h'.objs.size → It c ad h' it src 0 → Q (.ref it) { s with heap := h' }) : wpAny (model c.prog c.w) A (pyIter x') Q E s := by
  unfold iterOk at hok
  have kp : ∀ o : Obj, ∀ b ob, s.heap.get? b = some ob → (s.heap.push o).get? b = some ob := fun o b ob e => Heap.get?_push_of_some _ e
  have zp : ∀ o : Obj, (s.heap.push o).objs.size = s.heap.objs.size + 1 := fun o => Heap.size_push ..
  have go : ∀ (o : Obj), It c ad (s.heap.push o) s.heap.objs.size src 0 → Q (.ref s.heap.objs.size) { s with heap := s.heap.push o } := fun o I =>
    hQ _ _ (Nat.le_refl _) (by rw [zp]; exact Nat.lt_succ_self _) (kp o) (by rw [zp]; exact Nat.le_succ _) I
  have xp : ∀ o : Obj, Ext0 ad s.heap ad (s.heap.push o) := fun o => Ext0.of (kp o) (by rw [zp]; exact Nat.le_succ _)
  split at hok
  · obtain ⟨a, vs, rfl, ht, hvs⟩ := hv
    refine wpAny_pyIter_tuple ht (go _ ⟨a, vs, ?_, VRels.mono R (xp _) (Dull.none _) _ _ hvs, _, Heap.get?_push_size _ rfl, rfl, rfl⟩)
    obtain ⟨o, ho, r⟩ := ht
    exact ⟨o, kp _ _ _ ho, r⟩
  · obtain ⟨a, vs, rfl, hb, hvs⟩ := hv
    have hL : s.heap.IsList a vs.toArray := by obtain ⟨o, ho, r⟩ := hb; exact ⟨o, R.keep _ _ ho, r⟩
    exact wpAny_pyIter_list hL (go _ ⟨a, vs, hb, VRels.mono R (xp _) (Dull.none _) _ _ hvs, _, Heap.get?_push_size _ rfl, rfl, rfl⟩)
  · split at hok
    · rename_i hn
      obtain ⟨a, ha, rfl⟩ := hv
      obtain ⟨vs, ⟨k, ho⟩, hvs⟩ := R.obj _ _ a hn ha
      have hL : s.heap.IsList a vs.toArray := ⟨_, ho, rfl, k, rfl⟩
      exact wpAny_pyIter_list hL (go _ ⟨a, ha, _, Heap.get?_push_size _ rfl, rfl, rfl⟩)
    · cases hok
  · rename_i a b
    simp only [Bool.and_eq_true, decide_eq_true_eq] at hok
    obtain ⟨r, t, u, v, rfl, hr⟩ := hv
    refine wpAny_pyIter_range hr (small_one (by omega) (by omega) (by omega) (by omega)) (go _ ?_)
    show IsRangeIter _ _ _ _ _
    unfold IsRangeIter
    rw [Heap.get?_push_size _ rfl, rangeSize_one]
    simp [rawInt]
  · cases hok
theorem It.next {A : Around} {ad : List Addr} {H : MH} {s : Shared} {it : Addr} {src : MV} {i : Nat} {r : Option MV} {Q : Option Value → Shared → Prop} {E : Value → Shared → Prop} (hh : A.handled = none) (R : SRel c ad H s.heap) (low : c.B.objs.size ≤ it) (I : It c ad s.heap it src i) (e : iterAt src i H = some r)
    (hS : ∀ v, r = some v → ∀ v' h' tk, VRel c.B ad h' v v' → It c ad h' it src (i + 1) → SRel c ad H h' → Ext (OwnI it) ad s.heap ad h' → Q (some v') { s with heap := h', toks := tk })
    (hN : r = none → ∀ h', SRel c ad H h' → Ext (OwnI it) ad s.heap ad h' → Q none { s with heap := h' }) : wpAny (model c.prog c.w) A (pyNext (.ref it)) Q E s := by
  have O := I.objAt
  have D := O.dull
  have off := O.off R
  have bes : ∀ h', Heap.SameBut it s.heap h' → SRel c ad H h' ∧ Ext (OwnI it) ad s.heap ad h' := fun h' sb => R.beside O low (fun b o hb e => (sb.2 b hb).trans e) (Nat.le_of_eq sb.1.symm)
  have bex : ∀ h', Heap.ExtBut it s.heap h' → s.heap.objs.size ≤ h'.objs.size → SRel c ad H h' ∧ Ext (OwnI it) ad s.heap ad h' := fun h' sb sz => R.beside O low (fun b o hb e => sb b o hb e) sz
  unfold iterAt at e
  unfold It at I
  split at e
  · cases e
    obtain ⟨a, vs, ht, hvs, hit⟩ := I
    have hta : ∀ h', Heap.SameBut it s.heap h' → IsTup h' a vs.toArray := fun h' sb => by
      obtain ⟨o, ho, hc, r⟩ := ht
      refine ⟨o, (sb.2 a fun q => ?_).trans ho, hc, r⟩
      obtain ⟨o', ho', hc', _⟩ := hit
      rw [q, ho'] at ho; cases ho; rw [hc] at hc'; injection hc' with q; exact absurd q (by decide)
    cases ev : (‹List MV›)[i]? with
    | some v =>
      obtain ⟨v', e', hv'⟩ := hvs.get ev
      refine wpAny_pyNext_tuple_item hit ht (x := v') (by simpa using e') fun h' hit' sb => ?_
      obtain ⟨R', x'⟩ := bes h' sb
      exact hS v ev v' h' s.toks (VRel.mono R x' D _ _ hv') ⟨a, vs, hta h' sb, VRels.mono R x' D _ _ hvs, hit'⟩ R' x'
    | none =>
      refine with_size (wpAny_pyNext_tuple_end hh hit ht (by have := hvs.length; have := List.getElem?_eq_none_iff.mp ev; simp; omega) fun h' sb sz => ?_)
      obtain ⟨R', x'⟩ := bex h' sb sz
      exact hN ev h' R' x'
  · cases e
    obtain ⟨a, vs, hb, hvs, hit⟩ := I
    have hL : s.heap.IsList a vs.toArray := by obtain ⟨o, ho, r⟩ := hb; exact ⟨o, R.keep _ _ ho, r⟩
    cases ev : (‹List MV›)[i]? with
    | some v =>
      obtain ⟨v', e', hv'⟩ := hvs.get ev
      refine wpAny_pyNext_list_item hit hL (x := v') (by simpa using e') fun h' hit' sb => ?_
      obtain ⟨R', x'⟩ := bes h' sb
      exact hS v ev v' h' s.toks (VRel.mono R x' D _ _ hv') ⟨a, vs, hb, VRels.mono R x' D _ _ hvs, hit'⟩ R' x'
    | none =>
      refine with_size (wpAny_pyNext_list_end hh hit hL (by have := hvs.length; have := List.getElem?_eq_none_iff.mp ev; simp; omega) fun h' sb sz => ?_)
      obtain ⟨R', x'⟩ := bex h' sb sz
      exact hN ev h' R' x'
  · split at e
    · rename_i hn
      cases e
      obtain ⟨a, ha, hit⟩ := I
      obtain ⟨vs, ⟨k, ho⟩, hvs⟩ := R.obj _ _ a hn ha
      have hL : s.heap.IsList a vs.toArray := ⟨_, ho, rfl, k, rfl⟩
      cases ev : (‹List MV›)[i]? with
      | some v =>
        obtain ⟨v', e', hv'⟩ := hvs.get ev
        refine wpAny_pyNext_list_item hit hL (x := v') (by simpa using e') fun h' hit' sb => ?_
        obtain ⟨R', x'⟩ := bes h' sb
        exact hS v ev v' h' s.toks (VRel.mono R x' D _ _ hv') ⟨a, ha, hit'⟩ R' x'
      | none =>
        refine with_size (wpAny_pyNext_list_end hh hit hL (by have := hvs.length; have := List.getElem?_eq_none_iff.mp ev; simp; omega) fun h' sb sz => ?_)
        obtain ⟨R', x'⟩ := bex h' sb sz
        exact hN ev h' R' x'
    · cases e
  · rename_i a b
    cases e
    by_cases hlt : a + i < b
    · have e1 : (if a + ↑i < b then some (MV.int (a + ↑i)) else none) = some (.int (a + i)) := if_pos hlt
      refine wpAny_pyNext_range_item I (by rw [if_pos (by omega)]; omega) fun h' hit' sb => ?_
      obtain ⟨R', x'⟩ := bes h' sb
      refine hS _ e1 _ h' (s.toks + 1) ⟨_, rfl⟩ ?_ R' x'
      have e2 : a + ((i + 1 : Nat) : Int) = a + (i : Int) + 1 := by push_cast; omega
      have e3 : (if a < b then b - a else 0) - ((i + 1 : Nat) : Int) = (if a < b then b - a else 0) - (i : Int) - 1 := by push_cast; omega
      show IsRangeIter _ _ _ _ _
      rw [e2, e3]
      exact hit'
    · have e1 : (if a + ↑i < b then some (MV.int (a + ↑i)) else none) = none := if_neg hlt
      refine with_size (wpAny_pyNext_range_end hh I (by split <;> omega) fun h' sb sz => ?_)
      obtain ⟨R', x'⟩ := bex h' sb sz
      exact hN e1 h' R' x'
  · cases e
end
end Nt
end
section
open PySem PySem.W PySem.Spec PySem.Calls PyProof.Rows PySem.SeqAt
namespace Nt
theorem Ext.beside {own : Addr → Prop} {it : Addr} {ad₀ ad ad' : List Addr} {h₀ h h' : Heap} (x : Ext own ad₀ h₀ ad h) (y : Ext (OwnI it) ad h ad' h') (low : h₀.objs.size ≤ it) : Ext own ad₀ h₀ ad' h' := by
  obtain ⟨m, e, hm⟩ := x.more
  obtain ⟨m', e', hm'⟩ := y.more
  refine ⟨⟨m ++ m', by rw [e', e, List.append_assoc], fun a ha => ?_⟩, fun b o eb hb ho => ?_, Nat.le_trans x.size y.size⟩
  · rcases List.mem_append.mp ha with q | q
    · exact hm a q
    · exact Nat.le_trans x.size (hm' a q)
  · refine y.keep b o (x.keep b o eb hb ho) (fun q => ?_) (fun q => ?_)
    · rw [e] at q
      rcases List.mem_append.mp q with q | q
      · exact hb q
      · exact absurd (Heap.lt_size eb) (Nat.not_lt.mpr (hm b q))
    · cases q; exact absurd (Heap.lt_size eb) (Nat.not_lt.mpr low)
theorem LRel.monoG {c : Cx} {env : Env} {l : Loc} {own : Addr → Prop} {ad ad' : List Addr} {H : MH} {h h' : Heap} (L : LRel c env l ad h) (R : SRel c ad H h) (x : Ext own ad h ad' h') (D : Dull own h) (ap : ∀ a, Own env a → ¬ own a) : LRel c env l ad' h' := by
  obtain ⟨m, hn, hm⟩ := L.ns
  refine ⟨⟨m, ?_, fun y v e k => ?_⟩, fun y v e k => ?_, L.has, fun y a e => ?_, L.apart, x.notMem L.off hn.lt, L.low⟩
  · obtain ⟨o, es, ep, e, r⟩ := hn
    exact ⟨o, es, ep, x.keep _ _ e L.off (ap _ (.inl rfl)), r⟩
  · obtain ⟨v', q, hv⟩ := hm y v e k
    exact ⟨v', q, hv.mono R x D⟩
  · obtain ⟨a, v', q, ⟨o, ho, hd⟩, hv⟩ := L.cell y v e k
    exact ⟨a, v', q, ⟨o, x.keep _ _ ho (L.cells _ _ q).2.1 (ap _ (.inr ⟨_, q⟩)), hd⟩, hv.mono R x D⟩
  · obtain ⟨⟨v, o, ho, hd⟩, hb, hl⟩ := L.cells y a e
    exact ⟨⟨v, o, x.keep _ _ ho hb (ap _ (.inr ⟨_, e⟩)), hd⟩, x.notMem hb (Heap.lt_size ho), hl⟩
theorem LRel.ownLt {c : Cx} {env : Env} {l : Loc} {ad : List Addr} {h : Heap} (L : LRel c env l ad h) : ∀ a, Own env a → a < h.objs.size := by
  intro a ha
  rcases ha with rfl | ⟨y, hy⟩
  · obtain ⟨m, hn, _⟩ := L.ns; exact hn.lt
  · obtain ⟨v, o, e, _⟩ := (L.cells y a hy).1; exact Heap.lt_size e

section
variable {c : Cx} {n : Nat} {sc : Scope'}
/-! for loops -/
noncomputable def forF (src : MV) (a : AsF) (g : ExF) : Nat → Nat → ExF
  | 0, _ => fun _ _ => none
  | k + 1, i => fun l H => (iterAt src i H).bind fun r => match r with
    | none => some (.next, l, H)
    | some v => (a v l H).bind fun x => (g x.1 x.2).bind fun y => match y.1 with
      | .next => forF src a g k (i + 1) y.2.1 y.2.2
      | .ret u => some (.ret u, y.2.1, y.2.2)
noncomputable def xFor (f : EvF) (a : AsF) (g : ExF) (k : Nat) : ExF := fun l H => (f l H).bind fun x => if iterOk x.1 x.2 = true then forF x.1 a g k 0 l x.2 else none
theorem Ex.for {t iter : Expr} {b : List Stmt} {pos : Pos} {f : EvF} {a : AsF} {g : ExF} (k : Nat) (h1 : Ev c n sc iter f) (h2 : As c n sc t a) (h3 : Exs c n sc b g) (hs : ∀ env x, foldedSetIterable iter env x = pure x := by intro _ _; rfl) :
    Ex c n sc (.For t iter b [] pos) (xFor f a g k) := by
  intro A env l ad H s fl l' H' Q E hr he hl hsr hf hQ
  obtain ⟨⟨src, H1⟩, e1, hf⟩ := Option.bind_eq_some_iff.mp hf
  split at hf
  · rename_i hok
    refine wpAny_For (h1 _ _ _ _ _ _ _ _ _ _ hr he hl hsr e1 fun ad1 x' h1' t1 x1 s1 v1 => ?_) (hs env)
    refine It.start (s := { s with heap := h1', toks := t1 }) s1 v1 hok fun it h2' lo hi kp sz I => ?_
    have x2 : Ext0 ad1 h1' ad1 h2' := Ext0.of kp sz
    have s2 := s1.keeps kp sz
    have hl1 := hl.mono hsr x1
    have hl2 := hl1.mono s1 x2
    have lo' : s.heap.objs.size ≤ it := Nat.le_trans x1.size lo
    have low : c.B.objs.size ≤ it := Nat.le_trans hsr.bs lo'
    have nown : ¬ Own env it := fun q => absurd (hl1.ownLt it q) (Nat.not_lt.mpr lo)
    refine codeAny_forLoop_any (fun j s' => LSt c env (Own env) ad s (fun ad3 l3 H3 h3 => ∃ i, It c ad3 h3 it src i ∧ forF src a g j i l3 H3 = some (fl, l', H')) s') ?_ k
      (.mk ad1 l H1 h2' t1 (x1.trans x2).weaken0 hl2 s2 ⟨0, I, hf⟩)
    rintro j s' ⟨ad3, l3, H3, h3', t3, x3, hl3, s3, i, I3, hf3⟩
    cases j with
    | zero => cases hf3
    | succ j =>
      unfold forF at hf3
      obtain ⟨r, e3, hf3⟩ := Option.bind_eq_some_iff.mp hf3
      refine It.next (s := { s with heap := h3', toks := t3 }) hr.1 s3 low I3 e3 (fun v er v' h4 t4 hv4 I4 s4 x4 => ?_) (fun er h4 s4 x4 => ?_)
      · subst er
        dsimp only at hf3 ⊢
        obtain ⟨⟨l5, H5⟩, e5, hf3⟩ := Option.bind_eq_some_iff.mp hf3
        obtain ⟨⟨fl6, l6, H6⟩, e6, hf3⟩ := Option.bind_eq_some_iff.mp hf3
        have D3 := I3.objAt.dull
        have hl4 : LRel c env l3 ad3 h4 := hl3.monoG s3 x4 D3 fun b hb q => by cases q; exact nown hb
        refine I4.objAt.letGo (s := { s with heap := h4, toks := t4 }) ?_
        refine h2 _ _ _ _ _ { s with heap := h4, toks := t4 } _ _ _ _ _ _ hr he hl4 s4 hv4 e5 fun ad5 h5 t5 x5 hl5 s5 => ?_
        have I5 := I4.move s4 x5 hl4.dull nown
        refine h3 _ _ _ _ _ { s with heap := h5, toks := t5 } _ _ _ _ _ hr he hl5 s5 e6 fun ad6 fl' h6 t6 x6 hl6 s6 r6 => ?_
        have I6 := I5.move s5 x6 hl5.dull nown
        have xall := ((x3.beside x4 lo').trans x5).trans x6
        dsimp only at hf3
        split at hf3
        · cases (r6 : fl' = _)
          exact ⟨j, Nat.lt_succ_self j, .mk ad6 l6 H6 h6 t6 xall hl6 s6 ⟨i + 1, I6, hf3⟩⟩
        · cases hf3
          obtain ⟨u', q, hu⟩ := r6
          subst q
          exact hQ ad6 _ h6 t6 xall hl6 s6 ⟨u', rfl, hu⟩
      · subst er
        dsimp only at hf3 ⊢
        cases hf3
        have D3 := I3.objAt.dull
        have hl4 : LRel c env _ ad3 h4 := hl3.monoG s3 x4 D3 fun b hb q => by cases q; exact nown hb
        exact wpAny_execs_nil (hQ ad3 _ h4 t3 (x3.beside x4 lo') hl4 s4 rfl)
  · cases hf
end
end Nt
end
section
open PySem PySem.W PySem.Spec PySem.Calls PyProof.Rows PySem.SeqAt
namespace Nt
/-! comprehensions -/
noncomputable def relN (ns sc : Scope') : Scope' := ns.map fun (n, k) => if (k == .free && sc.lookup n == some .cell) then (n, .cell) else (n, k)
theorem relabel_names {sc : Scope'} {csc : Scope} {env : Env} (he : EnvOk sc env) : (relabel csc env).names = relN csc.names sc := by
  unfold relabel relN Env.kindOf
  rw [he.kind, he.names]
  dsimp only
  apply List.map_congr_left
  rintro ⟨y, k⟩ _
  have : (ScopeKind.function == ScopeKind.function) = true := rfl
  dsimp only
  rw [this, Bool.and_true]
theorem relN_cell {ns sc : Scope'} {y : Str} (hc : ∀ x ∈ ns, x.2 ≠ .cell) (h : (relN ns sc).lookup y = some .cell) : (y, NameKind.free) ∈ ns ∧ sc.lookup y = some .cell := by
  have hm := mem_of_lookup h
  unfold relN at hm
  obtain ⟨⟨z, k⟩, hz, e⟩ := List.mem_map.mp hm
  dsimp only at e
  split at e
  · rename_i hk
    cases e
    simp only [Bool.and_eq_true, beq_iff_eq] at hk
    obtain ⟨rfl, h2⟩ := hk
    exact ⟨hz, h2⟩
  · cases e
    exact absurd rfl (hc _ hz)
noncomputable def clo (cells : List (Str × Addr)) : List (Str × NameKind) → List (Str × Addr) → List (Str × Addr)
  | [], acc => acc
  | (n, k) :: r, acc => clo cells r (if (k == .free) = true then (n, (cells.lookup n).getD 0) :: acc else acc)
theorem closure_eq {scope : Scope} {env : Env} (h : ∀ x ∈ scope.names, x.2 = .free → ∃ a, env.cells.lookup x.1 = some a) : closureFor scope env = pure (clo env.cells scope.names []) := by
  unfold closureFor
  suffices H : ∀ (ns : List (Str × NameKind)) (acc : List (Str × Addr)), (∀ x ∈ ns, x.2 = .free → ∃ a, env.cells.lookup x.1 = some a) →
      (forIn ns acc fun (x : Str × NameKind) r => (do
        let (name, kind) := x
        if (kind == .free) = true then do
          let a ← cellOf env name
          pure (ForInStep.yield ((name, a) :: r))
        else pure (ForInStep.yield r) : Sem _)) = pure (clo env.cells ns acc) by
    have := H scope.names [] h
    simp only [bind_pure]
    exact this
  intro ns
  induction ns with
  | nil => intro acc _; rfl
  | cons p ns ih =>
    obtain ⟨y, k⟩ := p
    intro acc hx
    rw [List.forIn_cons]
    unfold clo
    by_cases hk : (k == .free) = true
    · rw [if_pos hk]
      obtain ⟨a, ha⟩ := hx (y, k) (.head _) (by simpa using hk)
      dsimp only at ha ⊢
      rw [if_pos hk]
      have : cellOf env y = pure a := by unfold cellOf; rw [ha]
      rw [this, ha, pure_bind, pure_bind]
      exact ih _ fun x hx' => hx x (.tail _ hx')
    · rw [if_neg hk]
      dsimp only
      rw [if_neg hk, pure_bind]
      exact ih _ fun x hx' => hx x (.tail _ hx')
theorem clo_lookup (cells : List (Str × Addr)) : ∀ (ns : List (Str × NameKind)) (acc : List (Str × Addr)), (∀ x ∈ ns, x.2 = .free → ∃ a, cells.lookup x.1 = some a) → (∀ y a, acc.lookup y = some a → cells.lookup y = some a) →
    (∀ y a, (clo cells ns acc).lookup y = some a → cells.lookup y = some a) ∧ (∀ y, ((y, NameKind.free) ∈ ns ∨ ∃ a, acc.lookup y = some a) → ∃ a, (clo cells ns acc).lookup y = some a)
  | [], acc, _, ha => ⟨ha, fun y h => h.elim (fun h => nomatch h) id⟩
  | (z, k) :: ns, acc, hx, ha => by
    unfold clo
    by_cases hk : (k == .free) = true
    · rw [if_pos hk]
      obtain ⟨b, hb⟩ := hx (z, k) (.head _) (by simpa using hk)
      dsimp only at hb
      have ha' : ∀ y a, ((z, (cells.lookup z).getD 0) :: acc).lookup y = some a → cells.lookup y = some a := fun y a e => by
        rw [List.lookup_cons] at e
        cases hy : y == z with
        | true =>
          rw [hy] at e
          have : y = z := by simpa using hy
          subst this
          rw [hb] at e ⊢
          exact e
        | false => rw [hy] at e; exact ha y a e
      obtain ⟨q1, q2⟩ := clo_lookup cells ns _ (fun x hx' => hx x (.tail _ hx')) ha'
      refine ⟨q1, fun y h => q2 y ?_⟩
      by_cases hy : y = z
      · subst hy; exact .inr ⟨_, by simp; rfl⟩
      · rcases h with h | ⟨a, h⟩
        · rcases List.mem_cons.mp h with e | e
          · cases e; exact absurd rfl hy
          · exact .inl e
        · refine .inr ⟨a, ?_⟩
          have : (y == z) = false := by simpa using hy
          rw [List.lookup_cons, this]; exact h
    · rw [if_neg hk]
      obtain ⟨q1, q2⟩ := clo_lookup cells ns acc (fun x hx' => hx x (.tail _ hx')) ha
      refine ⟨q1, fun y h => q2 y ?_⟩
      rcases h with h | h
      · rcases List.mem_cons.mp h with e | e
        · cases e; exact absurd rfl hk
        · exact .inl e
      · exact .inr h

section
variable {c : Cx} {n : Nat} {sc : Scope'}
/-- targets that turn the frame's own names alone -/
noncomputable def AsC (c : Cx) (n : Nat) (sc : Scope') (t : Expr) (f : AsF) : Prop :=
  ∀ (A : Around) (env : Env) (l : Loc) (ad : List Addr) (H : MH) (s : Shared) (v : MV) (v' : Value) (l' : Loc) (H' : MH) (Q : Unit → Shared → Prop) (E : Value → Shared → Prop),
    Room n A → EnvOk sc env → LRel c env l ad s.heap → SRel c ad H s.heap → VRel c.B ad s.heap v v' → f v l H = some (l', H') → ThenL c env ad s l' H' Q → wpAny (model c.prog c.w) A (assign t env v') Q E s
theorem AsC.name {x : String} {pos : Pos} (hk : sc.lookup (S x) = some .local) : AsC c n sc (.Name (S x) pos) (aN x) := by
  intro A env l ad H s v v' l' H' Q E hr he hl hs hv hf hQ
  cases hf
  exact wpAny_assign_Name (storeL he hl hs hv hk hQ)
noncomputable def aTwo (x y : String) : AsF := fun v l H => match v with
  | .tup [a, b] => some (setKV y b (setKV x a l), H)
  | _ => none
theorem AsC.two {x y : String} {px py pos : Pos} {k : Nat} (hx : sc.lookup (S x) = some .local) (hy : sc.lookup (S y) = some .local) : AsC c n sc (.Tuple [.Name (S x) px, .Name (S y) py] k pos) (aTwo x y) := by
  intro A env l ad H s v v' l' H' Q E hr he hl hs hv hf hQ
  unfold aTwo at hf
  split at hf
  · rename_i va vb
    cases hf
    obtain ⟨a, vs, rfl, ht, hvs⟩ := hv
    obtain ⟨w1, r1, rfl, h1, w2, r2, rfl, h2, hnil⟩ := hvs
    cases (hnil : r2 = [])
    rw [arm_assign_Tuple]
    refine wpAny_bind (wpAny_standAt ?_)
    unfold unpack
    have e1 : (assignEach [.Name (S x) px, .Name (S y) py] env).length = ([w1, w2].toArray : Array Value).size := rfl
    have e2 : (assignEach [.Name (S x) px, .Name (S y) py] env).findIdx? (·.1) = none := rfl
    rw [e1, e2]
    refine wpAny_bind (wpAny_holding (with_size (unpackItems_tuple hr.1 ht fun h' k sz => ?_)))
    obtain ⟨hs', x0⟩ := ext_of_unpacked hs sz k
    have hl' := hl.mono hs x0
    show wpAny _ _ (do holding [w2] (assign (.Name (S x) px) env w1); assignInOrder [assign (.Name (S y) py) env] [w2]) Q E _
    refine wpAny_bind (wpAny_holding (wpAny_assign_Name (storeL (s := { s with heap := h' }) he hl' hs' (VRel.mono hs x0 (Dull.none _) _ _ h1) hx fun ad1 h1' t1 x1 hl1 hs1 => ?_)))
    show wpAny _ _ (do holding [] (assign (.Name (S y) py) env w2); assignInOrder [] []) Q E _
    refine wpAny_bind (wpAny_holding (wpAny_assign_Name (storeL (s := { s with heap := h1', toks := t1 }) he hl1 hs1 (VRel.mono hs' x1 hl'.dullL _ _ (VRel.mono hs x0 (Dull.none _) _ _ h2)) hy fun ad2 h2' t2 x2 hl2 hs2 => ?_)))
    exact wpAny_pure (hQ ad2 h2' t2 (x0.weaken0.trans (x1.trans x2)) hl2 hs2)
  · cases hf

/-- the tests of a clause -/
noncomputable def Te (c : Cx) (n : Nat) (sc : Scope') (ifs : List Expr) (f : TrF) : Prop :=
  ∀ (A : Around) (env : Env) (l : Loc) (ad : List Addr) (H : MH) (s : Shared) (b : Bool) (H' : MH) (Q : Bool → Shared → Prop) (E : Value → Shared → Prop),
    Room n A → EnvOk sc env → LRel c env l ad s.heap → SRel c ad H s.heap → f l H = some (b, H') →
    (∀ ad' h' tk', Ext0 ad s.heap ad' h' → SRel c ad' H' h' → Q b { s with heap := h', toks := tk' }) →
    wpAny (model c.prog c.w) A (forIn ifs true fun c r => if r = true then do let ok ← isTrue c env (eval c env); pure (ForInStep.yield ok) else pure (ForInStep.yield r)) Q E s
theorem Te.nil : Te c n sc [] tTrue := by
  intro A env l ad H s b H' Q E hr he hl hs hf hQ
  cases hf
  exact wpAny_tests_nil (hQ ad s.heap s.toks (.refl ..) hs)
theorem Te.one {e : Expr} {f : TrF} (h : Tr c n sc e f) : Te c n sc [e] f := by
  intro A env l ad H s b H' Q E hr he hl hs hf hQ
  exact wpAny_tests_one (h _ _ _ _ _ _ _ _ _ _ hr he hl hs hf hQ)

theorem comp_loop {A : Around} {R : Result → Shared → Prop} {s : Shared} {elt target iter : Expr} {ifs : List Expr} {scope : Scope} {pos : Pos} {it acc : Value} {env : Env} (I : Nat → Shared → Prop)
    (turn : ∀ n s, I n s → wpAny (model c.prog c.w) A (pyNext it) (fun r s₁ => match r with
      | none => R (.ok .next) s₁
      | some v => wpAny (model c.prog c.w) A (letOwnedTupleGo target it v) (fun _ s₁' => wpAny (model c.prog c.w) A (assign target env v) (fun _ s₂ =>
          wpAny (model c.prog c.w) A (forIn ifs true fun c r => if r = true then do let ok ← isTrue c env (eval c env); pure (ForInStep.yield ok) else pure (ForInStep.yield r)) (fun ok s₃ =>
            if ok = true then wpAny (model c.prog c.w) A (eval elt env) (fun x s₄ =>
              wpAny (model c.prog c.w) A (call (.builtin "list.append") [acc, x]) (fun _ s₅ => ∃ m, m < n ∧ I m s₅) (notedBy (model c.prog c.w) A env fun e s' => R (.error e) s') s₄) (notedBy (model c.prog c.w) A env fun e s' => R (.error e) s') s₃
            else ∃ m, m < n ∧ I m s₃) (notedBy (model c.prog c.w) A env fun e s' => R (.error e) s') s₂) (notedBy (model c.prog c.w) A env fun e s' => R (.error e) s') s₁') (notedBy (model c.prog c.w) A env fun e s' => R (.error e) s') s₁) (notedBy (model c.prog c.w) A env fun e s' => R (.error e) s') s)
    (n : Nat) (h : I n s) : codeAny (model c.prog c.w) A (.compLoop (.ListComp elt [⟨target, iter, ifs, 0⟩] scope pos) 0 it acc env) R s := by
  refine codeAny_loop rfl I (fun n s hI => ?_) n h
  show wpAny _ A ((compTurn (.ListComp elt [⟨target, iter, ifs, 0⟩] scope pos) 0 it acc env).onRaise (fun x => do noteFrame x env; theTreesLotGoes x)) _ _ s
  refine wpAny_noted ?_
  rw [compTurn_list]
  refine wpAny_bind (wpAny_standAt (wpAny_bind (wpAny_mono (turn n s hI) (fun r s₁ h₁ => ?_) fun _ _ h' => h')))
  cases r with
  | none => exact wpAny_pure h₁
  | some v =>
    refine wpAny_bind (wpAny_mono h₁ (fun _ s₁' h₁' => ?_) fun _ _ h' => h')
    refine wpAny_bind (wpAny_mono h₁' (fun _ s₂ h₂ => wpAny_bind (wpAny_mono h₂ (fun ok s₃ h₃ => ?_) fun _ _ h' => h')) fun _ _ h' => h')
    cases ok with
    | false => exact wpAny_pure ⟨rfl, h₃⟩
    | true => exact wpAny_bind (wpAny_bind (wpAny_mono h₃ (fun x s₄ h₄ => wpAny_bind (wpAny_mono h₄ (fun _ s₅ h₅ => wpAny_pure (wpAny_pure ⟨rfl, h₅⟩)) fun _ _ h' => h')) fun _ _ h' => h'))

noncomputable def capt (fs : List String) (l : Loc) : Loc := l.filter fun p => fs.contains p.1
theorem capt_lookup (fs : List String) (x : String) : ∀ l : Loc, (capt fs l).lookup x = if fs.contains x = true then l.lookup x else none
  | [] => by unfold capt; simp
  | (y, v) :: l => by
    have ih := capt_lookup fs x l
    unfold capt at ih ⊢
    rw [List.filter_cons, List.lookup_cons]
    cases hxy : x == y with
    | true =>
      have : x = y := by simpa using hxy
      subst this
      dsimp only
      cases hc : fs.contains x with
      | true => simp
      | false => rw [if_neg (by decide), ih, hc]; simp
    | false =>
      dsimp only
      cases hc : fs.contains y with
      | true => rw [if_pos rfl, List.lookup_cons, hxy]; exact ih
      | false => rw [if_neg (by decide)]; exact ih
noncomputable def compF (src : MV) (a : AsF) (t : TrF) (g : EvF) (d : Nat) : Nat → Nat → Loc → MH → Option (Loc × MH)
  | 0, _ => fun _ _ => none
  | k + 1, i => fun l H => (iterAt src i H).bind fun r => match r with
    | none => some (l, H)
    | some v => (a v l H).bind fun x => (t x.1 x.2).bind fun b => if b.1 = true then (g x.1 b.2).bind fun y => (appendF [.ref d, y.1] y.2).bind fun z => compF src a t g d k (i + 1) x.1 z.2
      else compF src a t g d k (i + 1) x.1 b.2
noncomputable def eComp (f : EvF) (fs : List String) (a : AsF) (t : TrF) (g : EvF) (k : Nat) : EvF := fun l H => (f l H).bind fun x => if iterOk x.1 x.2 = true then (compF x.1 a t g x.2.length k 0 (capt fs l) (x.2 ++ [.list []])).map fun y => (.ref x.2.length, y.2) else none
/-- what a comprehension's scope must be -/
structure CompOk (csc : Scope) (sc : Scope') (fs : List String) : Prop where
  cell : ∀ y ∈ csc.names, y.2 ≠ .cell
  kind : csc.kind = .function
  names : ∀ y ∈ csc.names, y.2 = .local → csc.names.lookup y.1 = some .local
  free : ∀ y ∈ csc.names, y.2 = .free → sc.lookup y.1 = some .cell
  capt : ∀ x ∈ fs, (relN csc.names sc).lookup (S x) = some .cell

theorem comp_core {A : Around} {env : Env} {l : Loc} {ad : List Addr} {H : MH} {s : Shared} {csc : Scope} {fs : List String} {t iter elt : Expr} {ifs : List Expr} {pos pos' : Pos} {f : EvF} {a : AsF} {tf : TrF} {g : EvF} {k : Nat} {use : Option (Value → Sem Unit)} {Q E : Value → Shared → Prop} {v : MV} {H' : MH}
    (O : CompOk csc sc fs) (h1 : Ev c n sc iter f) (h2 : AsC c n (relN csc.names sc) t a) (h3 : Te c n (relN csc.names sc) ifs tf) (h4 : Ev c n (relN csc.names sc) elt g) (hfs : ∀ x, foldedSetIterable iter env x = pure x)
    (hr : Room n A) (he : EnvOk sc env) (hl : LRel c env l ad s.heap) (hs : SRel c ad H s.heap) (hf : eComp f fs a tf g k l H = some (v, H'))
    (hQ : ∀ ad5 h5 t5 C D m, Ext0 ad s.heap ad5 h5 → SRel c ad5 H' h5 → s.heap.objs.size ≤ C → C ∉ ad5 → h5.Ns C m → VRel c.B ad5 h5 v (.ref D) → compPost (model c.prog c.w) A E use Q (.ref D) C (.ok .next) { s with heap := h5, toks := t5 }) :
    wpAny (model c.prog c.w) A (comprehension (.ListComp elt [⟨t, iter, ifs, 0⟩] csc pos) csc env pos' (newList []) false (eval iter env) use) Q E s := by
  have hcellsOk : ∀ x ∈ csc.names, x.2 = .free → ∃ b, env.cells.lookup x.1 = some b := fun x hx hk => hl.has x.1 (by unfold Env.kindOf; rw [he.names]; exact O.free x hx hk)
  obtain ⟨⟨src, H1⟩, e1, hf⟩ := Option.bind_eq_some_iff.mp hf
  split at hf
  · rename_i hok
    obtain ⟨⟨l2, H2⟩, e2, hf⟩ := Option.map_eq_some_iff.mp hf
    cases hf
    dsimp only at hok e2 hQ
    refine wpAny_comprehension_free (g := ⟨t, iter, ifs, 0⟩) (gs := []) rfl hfs (closure_eq hcellsOk) O.kind O.names (h1 _ _ _ _ _ _ _ _ _ _ hr he hl hs e1 fun ad1 x' h1' t1 x1 s1 v1 => ?_)
    refine It.start (s := { s with heap := h1', toks := t1 }) s1 v1 hok fun it h2' lo hi kp sz I => ?_
    have x2 : Ext0 ad1 h1' ad1 h2' := Ext0.of kp sz
    have s2 := s1.keeps kp sz
    have hl1 := hl.mono hs x1
    have lo' : s.heap.objs.size ≤ it := Nat.le_trans x1.size lo
    have low : c.B.objs.size ≤ it := Nat.le_trans hs.bs lo'
    have nown : ¬ Own env it := fun q => absurd (hl1.ownLt it q) (Nat.not_lt.mpr lo)
    have hl2 := hl1.mono s1 x2
    refine wpAny_newObj_type ?_ (by show ([] : List Value).toArray.size ≤ sizeLine; simp)
    have kl : ∀ b o, h2'.get? b = some o → (h2'.push { cls := .type "list", dict := none, data := .seq ([] : List Value).toArray }).get? b = some o := fun b o e => Heap.get?_push_of_some _ e
    have zl : (h2'.push { cls := .type "list", dict := none, data := .seq ([] : List Value).toArray }).objs.size = h2'.objs.size + 1 := Heap.size_push ..
    obtain ⟨s3, x3⟩ := s2.push (o' := .list []) (Nat.le_refl _) kl (by rw [zl]; exact Nat.le_succ _) (fun _ x => ⟨[], ⟨0, Heap.get?_push_size _ rfl⟩, rfl⟩) s2.there
    have hD : (ad1 ++ [h2'.objs.size])[H1.length]? = some h2'.objs.size := by rw [← s2.len]; simp
    generalize hh3 : h2'.push { cls := .type "list", dict := none, data := .seq ([] : List Value).toArray } = h3' at s3 x3
    generalize had3 : ad1 ++ [h2'.objs.size] = ad3 at s3 x3 hD
    generalize hDD : h2'.objs.size = D at hD
    generalize ht3 : t1 = t3
    have hl3 := hl2.mono s2 x3
    have I3 := I.move s2 x3 (Dull.none _) id
    refine wpAny_newFunctionEnv O.cell (by intro y hy; simp at hy) (fun h4' hns hsb => ?_) O.kind
    generalize hC : h3'.objs.size = C at hns hsb
    have k4 : ∀ b o, h3'.get? b = some o → h4'.get? b = some o := fun b o e => hsb.extBut b o (by rw [← hC]; exact Nat.ne_of_lt (Heap.lt_size e)) (Heap.get?_push_of_some _ e)
    have z4 : h3'.objs.size ≤ h4'.objs.size := by rw [hsb.1, Heap.size_push]; exact Nat.le_succ _
    have x4 : Ext0 ad3 h3' ad3 h4' := Ext0.of k4 z4
    have s4 := s3.keeps k4 z4
    have hl4 := hl3.mono s3 x4
    have I4 := I3.move s3 x4 (Dull.none _) id
    have hCs : s.heap.objs.size ≤ C := by rw [← hC]; exact Nat.le_trans x1.size (Nat.le_trans x2.size x3.size)
    have hCad : C ∉ ad3 := fun hm => by have := s3.there C hm; rw [hC] at this; exact Nat.lt_irrefl _ this
    have hitC : it ≠ C := fun e => by have := Nat.lt_of_lt_of_le hi x3.size; rw [hC, e] at this; exact Nat.lt_irrefl _ this
    obtain ⟨q1, q2⟩ := clo_lookup env.cells csc.names [] hcellsOk (fun y a e => by simp at e)
    -- the comprehension's own frame
    have hec : EnvOk (relN csc.names sc) (compEnvC csc (clo env.cells csc.names []) C env) := ⟨O.kind, relabel_names he, he.globals, he.builtins⟩
    have hkind : ∀ y, (compEnvC csc (clo env.cells csc.names []) C env).kindOf y = (relN csc.names sc).lookup y := fun y => by unfold Env.kindOf; rw [hec.names]
    have hlc : LRel c (compEnvC csc (clo env.cells csc.names []) C env) (capt fs l) ad3 h4' := by
      refine ⟨⟨_, hns, fun x u e kk => ?_⟩, fun x u e kk => ?_, fun y kk => ?_, fun y b e => hl4.cells y b (q1 y b e), fun y z b e e' => hl4.apart y z b (q1 y b e) (q1 z b e'), hCad, Nat.le_trans hs.bs hCs⟩
      · rw [capt_lookup] at e
        split at e
        · rename_i hx
          rw [hkind, O.capt x (by simpa using hx)] at kk
          cases kk
        · cases e
      · rw [hkind] at kk
        obtain ⟨hm, hsc⟩ := relN_cell O.cell kk
        obtain ⟨b, hb⟩ := q2 (S x) (.inl hm)
        rw [capt_lookup] at e
        split at e
        · obtain ⟨b', v', qb, qv⟩ := hl4.cell x u e (by unfold Env.kindOf; rw [he.names]; exact hsc)
          have := q1 _ _ hb
          rw [qb] at this; cases this
          exact ⟨b, v', hb, qv⟩
        · cases e
      · rw [hkind] at kk
        obtain ⟨hm, hsc⟩ := relN_cell O.cell kk
        exact q2 y (.inl hm)
    have nownC : ∀ b, Own (compEnvC csc (clo env.cells csc.names []) C env) b → b ≠ it := fun b hb e => by
      subst e
      rcases hb with rfl | ⟨y, hy⟩
      · exact hitC rfl
      · exact nown (.inr ⟨y, q1 y _ hy⟩)
    have hDad : ad3[H1.length]? = some D := hD
    have x04 : Ext0 ad s.heap ad3 h4' := x1.trans (x2.trans (x3.trans x4))
    have loop : ∀ s₃ : Shared, s₃ = { s with heap := h4', toks := t3 + ([] : List (Str × Value)).length } →
      codeAny (model c.prog c.w) A (.compLoop (.ListComp elt [⟨t, iter, ifs, 0⟩] csc pos) 0 (.ref it) (.ref D) (compEnvC csc (clo env.cells csc.names []) C env)) (compPost (model c.prog c.w) A E use Q (.ref D) C) s₃ := by
      rintro s₃ rfl
      refine comp_loop (fun j s' => LSt c (compEnvC csc (clo env.cells csc.names []) C env) none' ad s (fun ad5 l5 H5 h5 => ∃ i, It c ad5 h5 it src i ∧ ad5[H1.length]? = some D ∧ compF src a tf g H1.length j i l5 H5 = some (l2, H2)) s') ?_ k
        (.mk ad3 (capt fs l) _ h4' _ x04 hlc s4 ⟨0, I4, hDad, e2⟩)
      rintro j s' ⟨ad5, l5, H5, h5, t5, x5, hl5, s5, i, I5, hD5, hf5⟩
      cases j with
      | zero => cases hf5
      | succ j =>
        unfold compF at hf5
        obtain ⟨r, e3, hf5⟩ := Option.bind_eq_some_iff.mp hf5
        refine It.next (s := { s with heap := h5, toks := t5 }) hr.1 s5 low I5 e3 (fun v er v' h6 t6 hv6 I6 s6 x6 => ?_) (fun er h6 s6 x6 => ?_)
        · subst er
          dsimp only at hf5 ⊢
          obtain ⟨⟨l7, H7⟩, e7, hf5⟩ := Option.bind_eq_some_iff.mp hf5
          obtain ⟨⟨b, H8⟩, e8, hf5⟩ := Option.bind_eq_some_iff.mp hf5
          have D5 := I5.objAt.dull
          have hl6 := hl5.monoG s5 x6 D5 fun b hb q => nownC b hb q
          refine I6.objAt.letGo (s := { s with heap := h6, toks := t6 }) ?_
          refine h2 _ _ _ _ _ { s with heap := h6, toks := t6 } _ _ _ _ _ _ hr hec hl6 s6 hv6 e7 fun ad7 h7 t7 x7 hl7 s7 => ?_
          have I7 := I6.move s6 x7 hl6.dullL fun q => hitC q
          have xa7 : Ext0 ad s.heap ad7 h7 := (x5.beside x6 lo').beside (it := C) x7 hCs
          refine h3 _ _ _ _ _ { s with heap := h7, toks := t7 } _ _ _ _ hr hec hl7 s7 e8 fun ad8 h8 t8 x8 s8 => ?_
          have hl8 := hl7.mono s7 x8
          have I8 := I7.move s7 x8 (Dull.none _) id
          have hD8 := x8.get (x7.get (x6.get hD5))
          cases b with
          | false =>
            simp only [Bool.false_eq_true, if_false] at hf5 ⊢
            exact ⟨j, Nat.lt_succ_self j, .mk ad8 l7 H8 h8 t8 (xa7.trans x8) hl8 s8 ⟨i + 1, I8, hD8, hf5⟩⟩
          | true =>
            simp only [if_true] at hf5 ⊢
            obtain ⟨⟨y, H9⟩, e9, hf5⟩ := Option.bind_eq_some_iff.mp hf5
            obtain ⟨⟨z, H10⟩, e10, hf5⟩ := Option.bind_eq_some_iff.mp hf5
            refine h4 _ _ _ _ _ { s with heap := h8, toks := t8 } _ _ _ _ hr hec hl8 s8 e9 fun ad9 y' h9 t9 x9 s9 r9 => ?_
            have hD9 := x9.get hD8
            refine append_meth.cal _ _ _ { s with heap := h9, toks := t9 } _ _ _ _ _ _ hr s9 (VRels.cons (x := .ref H1.length) (show VRel c.B ad9 h9 (.ref H1.length) (.ref D) from ⟨D, hD9, rfl⟩) (show VRels c.B ad9 h9 [y] [y'] from ⟨y', [], rfl, r9, rfl⟩)) e10 fun ad10 _ h10 t10 x10 s10 _ => ?_
            have I10 := (I8.move s8 x9 (Dull.none _) id).move s9 x10 (Dull.none _) id
            exact ⟨j, Nat.lt_succ_self j, .mk ad10 l7 H10 h10 t10 (xa7.trans (x8.trans (x9.trans x10))) ((hl8.mono s8 x9).mono s9 x10) s10 ⟨i + 1, I10, x10.get hD9, hf5⟩⟩
        · subst er
          dsimp only at hf5 ⊢
          cases hf5
          have D5 := I5.objAt.dull
          have hl6 := hl5.monoG s5 x6 D5 fun b hb q => nownC b hb q
          obtain ⟨m6, hn6, _⟩ := hl6.ns
          exact hQ ad5 h6 t5 C D m6 (x5.beside x6 lo') s6 hCs hl6.off hn6 ⟨D, hD5, rfl⟩
    refine codeAny_compStart_list (loop _ rfl) ?_
    obtain ⟨o, nn, vs, ho, hc, hd, hn⟩ := I4.objAt.obj
    have selfIter : wpAny (model c.prog c.w) A (pyIter (.ref it)) (fun it' s' => codeAny (model c.prog c.w) A (.compLoop (.ListComp elt [⟨t, iter, ifs, 0⟩] csc pos) 0 it' (.ref D) (compEnvC csc (clo env.cells csc.names []) C env)) (compPost (model c.prog c.w) A E use Q (.ref D) C) s') (notedBy (model c.prog c.w) A (compEnvC csc (clo env.cells csc.names []) C env) fun x s' => compPost (model c.prog c.w) A E use Q (.ref D) C (.error x) s') { s with heap := h4', toks := t3 + ([] : List (Str × Value)).length } := by
      unfold It at I4
      split at I4
      · obtain ⟨_, _, _, _, hit⟩ := I4; exact wpAny_pyIter_tupleiter hit (loop _ rfl)
      · obtain ⟨_, _, _, _, hit⟩ := I4; exact wpAny_pyIter_listiter hit (loop _ rfl)
      · obtain ⟨_, _, hit⟩ := I4; exact wpAny_pyIter_listiter hit (loop _ rfl)
      · exact wpAny_pyIter_rangeiter I4 (loop _ rfl)
      · exact I4.elim
    exact selfIter
  · cases hf
theorem Ev.comp {csc : Scope} {t iter elt : Expr} {ifs : List Expr} {pos : Pos} {f : EvF} {a : AsF} {tf : TrF} {g : EvF} (fs : List String) (k : Nat) (O : CompOk csc sc fs) (h1 : Ev c n sc iter f) (h2 : AsC c n (relN csc.names sc) t a) (h3 : Te c n (relN csc.names sc) ifs tf) (h4 : Ev c n (relN csc.names sc) elt g)
    (hfs : ∀ env x, foldedSetIterable iter env x = pure x := by intro _ _; rfl) : Ev c n sc (.ListComp elt [⟨t, iter, ifs, 0⟩] csc pos) (eComp f fs a tf g k) := by
  intro A env l ad H s v H' Q E hr he hl hs hf hQ
  rw [eval_ListComp]
  refine comp_core (use := none) O h1 h2 h3 h4 (hfs env) hr he hl hs hf fun ad5 h5 t5 C D m x5 s5 hC hCad hn r5 => ?_
  refine ⟨m, hn, fun h6 sb => ?_⟩
  have D5 : Dull (OwnI C) h5 := by
    intro b hb o ho
    cases hb
    obtain ⟨o', es, ep, e, ed, _⟩ := hn
    rw [e] at ho; cases ho
    exact .inl ⟨es, ep, ed⟩
  obtain ⟨s6, x6⟩ := s5.own (own := OwnI C) D5 (fun b hb => by cases hb; exact ⟨hCad, Nat.le_trans hs.bs hC⟩) (fun b o hb e => (sb.2 b hb).trans e) (Nat.le_of_eq sb.1.symm)
  exact hQ ad5 _ h6 t5 (x5.beside x6 hC) s6 (VRel.mono s5 x6 D5 _ _ r5)
/-- name = [..]: stored while the comprehension's frame still stands -/
theorem Ex.assignComp {x : String} {px : Pos} {csc : Scope} {t iter elt : Expr} {ifs : List Expr} {pos spos : Pos} {f : EvF} {a : AsF} {tf : TrF} {g : EvF} (fs : List String) (k : Nat) (O : CompOk csc sc fs) (hx : sc.lookup (S x) = some .local) (h1 : Ev c n sc iter f) (h2 : AsC c n (relN csc.names sc) t a) (h3 : Te c n (relN csc.names sc) ifs tf) (h4 : Ev c n (relN csc.names sc) elt g)
    (hsw : ∀ env, EnvOk sc env → swapsWith (.ListComp elt [⟨t, iter, ifs, 0⟩] csc pos) (some (.Name (S x) px)) spos.line env = pure true)
    (hfs : ∀ env x, foldedSetIterable iter env x = pure x := by intro _ _; rfl) : Ex c n sc (.Assign [.Name (S x) px] (.ListComp elt [⟨t, iter, ifs, 0⟩] csc pos) spos) (xAssign (eComp f fs a tf g k) (aN x)) := by
  intro A env l ad H s fl l' H' Q E hr he hl hs hf hQ
  obtain ⟨⟨v, H1⟩, e1, hf⟩ := Option.bind_eq_some_iff.mp hf
  obtain ⟨⟨l2, H2⟩, e2, hf⟩ := Option.map_eq_some_iff.mp hf
  cases hf
  rw [exec_Assign_Name_used _ _ _ _ (hsw env he)]
  refine wpAny_bind (wpAny_standAt (wpAny_bind ?_))
  show wpAny _ A (do let _ ← comprehension (.ListComp elt [⟨t, iter, ifs, 0⟩] csc pos) csc env _ (newList []) false (eval iter env) (some (PySem.assign (.Name (S x) px) env))) _ _ s
  refine wpAny_bind (wpAny_mono (comp_core (use := some (PySem.assign (.Name (S x) px) env)) (Q := fun _ s' => Q .next s') O h1 h2 h3 h4 (hfs env) hr he hl hs e1 fun ad5 h5 t5 C D m x5 s5 hC hCad hn r5 => ?_) (fun _ s' hq => wpAny_pure (wpAny_pure hq)) fun _ _ e => e)
  have hl5 := hl.mono hs x5
  have nC : ¬ Own env C := fun q => absurd (hl.ownLt C q) (Nat.not_lt.mpr hC)
  show wpAny _ A (PySem.assign (.Name (S x) px) env (.ref D)) _ _ _
  cases e2
  refine wpAny_assign_Name (storeL (s := { s with heap := h5, toks := t5 }) he hl5 s5 r5 hx fun ad6 h6 t6 x6 hl6 s6 => ?_)
  have hn6 : h6.Ns C m := by
    obtain ⟨o, es, ep, e, r⟩ := hn
    exact ⟨o, es, ep, x6.keep _ _ e hCad (fun q => nC (.inl q)), r⟩
  refine ⟨m, hn6, fun h7 sb => ?_⟩
  have hCad6 : C ∉ ad6 := x6.notMem hCad hn.lt
  have D6 : Dull (OwnI C) h6 := by
    intro b hb o ho
    cases hb
    obtain ⟨o', es, ep, e, ed, _⟩ := hn6
    rw [e] at ho; cases ho
    exact .inl ⟨es, ep, ed⟩
  obtain ⟨s7, x7⟩ := s6.own (own := OwnI C) D6 (fun b hb => by cases hb; exact ⟨hCad6, Nat.le_trans hs.bs hC⟩) (fun b o hb e => (sb.2 b hb).trans e) (Nat.le_of_eq sb.1.symm)
  have hl7 := hl6.monoG s6 x7 D6 fun b hb q => by cases q; exact nC hb
  have xa : Ext (Own env) ad s.heap ad6 h7 := (x5.weaken0.trans (x6.weaken fun _ q => .inl q)).beside x7 hC
  exact hQ ad6 _ h7 t6 xa hl7 s7 rfl
end
end Nt
end
section
open PySem PySem.W PySem.Spec PySem.Calls PyProof.Rows PySem.SeqAt
namespace Nt
section
variable {c : Cx} {n : Nat} {sc : Scope'}
/-! list(zip(a, b)) -/
noncomputable abbrev IsZipB (h : Heap) (z TI TO T : Addr) (b : Bool) : Prop :=
  h.get? z = some { cls := .type "zip", dict := none, data := .fields #[rawInt T, .bool b, .bool false, .ref TI, .ref TO], slots := #[] }
theorem wpAny_alive {M : Model} {A : Around} {s : Shared} {a : Addr} {Q : Option Obj → Shared → Prop} {E : Value → Shared → Prop} (h : Q (s.heap.get? a) s) : wpAny M A (loadIfAlive a) Q E s := fun _ _ _ => h
theorem zip_again {p : Program} {w : World} {A : Around} {s : Shared} {z TI TO T : Addr} {b : Bool} {Q : Bool → Shared → Prop} {E : Value → Shared → Prop} (hz : IsZipB s.heap z TI TO T b) (hT : ∃ o, s.heap.get? T = some o)
    (hQ : ∀ h', IsZipB h' z TI TO T true → Heap.SameBut z s.heap h' → Q false { s with heap := h' }) : wpAny (model p w) A (Builtin.SmallTypes.ownedTupleIsFree (.ref z)) Q E s := by
  obtain ⟨o, ho⟩ := hT
  unfold Builtin.SmallTypes.ownedTupleIsFree
  refine wpAny_bind (wpAny_field hz rfl (x := rawInt T) rfl ?_)
  show wpAny _ _ (loadIfAlive T >>= _) _ _ _
  refine wpAny_bind (wpAny_alive ?_)
  rw [ho]
  refine wpAny_bind (wpAny_field hz rfl (x := .bool b) rfl ?_)
  cases b with
  | true => exact wpAny_pure (hQ _ hz (Heap.SameBut.refl _ _))
  | false =>
    show wpAny _ _ (setField (.ref z) 1 (.bool true) >>= fun _ => pure false) Q E s
    refine wpAny_bind (wpAny_setField_rec hz (by simp) fun h₁ hz₁ hs₁ => wpAny_pure (hQ h₁ hz₁ hs₁))
theorem zipB_item {p : Program} {w : World} {A : Around} {s : Shared} {z TI TO T i1 i2 l1 l2 : Addr} {b : Bool} {k1 k2 : Nat} {xs ys : Array Value} {x y : Value} {Q : Value → Shared → Prop} {E : Value → Shared → Prop} (hz : IsZipB s.heap z TI TO T b) (hT : ∃ o, s.heap.get? T = some o) (hTI : IsPair s.heap TI (.ref i1) (.ref i2)) 
    (h1 : s.heap.IsListIter i1 l1 k1) (h2 : s.heap.IsListIter i2 l2 k2) (hl1 : s.heap.IsList l1 xs) (hl2 : s.heap.IsList l2 ys) (hx : xs[k1]? = some x) (hy : ys[k2]? = some y)
    (D1 : i1 ≠ z) (D2 : i2 ≠ z) (D3 : i1 ≠ i2) (D4 : l1 ≠ z) (D5 : l2 ≠ z) (D6 : l2 ≠ i1) (D7 : TI ≠ z) 
    (hQ : ∀ h', IsZipB h' z TI TO T true → h'.IsListIter i1 l1 (k1 + 1) → h'.IsListIter i2 l2 (k2 + 1) → IsPair h' s.heap.objs.size x y → h'.objs.size = s.heap.objs.size + 1 →
      (∀ c o, c ≠ z → c ≠ i1 → c ≠ i2 → s.heap.get? c = some o → h'.get? c = some o) → Q (.ref s.heap.objs.size) { s with heap := h' }) :
    wpAny (model p w) A (Builtin.«zip.__next__» ⟨[.ref z], []⟩) (fun fin s' => ∃ v, fin = .done (.ret v) ∧ Q v s') E s := by
  show wpAny _ _ (field (.ref z) 2 >>= _) _ _ _
  refine wpAny_bind (wpAny_field hz rfl (x := .bool false) rfl ?_)
  show wpAny _ _ (field (.ref z) 3 >>= _) _ _ _
  refine wpAny_bind (wpAny_field hz rfl (x := .ref TI) rfl ?_)
  refine wpAny_bind (wpAny_seqItems hTI rfl ?_)
  show wpAny _ _ (Builtin.SmallTypes.ownedTupleIsFree (.ref z) >>= _) _ _ _
  refine wpAny_bind (zip_again hz hT fun h₁ hz₁ hs₁ => ?_)
  simp only [Bool.false_eq_true, if_false]
  rw [← Array.forIn_toList]
  simp only [List.forIn_cons, List.forIn_nil]
  refine wpAny_bind (wpAny_bind (wpAny_bind (wpAny_holding ?_)))
  show wpAny _ _ (Builtin.SmallTypes.nextOf (.ref i1) >>= _) _ _ _
  refine wpAny_bind (wpAny_nextOf_list_item (h1.extBut hs₁.extBut D1) (hl1.extBut hs₁.extBut D4) hx fun h₂ h1₂ hs₂ => wpAny_pure (wpAny_pure ?_))
  refine wpAny_bind (wpAny_bind (wpAny_holding ?_))
  show wpAny _ _ (Builtin.SmallTypes.nextOf (.ref i2) >>= _) _ _ _
  refine wpAny_bind (wpAny_nextOf_list_item ((h2.extBut hs₁.extBut D2).extBut hs₂.extBut D3.symm) ((hl2.extBut hs₁.extBut D5).extBut hs₂.extBut D6) hy fun h₃ h2₃ hs₃ => wpAny_pure (wpAny_pure (wpAny_pure ?_)))
  refine wpAny_bind (wpAny_newTuple ?_ (by show ([x, y] : List Value).length ≤ sizeLine; rw [sizeLine_eq]; show 2 ≤ 2 ^ 24; omega))
  have hsz : h₃.objs.size = s.heap.objs.size := by rw [hs₃.1, hs₂.1, hs₁.1]
  have hk₃ : ∀ c o, c ≠ z → c ≠ i1 → c ≠ i2 → s.heap.get? c = some o → h₃.get? c = some o := fun c o c1 c2 c3 e => hs₃.extBut _ _ c3 (hs₂.extBut _ _ c2 (hs₁.extBut _ _ c1 e))
  have hz₃ : IsZipB h₃ z TI TO T true := hs₃.extBut _ _ D2.symm (hs₂.extBut _ _ D1.symm hz₁)
  have up : ∀ c o, h₃.get? c = some o → (h₃.push { cls := .type "tuple", data := .seq #[x, y] }).get? c = some o := fun c o e => Heap.get?_push_of_some _ e
  have h1₃ := h1₂.extBut hs₃.extBut D3
  refine wpAny_pure ⟨_, rfl, ?_⟩
  show Q (.ref h₃.objs.size) _
  have hQ' := hQ (h₃.push { cls := .type "tuple", data := .seq #[x, y] }) (up _ _ hz₃) (h1₃.at fun o e => up _ o e) (h2₃.at fun o e => up _ o e) (by rw [← hsz]; exact Heap.get?_push_size _ rfl) (by rw [Heap.size_push, hsz]) fun c o c1 c2 c3 e => up _ _ (hk₃ c o c1 c2 c3 e)
  rw [hsz]
  exact hQ'
theorem zipB_end {p : Program} {w : World} {A : Around} {s : Shared} {z TI TO T i1 i2 l1 l2 : Addr} {b : Bool} {k1 k2 : Nat} {xs ys : Array Value} {Q : Fin → Shared → Prop} {E : Value → Shared → Prop} (hh : A.handled = none) (hz : IsZipB s.heap z TI TO T b) (hT : ∃ o, s.heap.get? T = some o) (hTI : IsPair s.heap TI (.ref i1) (.ref i2))
    (h1 : s.heap.IsListIter i1 l1 k1) (h2 : s.heap.IsListIter i2 l2 k2) (hl1 : s.heap.IsList l1 xs) (hl2 : s.heap.IsList l2 ys) (hend : xs[k1]? = none ∨ ys[k2]? = none)
    (D1 : i1 ≠ z) (D2 : i2 ≠ z) (D3 : i1 ≠ i2) (D4 : l1 ≠ z) (D5 : l2 ≠ z) (D6 : l2 ≠ i1)
    (hE : ∀ h' e, (∀ c o, c ≠ z → c ≠ i1 → c ≠ i2 → s.heap.get? c = some o → h'.get? c = some o) → (∃ o, h'.get? e = some o ∧ o.cls = .type "StopIteration") → E (.ref e) { s with heap := h' }) :
    wpAny (model p w) A (Builtin.«zip.__next__» ⟨[.ref z], []⟩) Q E s := by
  show wpAny _ _ (field (.ref z) 2 >>= _) _ _ _
  refine wpAny_bind (wpAny_field hz rfl (x := .bool false) rfl ?_)
  show wpAny _ _ (field (.ref z) 3 >>= _) _ _ _
  refine wpAny_bind (wpAny_field hz rfl (x := .ref TI) rfl ?_)
  refine wpAny_bind (wpAny_seqItems hTI rfl ?_)
  show wpAny _ _ (Builtin.SmallTypes.ownedTupleIsFree (.ref z) >>= _) _ _ _
  refine wpAny_bind (zip_again hz hT fun h₁ hz₁ hs₁ => ?_)
  simp only [Bool.false_eq_true, if_false]
  rw [← Array.forIn_toList]
  simp only [List.forIn_cons, List.forIn_nil]
  refine wpAny_bind (wpAny_bind (wpAny_bind (wpAny_holding ?_)))
  show wpAny _ _ (Builtin.SmallTypes.nextOf (.ref i1) >>= _) _ _ _
  cases hx : xs[k1]? with
  | none =>
    exact wpAny_bind (wpAny_nextOf_list_end hh (h1.extBut hs₁.extBut D1) (hl1.extBut hs₁.extBut D4) hx fun h₂ e hs₂ he => hE h₂ e (fun c o c1 c2 _ q => hs₂ _ _ c2 (hs₁.extBut _ _ c1 q)) he)
  | some x =>
    have hy : ys[k2]? = none := by rcases hend with h | h; rw [hx] at h; cases h; exact h
    refine wpAny_bind (wpAny_nextOf_list_item (h1.extBut hs₁.extBut D1) (hl1.extBut hs₁.extBut D4) hx fun h₂ h1₂ hs₂ => wpAny_pure (wpAny_pure ?_))
    refine wpAny_bind (wpAny_bind (wpAny_holding ?_))
    show wpAny _ _ (Builtin.SmallTypes.nextOf (.ref i2) >>= _) _ _ _
    exact wpAny_bind (wpAny_nextOf_list_end hh ((h2.extBut hs₁.extBut D2).extBut hs₂.extBut D3.symm) ((hl2.extBut hs₁.extBut D5).extBut hs₂.extBut D6) hy fun h₃ e hs₃ he =>
      hE h₃ e (fun c o c1 c2 c3 q => hs₃ _ _ c3 (hs₂.extBut _ _ c2 (hs₁.extBut _ _ c1 q))) he)
theorem pyNext_zipB_item {p : Program} {w : World} {A : Around} {s : Shared} {z TI TO T i1 i2 l1 l2 : Addr} {b : Bool} {k1 k2 : Nat} {xs ys : Array Value} {x y : Value} {Q : Option Value → Shared → Prop} {E : Value → Shared → Prop} (hz : IsZipB s.heap z TI TO T b) (hT : ∃ o, s.heap.get? T = some o) (hTI : IsPair s.heap TI (.ref i1) (.ref i2))
    (h1 : s.heap.IsListIter i1 l1 k1) (h2 : s.heap.IsListIter i2 l2 k2) (hl1 : s.heap.IsList l1 xs) (hl2 : s.heap.IsList l2 ys) (hx : xs[k1]? = some x) (hy : ys[k2]? = some y)
    (D1 : i1 ≠ z) (D2 : i2 ≠ z) (D3 : i1 ≠ i2) (D4 : l1 ≠ z) (D5 : l2 ≠ z) (D6 : l2 ≠ i1) (D7 : TI ≠ z)
    (hQ : ∀ h', IsZipB h' z TI TO T true → h'.IsListIter i1 l1 (k1 + 1) → h'.IsListIter i2 l2 (k2 + 1) → IsPair h' s.heap.objs.size x y → h'.objs.size = s.heap.objs.size + 1 →
      (∀ c o, c ≠ z → c ≠ i1 → c ≠ i2 → s.heap.get? c = some o → h'.get? c = some o) → Q (some (.ref s.heap.objs.size)) { s with heap := h' }) : wpAny (model p w) A (pyNext (.ref z)) Q E s := by
  have hT' : s.TypeIs (.ref z) "zip" := ⟨_, hz, rfl⟩
  unfold pyNext
  exact wpAny_bind (wpAny_attempt (wpAny_callSpecial?_slot (name := Str.ofString "__next__") hT' F.slot_zip_next
    (wpAny_call_entry F.slot_zip_next hT' F.entry_zip_next
      (zipB_item hz hT hTI h1 h2 hl1 hl2 hx hy D1 D2 D3 D4 D5 D6 D7 fun h' a1 a2 a3 a4 a5 a6 => wpAny_pure (hQ h' a1 a2 a3 a4 a5 a6)) (F.args_zip_next_1 _))))
theorem pyNext_zipB_end {p : Program} {w : World} {A : Around} {s : Shared} {z TI TO T i1 i2 l1 l2 : Addr} {b : Bool} {k1 k2 : Nat} {xs ys : Array Value} {Q : Option Value → Shared → Prop} {E : Value → Shared → Prop} (hh : A.handled = none) (hz : IsZipB s.heap z TI TO T b) (hT : ∃ o, s.heap.get? T = some o) (hTI : IsPair s.heap TI (.ref i1) (.ref i2))
    (h1 : s.heap.IsListIter i1 l1 k1) (h2 : s.heap.IsListIter i2 l2 k2) (hl1 : s.heap.IsList l1 xs) (hl2 : s.heap.IsList l2 ys) (hend : xs[k1]? = none ∨ ys[k2]? = none)
    (D1 : i1 ≠ z) (D2 : i2 ≠ z) (D3 : i1 ≠ i2) (D4 : l1 ≠ z) (D5 : l2 ≠ z) (D6 : l2 ≠ i1)
    (hQ : ∀ h', (∀ c o, c ≠ z → c ≠ i1 → c ≠ i2 → s.heap.get? c = some o → h'.get? c = some o) → Q none { s with heap := h' }) : wpAny (model p w) A (pyNext (.ref z)) Q E s := by
  have hT' : s.TypeIs (.ref z) "zip" := ⟨_, hz, rfl⟩
  unfold pyNext
  refine wpAny_bind (wpAny_attempt (wpAny_callSpecial?_slot (name := Str.ofString "__next__") hT' F.slot_zip_next
    (wpAny_call_entry F.slot_zip_next hT' F.entry_zip_next (zipB_end hh hz hT hTI h1 h2 hl1 hl2 hend D1 D2 D3 D4 D5 D6 fun h' e hk he => ?_) (F.args_zip_next_1 _))))
  obtain ⟨o, ho, hc⟩ := he
  refine wpAny_bind (wpAny_isInstance (T := "StopIteration") (b := true) ⟨o, ho, hc⟩ isSubtype_stop ?_)
  exact wpAny_pure (hQ _ hk)
end
end Nt
end
section
open PySem PySem.W PySem.Spec PySem.Calls PyProof.Rows PySem.SeqAt
namespace Nt
theorem zip_no_len : typeLookup (.type "zip") "__len__" = pure none := by rw [typeLookup_type, builtinLookup_eq_fast]; kernel_rfl
theorem zip_no_hint : typeLookup (.type "zip") "__length_hint__" = pure none := by rw [typeLookup_type, builtinLookup_eq_fast]; kernel_rfl
theorem ne_lt {a b : Nat} (h : a < b ∨ b < a) : @Ne Addr a b := fun e => by
  have : a = b := e
  omega
/-- the state of list(zip(..)) after i turns: the zip at n + 4, its parts below, the list at n + 5 -/
structure ZSt (h₀ h : Heap) (n l1 l2 : Nat) (xs ys : Array Value) (i : Nat) (acc : Array Value) (cc : Nat) : Prop where
  zip : IsZip h (n + 4) (n + 2) (n + 3) .none ∨ ∃ (T : Nat) (b : Bool), IsZipB h (n + 4) (n + 2) (n + 3) T b ∧ n + 5 < T ∧ ∃ o, h.get? T = some o
  pTI : IsPair h (n + 2) (.ref n) (.ref (n + 1))
  pTO : ∃ a b, IsPair h (n + 3) a b
  i1 : h.IsListIter n l1 i
  i2 : h.IsListIter (n + 1) l2 i
  l1 : h.IsList l1 xs
  l2 : h.IsList l2 ys
  lst : h.get? (n + 5) = some { cls := .type "list", dict := none, data := .seq acc cc, slots := #[] }
  len : acc.size = i
  acc : ∀ j, j < i → ∃ (T : Nat) (x y : Value), acc[j]? = some (.ref T) ∧ xs[j]? = some x ∧ ys[j]? = some y ∧ IsPair h T x y ∧ n + 5 < T
  old : ∀ b o, h₀.get? b = some o → h.get? b = some o
theorem ZSt.zipType {h₀ : Heap} {n l1 l2 : Nat} {xs ys : Array Value} {i : Nat} {acc : Array Value} {cc : Nat} {s : Shared} (Z : ZSt h₀ s.heap n l1 l2 xs ys i acc cc) : s.TypeIs (.ref (n + 4)) "zip" := by
  rcases Z.zip with e | ⟨T, b, e, _⟩
  · exact ⟨_, e, rfl⟩
  · exact ⟨_, e, rfl⟩
theorem ZSt.zipIter {h₀ : Heap} {n l1 l2 : Nat} {xs ys : Array Value} {i : Nat} {acc : Array Value} {cc : Nat} {s : Shared} {p : Program} {w : World} {A : Around} {Q E : Value → Shared → Prop} (Z : ZSt h₀ s.heap n l1 l2 xs ys i acc cc) (h : Q (.ref (n + 4)) s) : wpAny (model p w) A (pyIter (.ref (n + 4))) Q E s := by
  refine wpAny_pyIter_slot Z.zipType F.slot_zip_iter (wpAny_call_entry F.slot_zip_iter Z.zipType F.entry_zip_iter ?_ (F.args_zip_iter_1 _))
  show wpAny _ _ (ret (.ref (n + 4))) _ _ s
  exact wpAny_pure ⟨_, rfl, "zip", _, Z.zipType, F.slot_zip_next.lookup, h⟩
theorem ZSt.item {h₀ : Heap} {n l1 l2 : Nat} {xs ys : Array Value} {i : Nat} {acc : Array Value} {cc : Nat} {s : Shared} {p : Program} {w : World} {A : Around} {Q : Option Value → Shared → Prop} {E : Value → Shared → Prop} (Z : ZSt h₀ s.heap n l1 l2 xs ys i acc cc) (hl1 : l1 < n) (hl2 : l2 < n) (h0 : h₀.objs.size ≤ n)
    {x y : Value} (hx : xs[i]? = some x) (hy : ys[i]? = some y)
    (hQ : ∀ h' T, (h'.get? (n + 5) = some { cls := .type "list", dict := none, data := .seq acc cc, slots := #[] }) →
      (∀ h'' c', h''.get? (n + 5) = some { cls := .type "list", dict := none, data := .seq (acc.push (.ref T)) c', slots := #[] } → (∀ b o, b ≠ n + 5 → h'.get? b = some o → h''.get? b = some o) → ZSt h₀ h'' n l1 l2 xs ys (i + 1) (acc.push (.ref T)) c') → Q (some (.ref T)) { s with heap := h' }) :
    wpAny (model p w) A (pyNext (.ref (n + 4))) Q E s := by
  have z5 : n + 5 < s.heap.objs.size := Heap.lt_size Z.lst
  have fin : ∀ h' : Heap, (IsZip h' (n + 4) (n + 2) (n + 3) .none ∨ ∃ (T : Nat) (b : Bool), IsZipB h' (n + 4) (n + 2) (n + 3) T b ∧ n + 5 < T ∧ ∃ o, h'.get? T = some o) → (∃ a b, IsPair h' (n + 3) a b) → h'.IsListIter n l1 (i + 1) → h'.IsListIter (n + 1) l2 (i + 1) → IsPair h' s.heap.objs.size x y →
      (∀ c o, c ≠ n + 4 → c ≠ n + 3 → c ≠ n → c ≠ n + 1 → s.heap.get? c = some o → h'.get? c = some o) → Q (some (.ref s.heap.objs.size)) { s with heap := h' } := by
    intro h' hz hTO hi1 hi2 hp hk
    refine hQ h' s.heap.objs.size (hk _ _ (ne_lt (by omega)) (ne_lt (by omega)) (ne_lt (by omega)) (ne_lt (by omega)) Z.lst) fun h'' c' hS hk' => ?_
    have up : ∀ b o, b ≠ n + 5 → h'.get? b = some o → h''.get? b = some o := hk'
    refine ⟨?_, up _ _ (ne_lt (by omega)) (hk _ _ (ne_lt (by omega)) (ne_lt (by omega)) (ne_lt (by omega)) (ne_lt (by omega)) Z.pTI), ?_, hi1.at fun o e => up _ o (ne_lt (by omega)) e, hi2.at fun o e => up _ o (ne_lt (by omega)) e, Z.l1.at fun o e => up _ o (ne_lt (by omega)) (hk _ o (ne_lt (by omega)) (ne_lt (by omega)) (ne_lt (by omega)) (ne_lt (by omega)) e),
      Z.l2.at fun o e => up _ o (ne_lt (by omega)) (hk _ o (ne_lt (by omega)) (ne_lt (by omega)) (ne_lt (by omega)) (ne_lt (by omega)) e), hS, by rw [Array.size_push, Z.len], fun j hj => ?_, fun b o e => ?_⟩
    · rcases hz with e | ⟨T, b, e, hT, o, ho⟩
      · exact .inl (up _ _ (ne_lt (by omega)) e)
      · exact .inr ⟨T, b, up _ _ (ne_lt (by omega)) e, hT, o, up _ _ (ne_lt (by omega)) ho⟩
    · obtain ⟨a, b, e⟩ := hTO
      exact ⟨a, b, up _ _ (ne_lt (by omega)) e⟩
    · by_cases hji : j < i
      · obtain ⟨T, x', y', q1, q2, q3, q4, q5⟩ := Z.acc j hji
        refine ⟨T, x', y', ?_, q2, q3, up _ _ (ne_lt (by omega)) (hk _ _ (ne_lt (by omega)) (ne_lt (by omega)) (ne_lt (by omega)) (ne_lt (by omega)) q4), q5⟩
        rw [Array.getElem?_push, if_neg (by rw [Z.len]; exact Nat.ne_of_lt hji)]; exact q1
      · have : j = i := by omega
        subst this
        refine ⟨s.heap.objs.size, x, y, ?_, hx, hy, up _ _ (ne_lt (by omega)) hp, by omega⟩
        rw [Array.getElem?_push, if_pos Z.len.symm]
    · have hb : @LT.lt Nat _ b h₀.objs.size := Heap.lt_size e
      exact up _ _ (ne_lt (by omega)) (hk _ _ (ne_lt (by omega)) (ne_lt (by omega)) (ne_lt (by omega)) (ne_lt (by omega)) (Z.old b o e))
  rcases Z.zip with e | ⟨T, b, e, hTl, hT⟩
  · obtain ⟨a, b, hTO⟩ := Z.pTO
    refine wpAny_pyNext_zip_item ⟨ne_lt (by omega), ne_lt (by omega), ne_lt (by omega), ne_lt (by omega), ne_lt (by omega), ne_lt (by omega), ne_lt (by omega), ne_lt (by omega), ne_lt (by omega), ne_lt (by omega), ne_lt (by omega), ne_lt (by omega), ne_lt (by omega), ne_lt (by omega), ne_lt (by omega), ne_lt (by omega), ne_lt (by omega), ne_lt (by omega)⟩ e Z.pTI hTO Z.i1 Z.i2 Z.l1 Z.l2 hx hy fun h' a1 a2 a3 a4 a5 a6 a7 => ?_
    exact fin h' (.inr ⟨_, false, a1, z5, _, a5⟩) ⟨x, y, a2⟩ a3 a4 a5 (fun c o c1 c2 c3 c4 q => a7 c o c1 c2 c3 c4 q)
  · refine pyNext_zipB_item e hT Z.pTI Z.i1 Z.i2 Z.l1 Z.l2 hx hy (ne_lt (by omega)) (ne_lt (by omega)) (ne_lt (by omega)) (ne_lt (by omega)) (ne_lt (by omega)) (ne_lt (by omega)) (ne_lt (by omega)) fun h' a1 a3 a4 a5 a6 a7 => ?_
    obtain ⟨a, b', hTO⟩ := Z.pTO
    obtain ⟨oT, hoT⟩ := hT
    exact fin h' (.inr ⟨T, true, a1, hTl, oT, a7 _ _ (ne_lt (by omega)) (ne_lt (by omega)) (ne_lt (by omega)) hoT⟩) ⟨a, b', a7 _ _ (ne_lt (by omega)) (ne_lt (by omega)) (ne_lt (by omega)) hTO⟩ a3 a4 a5 (fun c o c1 c2 c3 c4 q => a7 c o c1 c3 c4 q)
theorem ZSt.done {h₀ : Heap} {n l1 l2 : Nat} {xs ys : Array Value} {i : Nat} {acc : Array Value} {cc : Nat} {s : Shared} {p : Program} {w : World} {A : Around} {Q : Option Value → Shared → Prop} {E : Value → Shared → Prop} (hh : A.handled = none) (Z : ZSt h₀ s.heap n l1 l2 xs ys i acc cc) (hl1 : l1 < n) (hl2 : l2 < n) (h0 : h₀.objs.size ≤ n)
    (hend : xs[i]? = none ∨ ys[i]? = none)
    (hQ : ∀ h', h'.get? (n + 5) = some { cls := .type "list", dict := none, data := .seq acc cc, slots := #[] } → (∀ b o, h₀.get? b = some o → h'.get? b = some o) →
      (∀ j, j < i → ∃ (T : Nat) (x y : Value), acc[j]? = some (.ref T) ∧ xs[j]? = some x ∧ ys[j]? = some y ∧ IsPair h' T x y) → Q none { s with heap := h' }) :
    wpAny (model p w) A (pyNext (.ref (n + 4))) Q E s := by
  have fin : ∀ h' : Heap, (∀ c o, c ≠ n + 4 → c ≠ n + 3 → c ≠ n → c ≠ n + 1 → s.heap.get? c = some o → h'.get? c = some o) → Q none { s with heap := h' } := by
    intro h' hk
    refine hQ h' (hk _ _ (ne_lt (by omega)) (ne_lt (by omega)) (ne_lt (by omega)) (ne_lt (by omega)) Z.lst) (fun b o e => ?_) fun j hj => ?_
    · have hb : @LT.lt Nat _ b h₀.objs.size := Heap.lt_size e
      exact hk _ _ (ne_lt (by omega)) (ne_lt (by omega)) (ne_lt (by omega)) (ne_lt (by omega)) (Z.old b o e)
    · obtain ⟨T, x', y', q1, q2, q3, q4, q5⟩ := Z.acc j hj
      exact ⟨T, x', y', q1, q2, q3, hk _ _ (ne_lt (by omega)) (ne_lt (by omega)) (ne_lt (by omega)) (ne_lt (by omega)) q4⟩
  rcases Z.zip with e | ⟨T, b, e, hTl, hT⟩
  · obtain ⟨a, b, hTO⟩ := Z.pTO
    refine wpAny_pyNext_zip_end hh ⟨ne_lt (by omega), ne_lt (by omega), ne_lt (by omega), ne_lt (by omega), ne_lt (by omega), ne_lt (by omega), ne_lt (by omega), ne_lt (by omega), ne_lt (by omega), ne_lt (by omega), ne_lt (by omega), ne_lt (by omega), ne_lt (by omega), ne_lt (by omega), ne_lt (by omega), ne_lt (by omega), ne_lt (by omega), ne_lt (by omega)⟩ e Z.pTI hTO Z.i1 Z.i2 Z.l1 Z.l2 hend fun h' hk => ?_
    exact fin h' hk
  · exact pyNext_zipB_end hh e hT Z.pTI Z.i1 Z.i2 Z.l1 Z.l2 hend (ne_lt (by omega)) (ne_lt (by omega)) (ne_lt (by omega)) (ne_lt (by omega)) (ne_lt (by omega)) (ne_lt (by omega)) fun h' hk => fin h' fun c o c1 c2 c3 c4 q => hk c o c1 c3 c4 q

theorem zip_loop {h₀ : Heap} {n l1 l2 : Nat} {xs ys : Array Value} {p : Program} {w : World} {A : Around} {R : Result → Shared → Prop} (hh : A.handled = none) (hl1 : l1 < n) (hl2 : l2 < n) (h0 : h₀.objs.size ≤ n) (hs1 : xs.size ≤ 1000) :
    ∀ (k i : Nat) (s : Shared) (acc : Array Value) (cc : Nat), xs.size + 1 - i = k → i ≤ xs.size → i ≤ ys.size → ZSt h₀ s.heap n l1 l2 xs ys i acc cc →
    (∀ h' acc' c' m, acc'.size = m → (xs[m]? = none ∨ ys[m]? = none) → h'.get? (n + 5) = some { cls := .type "list", dict := none, data := .seq acc' c', slots := #[] } → (∀ b o, h₀.get? b = some o → h'.get? b = some o) →
      (∀ j, j < m → ∃ (T : Nat) (x y : Value), acc'[j]? = some (.ref T) ∧ xs[j]? = some x ∧ ys[j]? = some y ∧ IsPair h' T x y) → R (.ok (.ret .none)) { s with heap := h' }) →
    codeAny (model p w) A (.builtin "list.extend.loop" ⟨[.ref (n + 5), .ref (n + 4), .none], []⟩) R s := by
  intro k
  induction k with
  | zero => intro i s acc cc hk hi; omega
  | succ k ih =>
    intro i s acc cc hk hi hi2 Z hR
    refine codeAny_builtin F.entry_extend_loop ?_
    rw [Around.under_plainId F.plain_extend_loop _]
    show wpAny _ A.in1 (pyNext (.ref (n + 4)) >>= _) _ _ s
    refine wpAny_bind ?_
    by_cases he : xs[i]? = none ∨ ys[i]? = none
    · exact Z.done hh hl1 hl2 h0 he fun h' e1 e2 e3 => wpAny_pure (hR h' acc cc i Z.len he e1 e2 e3)
    cases hx : xs[i]? with
    | none => exact absurd (.inl hx) he
    | some x =>
      cases hy : ys[i]? with
      | none => exact absurd (.inr hy) he
      | some y =>
        have hlx : i < xs.size := (Array.getElem?_eq_some_iff.mp hx).1
        have hly : i < ys.size := (Array.getElem?_eq_some_iff.mp hy).1
        refine Z.item hl1 hl2 h0 hx hy fun h' T e1 e2 => ?_
        show wpAny _ A.in1 (updateSeq (n + 5) (·.push (.ref T)) >>= _) _ _ _
        refine wpAny_bind (wpAny_updateSeq e1 rfl (wpAny_pure ⟨plainId_quiet F.plain_extend_loop _, ih (i + 1) _ (acc.push (.ref T)) _ (by omega) hlx hly (e2 _ _ (Heap.get?_update_self _ e1 rfl) fun b o hb e => (Heap.get?_update_other _ _ (Ne.symm hb)).trans e) fun h2 acc' c' m q1 q2 q3 q4 q5 => hR h2 acc' c' m q1 q2 q3 q4 q5⟩)
          (by rw [Z.len, sizeLine_eq]; omega) (by show (acc.push (.ref T)).size ≤ sizeLine + 1; rw [Array.size_push, Z.len, sizeLine_eq]; omega))
end Nt
end
section
open PySem PySem.W PySem.Spec PySem.Calls PyProof.Rows PySem.SeqAt
namespace Nt
theorem call_list_init {p : Program} {w : World} {A : Around} {s : Shared} {a : Addr} {Q E : Value → Shared → Prop}
    (h : ∀ S, S = s.heap.objs.size → wpAny (model p w) A.in1.in1 (Builtin.List.listExtendWith (.ref S) (.ref a) .none)
      (fun fin s' => match fin with | .done f => wants (fun r s₂ => r = .none ∧ Q (.ref S) s₂) E (.ok f) s' | .again c' => c'.quiet = true ∧ codeAny (model p w) A.in1 c' (wants (fun r s₂ => r = .none ∧ Q (.ref S) s₂) E) s')
      (fun e s' => wants (fun r s₂ => r = .none ∧ Q (.ref S) s₂) E (.error e) s') { s with heap := (s.heap.push { cls := .type "list", data := .seq #[] }).update S (Obj.mapSeq (fun _ => (#[] : Array Value))) }) :
    wpAny (model p w) A (call (.type "list") [.ref a]) Q E s := by
  refine callType_codes (Q₁ := fun obj s₁ => obj = .ref s.heap.objs.size ∧ s₁ = { s with heap := s.heap.push { cls := .type "list", data := .seq #[] } }) F.called_list (F.typeCall_list_1 _) F.entry_list_init
    (code_list_new _ ⟨rfl, rfl⟩) fun obj s₁ h₁ => ?_
  obtain ⟨rfl, rfl⟩ := h₁
  have hS : (s.heap.push { cls := .type "list", data := .seq #[] }).get? s.heap.objs.size = some { cls := .type "list", data := .seq #[] } := Heap.get?_push_size _ rfl
  refine ⟨⟨_, hS, rfl⟩, F.args_list_init_2 _ _, ?_⟩
  show wpAny _ A.in1.in1 (do let old ← Builtin.List.listItems (.ref s.heap.objs.size); Builtin.List.listUpdate (.ref s.heap.objs.size) (fun _ => #[]); letGo old.toList.reverse; Builtin.List.listExtendWith (.ref s.heap.objs.size) (.ref a) .none) _ _ _
  refine wpAny_bind ?_
  unfold Builtin.List.listItems
  refine wpAny_bind (wpAny_seqItems hS rfl (wpAny_pure ?_))
  show wpAny _ A.in1.in1 (updateSeq s.heap.objs.size (fun _ => #[]) >>= fun _ => letGo (#[] : Array Value).toList.reverse >>= fun _ => Builtin.List.listExtendWith (.ref s.heap.objs.size) (.ref a) .none) _ _ _
  refine wpAny_bind (wpAny_updateSeq hS rfl ?_)
  exact wpAny_bind (wpAny_letGo (h _ rfl))
theorem call_list_zip {p : Program} {w : World} {A : Around} {s : Shared} {h₀ : Heap} {n l1 l2 : Nat} {xs ys : Array Value} {Q E : Value → Shared → Prop} (hh : A.handled = none) (hn : s.heap.objs.size = n + 5) (hl1 : l1 < n) (hl2 : l2 < n) (h0 : h₀.objs.size ≤ n) (hs1 : xs.size ≤ 1000)
    (hz : IsZip s.heap (n + 4) (n + 2) (n + 3) .none) (hTI : IsPair s.heap (n + 2) (.ref n) (.ref (n + 1))) (hTO : IsPair s.heap (n + 3) .none .none) (hi1 : s.heap.IsListIter n l1 0) (hi2 : s.heap.IsListIter (n + 1) l2 0) (hL1 : s.heap.IsList l1 xs) (hL2 : s.heap.IsList l2 ys)
    (old : ∀ b o, h₀.get? b = some o → s.heap.get? b = some o)
    (hQ : ∀ h' acc' c' m, acc'.size = m → (xs[m]? = none ∨ ys[m]? = none) → h'.get? (n + 5) = some { cls := .type "list", dict := none, data := .seq acc' c', slots := #[] } → (∀ b o, h₀.get? b = some o → h'.get? b = some o) →
      (∀ j, j < m → ∃ (T : Nat) (x y : Value), acc'[j]? = some (.ref T) ∧ xs[j]? = some x ∧ ys[j]? = some y ∧ IsPair h' T x y) → Q (.ref (n + 5)) { s with heap := h' }) :
    wpAny (model p w) A (call (.type "list") [.ref (n + 4)]) Q E s := by
  refine call_list_init fun S eS => ?_
  have eS' : S = n + 5 := eS.trans hn
  subst eS'
  have hS : (s.heap.push { cls := .type "list", data := .seq #[] }).get? (n + 5) = some { cls := .type "list", data := .seq #[] } := by rw [← hn]; exact Heap.get?_push_size _ rfl
  have hS₂ := Heap.get?_update_self (Obj.mapSeq (fun _ => (#[] : Array Value))) hS rfl
  have up2 : ∀ b o, b ≠ n + 5 → s.heap.get? b = some o → ((s.heap.push { cls := .type "list", data := .seq #[] }).update (n + 5) (Obj.mapSeq (fun _ => (#[] : Array Value)))).get? b = some o := fun b o hb e => (Heap.get?_update_other _ _ (Ne.symm hb)).trans (Heap.get?_push_of_some _ e)
  unfold Builtin.List.listExtendWith
  have hz2 := up2 _ _ (ne_lt (by omega)) hz
  refine wpAny_bind (wpAny_typeOf ⟨_, hz2, rfl⟩ ?_)
  have q1 : Builtin.List.listSameRef (.ref (n + 5)) (.ref (n + 4)) = false := by simp [Builtin.List.listSameRef]
  have q2 : (Value.type "zip" == Value.type "list") = false := by decide
  have q3 : (Value.type "zip" == Value.type "tuple") = false := by decide
  simp only [q1, q2, q3, Bool.or_false, Bool.false_eq_true, if_false]
  refine wpAny_bind (wpAny_pyIter_zip hz2 ?_)
  refine wpAny_bind (wpAny_holding ?_)
  unfold Builtin.List.listLengthHint
  refine wpAny_bind (wpAny_specialOf ⟨_, hz2, rfl⟩ zip_no_len ?_)
  show wpAny _ A.in1.in1 (specialOf (Value.ref (n + 4)) (Str.ofString "__length_hint__") >>= _) _ _ _
  refine wpAny_bind (wpAny_specialOf ⟨_, hz2, rfl⟩ zip_no_hint ?_)
  refine wpAny_pure ?_
  show wpAny _ A.in1.in1 (rule "list.extend.makes-room" >>= fun _ => Builtin.List.listTouch (.ref (n + 5)) >>= fun _ =>
    again (.builtin "list.extend.loop" ⟨[.ref (n + 5), .ref (n + 4), .none], []⟩)) _ _ _
  refine wpAny_bind (wpAny_rule ?_)
  refine wpAny_bind ?_
  show wpAny _ A.in1.in1 (updateSeq (n + 5) (·.push .none) >>= fun _ => updateSeq (n + 5) (·.pop)) _ _ _
  refine wpAny_bind (wpAny_updateSeq hS₂ rfl ?_)
  have hS₃ := Heap.get?_update_self (Obj.mapSeq (·.push Value.none)) hS₂ rfl
  refine wpAny_updateSeq (hz := by seq_fits) hS₃ rfl ?_
  have hS₄ := Heap.get?_update_self (Obj.mapSeq (·.pop)) hS₃ rfl
  have up : ∀ b o, b ≠ n + 5 → s.heap.get? b = some o → ((((s.heap.push { cls := .type "list", data := .seq #[] }).update (n + 5) (Obj.mapSeq (fun _ => (#[] : Array Value)))).update (n + 5) (Obj.mapSeq (·.push Value.none))).update (n + 5) (Obj.mapSeq (·.pop))).get? b = some o :=
    fun b o hb e => (Heap.get?_update_other _ _ (Ne.symm hb)).trans ((Heap.get?_update_other _ _ (Ne.symm hb)).trans (up2 b o hb e))
  obtain ⟨cc, hS5⟩ : ∃ cc, ((((s.heap.push { cls := .type "list", data := .seq #[] }).update (n + 5) (Obj.mapSeq (fun _ => (#[] : Array Value)))).update (n + 5) (Obj.mapSeq (·.push Value.none))).update (n + 5) (Obj.mapSeq (·.pop))).get? (n + 5) = some { cls := .type "list", dict := none, data := .seq #[] cc, slots := #[] } := ⟨_, hS₄⟩
  clear hS₄ hS₃ hS₂ up2 hz2
  generalize ((((s.heap.push { cls := .type "list", data := .seq #[] }).update (n + 5) (Obj.mapSeq (fun _ => (#[] : Array Value)))).update (n + 5) (Obj.mapSeq (·.push Value.none))).update (n + 5) (Obj.mapSeq (·.pop))) = h4 at up hS5 ⊢
  refine wpAny_pure ⟨plainId_quiet F.plain_extend_loop _, ?_⟩
  have Z4 : ZSt h₀ h4 n l1 l2 xs ys 0 #[] cc := ⟨.inl (up _ _ (ne_lt (by omega)) hz), up _ _ (ne_lt (by omega)) hTI, ⟨_, _, up _ _ (ne_lt (by omega)) hTO⟩, hi1.at fun o e => up _ o (ne_lt (by omega)) e, hi2.at fun o e => up _ o (ne_lt (by omega)) e,
    hL1.at fun o e => up _ o (ne_lt (by omega)) e, hL2.at fun o e => up _ o (ne_lt (by omega)) e, hS5, rfl, fun j hj => by omega, fun b o e => by
      have hb : @LT.lt Nat _ b h₀.objs.size := Heap.lt_size e
      exact up _ _ (ne_lt (by omega)) (old b o e)⟩
  refine zip_loop (A := A.in1) hh hl1 hl2 h0 hs1 _ 0 { s with heap := h4 } #[] cc rfl (Nat.zero_le _) (Nat.zero_le _) Z4 fun h' acc' c' m e1 e2 e3 e4 e5 => ?_
  exact ⟨rfl, hQ h' acc' c' m e1 e2 e3 e4 e5⟩

section
variable {c : Cx} {n : Nat} {sc : Scope'}
noncomputable def zipM : List MV → List MV → List MV
  | x :: xs, y :: ys => .tup [x, y] :: zipM xs ys
  | _, _ => []
noncomputable def zipL (a b : MV) (H : MH) : Option (MV × MH) := (anyL a H).bind fun xs => (anyL b H).bind fun ys => if xs.length ≤ 1000 then some (.ref H.length, H ++ [.list (zipM xs ys)]) else none
theorem zip_rel {B : Heap} {ad : List Addr} {h : Heap} : ∀ {l l' : List MV} {xs ys : List Value} {acc : List Value} {m : Nat}, VRels B ad h l xs → VRels B ad h l' ys → acc.length = m → (xs[m]? = none ∨ ys[m]? = none) →
    (∀ j, j < m → ∃ (T : Nat) (x y : Value), acc[j]? = some (.ref T) ∧ xs[j]? = some x ∧ ys[j]? = some y ∧ IsPair h T x y) → VRels B ad h (zipM l l') acc
  | [], l', _, ys, acc, m, e, _, hm, hend, ha => by
    cases (e : _ = [])
    have : m = 0 := by
      rcases Nat.eq_zero_or_pos m with q | q
      · exact q
      · obtain ⟨_, _, _, _, q2, _⟩ := ha 0 q; simp at q2
    subst this
    have := List.eq_nil_of_length_eq_zero hm
    subst this
    unfold zipM; rfl
  | x :: l, [], _, _, acc, m, ⟨_, _, e, _, _⟩, e', hm, hend, ha => by
    cases (e' : _ = [])
    have : m = 0 := by
      rcases Nat.eq_zero_or_pos m with q | q
      · exact q
      · obtain ⟨_, _, _, _, _, q2, _⟩ := ha 0 q; simp at q2
    subst this
    have := List.eq_nil_of_length_eq_zero hm
    subst this
    unfold zipM; rfl
  | x :: l, y :: l', _, _, acc, m, ⟨x', xr, e, hx, r⟩, ⟨y', yr, e', hy, r'⟩, hm, hend, ha => by
    subst e e'
    cases acc with
    | nil =>
      simp at hm; subst hm
      rcases hend with q | q <;> simp at q
    | cons v acc =>
      cases m with
      | zero => simp at hm
      | succ m =>
        obtain ⟨T, x2, y2, q1, q2, q3, q4⟩ := ha 0 (Nat.succ_pos m)
        simp at q1 q2 q3
        subst q1 q2 q3
        refine ⟨_, acc, rfl, ⟨T, [x', y'], rfl, ⟨_, q4, rfl, _, rfl⟩, ⟨x', [y'], rfl, hx, ⟨y', [], rfl, hy, rfl⟩⟩⟩, ?_⟩
        refine zip_rel r r' (m := m) (by simpa using hm) (by simpa using hend) fun j hj => ?_
        obtain ⟨T, x3, y3, p1, p2, p3, p4⟩ := ha (j + 1) (Nat.succ_lt_succ hj)
        exact ⟨T, x3, y3, by simpa using p1, by simpa using p2, by simpa using p3, p4⟩
noncomputable def eZip (f g : EvF) : EvF := fun l H => (f l H).bind fun x => (g l x.2).bind fun y => zipL x.1 y.1 y.2
theorem Ev.listZip {x1 x2 : Str} {np1 np2 pos1 pos2 : Pos} {a b : Expr} {f g : EvF} (C : c.Ok) (hf : Ev c n sc (.Name x1 np1) (eC (.raw (.type "list")))) (hf2 : Ev c n sc (.Name x2 np2) (eC (.raw (.type "zip")))) (h1 : Ev c n sc a f) (h2 : Ev c n sc b g)
    (hp1 : NoStar [b] := by intro _; rfl) (hp2 : NoStar [a, b] := by intro _; rfl) : Ev c n sc (.Call (.Name x1 np1) [.Call (.Name x2 np2) [a, b] [] pos2] [] pos1) (eZip f g) := by
  intro A env l ad H s v H' Q E hr he hl hs hfn hQ
  obtain ⟨⟨x, H1⟩, e1, hfn⟩ := Option.bind_eq_some_iff.mp hfn
  obtain ⟨⟨y, H2⟩, e2, hfn⟩ := Option.bind_eq_some_iff.mp hfn
  unfold zipL at hfn
  obtain ⟨xs, e3, hfn⟩ := Option.bind_eq_some_iff.mp hfn
  obtain ⟨ys, e4, hfn⟩ := Option.bind_eq_some_iff.mp hfn
  split at hfn
  · rename_i hlen
    cases hfn
    show wpAny _ _ (do callWith pos1 (← eval (.Name x1 np1) env) [] (backTo pos1 (starEach [.Call (.Name x2 np2) [a, b] [] pos2] env)) []) _ _ _
    refine wpAny_bind (hf _ _ _ _ _ _ _ _ _ _ hr he hl hs rfl fun ad1 f' h1' t1 x1 s1 v1 => ?_)
    cases (v1 : f' = .type "list")
    have hl1 := hl.mono hs x1
    refine callW .type (by intro _; rfl) (spliced_more ?_ rfl)
    show wpAny _ _ (do callWith pos2 (← eval (.Name x2 np2) env) [] (backTo pos2 (starEach [a, b] env)) []) _ _ _
    refine wpAny_bind (hf2 _ _ _ _ _ { s with heap := h1', toks := t1 } _ _ _ _ hr he hl1 s1 rfl fun ad2 f'' h2' t2 x2 s2 v2 => ?_)
    cases (v2 : f'' = .type "zip")
    have hl2 := hl1.mono s1 x2
    have eL : lCons f (lCons g lNil) l H = some ([x, y], H2) := by
      unfold lCons lNil
      rw [e1]
      dsimp only [Option.bind_some]
      rw [e2]
      rfl
    refine callW .type hp2 ((EvL.cons h1 (EvL.cons h2 EvL.nil (by intro env; rw [hp1 env]; rfl)) (by intro env; rw [hp2 env, hp1 env]; rfl)) _ _ _ _ _ { s with heap := h2', toks := t2 } _ _ _ _ _ hr he hl2 s2 eL fun ad3 vs h3' t3 x3 s3 v3 => ?_)
    obtain ⟨w1, r1, rfl, r1v, w2, r2, rfl, r2v, hnil⟩ := v3
    cases (hnil : r2 = [])
    dsimp only at e3 e4 hlen
    refine ⟨C.inK.keeps s3.keep, ?_⟩
    obtain ⟨a1, vs1, rfl, hL1, hv1⟩ := anyL_some s3 r1v e3
    obtain ⟨a2, vs2, rfl, hL2, hv2⟩ := anyL_some s3 r2v e4
    have k1 : a1 < h3'.objs.size := by obtain ⟨o, ho, _⟩ := hL1; exact Heap.lt_size ho
    have k2 : a2 < h3'.objs.size := by obtain ⟨o, ho, _⟩ := hL2; exact Heap.lt_size ho
    refine call_zip_2 (s := { s with heap := h3', toks := t3 }) hL1 hL2 fun h4 z1 z2 z3 z4 z5 z6 z7 => ?_
    refine spliced_none ?_
    refine ⟨C.inK.keeps fun b o e => z7 b o (s3.keep b o e), ?_⟩
    refine with_size (call_list_zip (s := { s with heap := h4, toks := t3 }) (h₀ := h3') hr.1 z6 k1 k2 (Nat.le_refl _) (by rw [List.size_toArray, hv1.length]; exact hlen) z1 z2 z3 z4 z5 (hL1.at fun o e => z7 _ o e) (hL2.at fun o e => z7 _ o e) z7 fun h5 acc' c' m q1 q2 q3 q4 q5 sz => ?_)
    have z6' : h4.objs.size = h3'.objs.size + 5 := z6
    have sz' : h3'.objs.size ≤ h5.objs.size := Nat.le_trans (Nat.le_trans (Nat.le_add_right _ 5) (Nat.le_of_eq z6'.symm)) sz
    obtain ⟨s6, x6⟩ := s3.push (a := h3'.objs.size + 5) (o' := .list (zipM xs ys)) (Nat.le_add_right _ _) q4 sz' (fun R x => ⟨acc'.toList, ⟨c', by simpa using q3⟩, zip_rel (VRels.mono s3 x (Dull.none _) _ _ hv1) (VRels.mono s3 x (Dull.none _) _ _ hv2) (by simpa using q1) (by simpa using q2) (fun j hj => by
      obtain ⟨T, x', y', p1, p2, p3, p4⟩ := q5 j hj
      exact ⟨T, x', y', by simpa using p1, by simpa using p2, by simpa using p3, p4⟩)⟩) s3.there
    exact hQ _ _ h5 t3 (x1.trans (x2.trans (x3.trans x6))) s6 ⟨h3'.objs.size + 5, by rw [← s3.len]; simp, rfl⟩
  · cases hfn
end
end Nt
end
section
open PySem PySem.W PySem.Spec PySem.Calls PyProof.Rows PySem.SeqAt
namespace Nt
section
variable {c : Cx} {n : Nat} {sc : Scope'}
/-! for x, y in enumerate(list) -/
noncomputable def enumF (src : MV) (a : AsF) (g : ExF) : Nat → Nat → ExF
  | 0, _ => fun _ _ => none
  | k + 1, i => fun l H => (listD src H).bind fun d => match d.2[i]? with
    | none => some (.next, l, H)
    | some v => (a (.tup [.int i, v]) l H).bind fun x => (g x.1 x.2).bind fun y => match y.1 with
      | .next => enumF src a g k (i + 1) y.2.1 y.2.2
      | .ret u => some (.ret u, y.2.1, y.2.2)
noncomputable def xEnum (f : EvF) (a : AsF) (g : ExF) (k : Nat) : ExF := fun l H => (f l H).bind fun x => (listD x.1 x.2).bind fun _ => enumF x.1 a g k 0 l x.2
noncomputable def Own2 (e it : Addr) : Addr → Prop := fun a => a = e ∨ a = it
theorem Ext.beside2 {own : Addr → Prop} {e it : Addr} {ad₀ ad ad' : List Addr} {h₀ h h' : Heap} (x : Ext own ad₀ h₀ ad h) (y : Ext (Own2 e it) ad h ad' h') (low : h₀.objs.size ≤ it) (low2 : h₀.objs.size ≤ e) : Ext own ad₀ h₀ ad' h' := by
  obtain ⟨m, q, hm⟩ := x.more
  obtain ⟨m', q', hm'⟩ := y.more
  refine ⟨⟨m ++ m', by rw [q', q, List.append_assoc], fun a ha => ?_⟩, fun b o eb hb ho => ?_, Nat.le_trans x.size y.size⟩
  · rcases List.mem_append.mp ha with r | r
    · exact hm a r
    · exact Nat.le_trans x.size (hm' a r)
  · refine y.keep b o (x.keep b o eb hb ho) (fun r => ?_) (fun r => ?_)
    · rw [q] at r
      rcases List.mem_append.mp r with r | r
      · exact hb r
      · exact absurd (Heap.lt_size eb) (Nat.not_lt.mpr (hm b r))
    · rcases r with rfl | rfl
      · exact absurd (Heap.lt_size eb) (Nat.not_lt.mpr low2)
      · exact absurd (Heap.lt_size eb) (Nat.not_lt.mpr low)
theorem enum_dull {h : Heap} {e it : Addr} {i : Int} {old : Value} (he : IsEnum h e it i old) (hi : ItObj h it) : Dull (Own2 e it) h := by
  intro b hb o ho
  rcases hb with rfl | rfl
  · rw [he] at ho; cases ho
    exact .inr (.inr ⟨by dsimp only; decide, by dsimp only; decide⟩)
  · exact hi.dull b rfl o ho
theorem enum_off {ad : List Addr} {H : MH} {h : Heap} {e it : Addr} {i : Int} {old : Value} (R : SRel c ad H h) (he : IsEnum h e it i old) : e ∉ ad :=
  R.clsOf he (by dsimp only; decide) (by intro es ep q; cases q) (by intro q; cases q)
theorem Ex.forEnum {x : Str} {np cpos pos : Pos} {t e : Expr} {b : List Stmt} {elts : List Expr} {k1 : Nat} {tp : Pos} {f : EvF} {a : AsF} {g : ExF} (k : Nat) (C : c.Ok) (ht : t = .Tuple elts k1 tp) (hf : Ev c n sc (.Name x np) (eC (.raw (.type "enumerate")))) (h1 : Ev c n sc e f) (h2 : As c n sc t a) (h3 : Exs c n sc b g)
    (hp : NoStar [e] := by intro _; rfl) (hs : ∀ env y, foldedSetIterable (.Call (.Name x np) [e] [] cpos) env y = pure y := by intro _ _; rfl) : Ex c n sc (.For t (.Call (.Name x np) [e] [] cpos) b [] pos) (xEnum f a g k) := by
  intro A env l ad H s fl l' H' Q E hr he hl hsr hfn hQ
  obtain ⟨⟨src, H1⟩, e1, hfn⟩ := Option.bind_eq_some_iff.mp hfn
  obtain ⟨⟨m0, l0⟩, e0, hfn⟩ := Option.bind_eq_some_iff.mp hfn
  refine wpAny_For ?_ (hs env)
  show wpAny _ _ (do callWith cpos (← eval (.Name x np) env) [] (backTo cpos (starEach [e] env)) []) _ _ _
  refine wpAny_bind (hf _ _ _ _ _ _ _ _ _ _ hr he hl hsr rfl fun ad1 f' h1' t1 x1 s1 v1 => ?_)
  cases (v1 : f' = .type "enumerate")
  have hl1 := hl.mono hsr x1
  have eL : lCons f lNil l H = some ([src], H1) := by
    unfold lCons lNil
    rw [e1]
    rfl
  refine callW .type hp ((EvL.cons h1 EvL.nil (by intro env; rw [hp env]; rfl)) _ _ _ _ _ { s with heap := h1', toks := t1 } _ _ _ _ _ hr he hl1 s1 eL fun ad2 vs h2' t2 x2 s2 v2 => ?_)
  obtain ⟨w1, r1, rfl, r1v, hnil⟩ := v2
  cases (hnil : r1 = [])
  refine ⟨C.inK.keeps s2.keep, ?_⟩
  dsimp only at e0
  obtain ⟨al, ws, kk, hsrc, rfl, hal, hH1, hob, hws⟩ := listD_some s2 r1v e0
  have hL : h2'.IsList al ws := ⟨_, hob, rfl, kk, rfl⟩
  refine call_enumerate_list (s := { s with heap := h2', toks := t2 }) hL fun h3' z1 z2 z3 z4 => ?_
  have sz3 : h2'.objs.size ≤ h3'.objs.size := Nat.le_trans (Nat.le_add_right _ 2) (Nat.le_of_eq z3.symm)
  have hl2 := hl1.mono s1 x2
  have x3 : Ext0 ad2 h2' ad2 h3' := Ext0.of z4 sz3
  have s3 := s2.keeps z4 sz3
  have hl3 := hl2.mono s2 x3
  have x03 : Ext0 ad s.heap ad2 h3' := x1.trans (x2.trans x3)
  have loIt : s.heap.objs.size ≤ h2'.objs.size := Nat.le_trans x1.size x2.size
  have nownIt : ∀ q, h2'.objs.size ≤ q → ¬ Own env q := fun q hq w => absurd (hl2.ownLt q w) (Nat.not_lt.mpr hq)
  refine wpAny_pyIter_enum (s := { s with heap := h3', toks := t2 }) z1 ?_
  replace z1 : IsEnum h3' (h2'.objs.size + 1) h2'.objs.size 0 .none := z1
  replace z2 : h3'.IsListIter h2'.objs.size al 0 := z2
  generalize hit : h2'.objs.size = it at z1 z2 nownIt loIt
  have nit : ¬ Own env it := nownIt it (Nat.le_refl _)
  have ne : ¬ Own env (it + 1) := nownIt (it + 1) (Nat.le_succ _)
  have lowIt : c.B.objs.size ≤ it := Nat.le_trans hsr.bs loIt
  have loE : s.heap.objs.size ≤ it + 1 := Nat.le_succ_of_le loIt
  have lowE : c.B.objs.size ≤ it + 1 := Nat.le_succ_of_le lowIt
  subst hsrc
  refine codeAny_forLoop_any (fun j s' => LSt c env (Own env) ad s (fun ad3 l3 H3 h3 => ∃ i old, IsEnum h3 (it + 1) it ((i : Nat) : Int) old ∧ It c ad3 h3 it (.ref m0) i ∧ enumF (.ref m0) a g j i l3 H3 = some (fl, l', H')) s') ?_ k
    (.mk ad2 l H1 h3' t2 x03.weaken0 hl3 s3 ⟨0, .none, z1, ⟨al, x3.get hal, z2⟩, hfn⟩)
  rintro j s' ⟨ad3, l3, H3, hp3, t3, xx3, hl3, s3, i, old, E3, I3, hf3⟩
  cases j with
  | zero => cases hf3
  | succ j =>
    unfold enumF at hf3
    obtain ⟨⟨m, items⟩, e3, hf3⟩ := Option.bind_eq_some_iff.mp hf3
    obtain ⟨a3, ha3, hit3⟩ := I3
    have I3' : It c ad3 hp3 it (.ref m0) i := ⟨a3, ha3, hit3⟩
    obtain ⟨a4, ws4, k4, q1, q2, ha4, hm4, hob4, hws4⟩ := listD_some (o' := .ref a3) s3 (show VRel c.B ad3 hp3 (.ref m0) (.ref a3) from ⟨a3, ha3, rfl⟩) e3
    cases q2
    have hL3 : hp3.IsList a3 ws4 := ⟨_, hob4, rfl, k4, rfl⟩
    have D3 := enum_dull E3 I3'.objAt
    have offE := enum_off s3 E3
    have offI := I3'.objAt.off s3
    have offs : ∀ q, Own2 (it + 1) it q → q ∉ ad3 ∧ c.B.objs.size ≤ q := fun q hq => by
      rcases hq with rfl | rfl
      · exact ⟨offE, lowE⟩
      · exact ⟨offI, lowIt⟩
    have hne : ∀ q, Own env q → ¬ Own2 (it + 1) it q := fun q hq w => by
      rcases w with rfl | rfl
      · exact ne hq
      · exact nit hq
    dsimp only at hf3
    cases ev : items[i]? with
    | none =>
      rw [ev] at hf3
      dsimp only at hf3
      cases hf3
      refine with_size (wpAny_pyNext_enum_end (s := { s with heap := hp3, toks := t3 }) hr.1 E3 hit3 hL3 (by rw [← Array.getElem?_toList]; exact List.getElem?_eq_none (Nat.le_trans (Nat.le_of_eq hws4.length) (List.getElem?_eq_none_iff.mp ev))) fun h4 sb sz => ?_)
      obtain ⟨s4, x4⟩ := s3.own (own := Own2 (it + 1) it) D3 offs (fun b o hb e => sb b o (fun w => hb (.inr w)) e) sz
      exact wpAny_execs_nil (hQ ad3 _ h4 t3 (xx3.beside2 x4 loIt loE) (hl3.monoG s3 x4 D3 hne) s4 rfl)
    | some v =>
      rw [ev] at hf3
      dsimp only at hf3
      obtain ⟨⟨l5, H5⟩, e5, hf3⟩ := Option.bind_eq_some_iff.mp hf3
      obtain ⟨⟨fl6, l6, H6⟩, e6, hf3⟩ := Option.bind_eq_some_iff.mp hf3
      obtain ⟨v', ev', hv'⟩ := hws4.get ev
      refine wpAny_pyNext_enum_item (s := { s with heap := hp3, toks := t3 }) E3 hit3 hL3 (x := v') (by simpa using ev') (Nat.succ_ne_self it) fun h4 heo hit4 ht4 hz4 hk4 => ?_
      dsimp only
      rw [ht]
      refine wpAny_letOwnedTupleGo_enum (s := { s with heap := h4, toks := t3 + 1 }) heo fun h5 he5 hs5 => ?_
      replace hs5 : Heap.SameBut (it + 1) h4 h5 := hs5
      have sz5 : hp3.objs.size ≤ h5.objs.size := by rw [hs5.1]; exact Nat.le_trans (Nat.le_succ _) (Nat.le_of_eq hz4.symm)
      obtain ⟨s5, x5⟩ := s3.own (h' := h5) (own := Own2 (it + 1) it) D3 offs (fun b o hb e => (hs5.2 b fun w => hb (.inl w)).trans (hk4 b o (fun w => hb (.inl w)) (fun w => hb (.inr w)) e)) sz5
      have hl5 := hl3.monoG s3 x5 D3 hne
      have hT : IsTup h5 hp3.objs.size ([.int i t3, v'] : List Value).toArray := by
        have e3lt : it + 1 < hp3.objs.size := Heap.lt_size E3
        refine ⟨_, (hs5.2 _ (Nat.ne_of_gt e3lt)).trans ht4, rfl, _, rfl⟩
      have I5 : It c ad3 h5 it (.ref m0) (i + 1) := ⟨a3, ha3, hit4.at fun o e => (hs5.2 it (Ne.symm (Nat.succ_ne_self it))).trans e⟩
      have E5 : IsEnum h5 (it + 1) it ((i + 1 : Nat) : Int) v' := by
        have : ((i + 1 : Nat) : Int) = (i : Int) + 1 := by push_cast; rfl
        rw [this]; exact he5
      rw [← ht]
      refine h2 _ _ _ _ _ { s with heap := h5, toks := t3 + 1 } (.tup [.int i, v]) _ _ _ _ _ hr he hl5 s5 ⟨hp3.objs.size, [.int i t3, v'], rfl, hT, ⟨_, _, rfl, ⟨t3, rfl⟩, ⟨_, _, rfl, VRel.mono s3 x5 D3 _ _ hv', rfl⟩⟩⟩ e5 fun ad6 h6 t6 x6 hl6 s6 => ?_
      have I6 := I5.move s5 x6 hl5.dull nit
      have E6 : IsEnum h6 (it + 1) it ((i + 1 : Nat) : Int) v' := x6.keep _ _ E5 (enum_off s5 E5) ne
      refine h3 _ _ _ _ _ { s with heap := h6, toks := t6 } _ _ _ _ _ hr he hl6 s6 e6 fun ad7 fl' h7 t7 x7 hl7 s7 r7 => ?_
      have I7 := I6.move s6 x7 hl6.dull nit
      have E7 : IsEnum h7 (it + 1) it ((i + 1 : Nat) : Int) v' := x7.keep _ _ E6 (enum_off s6 E6) ne
      have xall := ((xx3.beside2 x5 loIt loE).trans x6).trans x7
      dsimp only at hf3
      split at hf3
      · cases (r7 : fl' = _)
        exact ⟨j, Nat.lt_succ_self j, .mk ad7 l6 H6 h7 t7 xall hl7 s7 ⟨i + 1, v', E7, I7, hf3⟩⟩
      · cases hf3
        obtain ⟨u', q, hu⟩ := r7
        subst q
        exact hQ ad7 _ h7 t7 xall hl7 s7 ⟨u', rfl, hu⟩
end
end Nt
end
section
open PySem PySem.W PySem.Spec PySem.Calls PyProof.Rows PySem.SeqAt
namespace Nt
section
variable {c : Cx} {n : Nat} {sc : Scope'}
/-! how stores are ordered: what it asks of the frame is in the scope -/
noncomputable def env0 (sc : Scope') : Env := { scope := { kind := .function, names := sc, isGenerator := false, isCoroutine := false, more := [] }, locals := 0, globals := 0, cells := [], qual := Str.ofString "", func := none, code := .none, frame := none, builtins := 0 }
theorem kindOf_eq {env : Env} (he : EnvOk sc env) (y : Str) : env.kindOf y = (env0 sc).kindOf y := by
  unfold Env.kindOf; rw [he.names]; rfl
theorem blockKind_eq {env : Env} (he : EnvOk sc env) : env.blockKind = (env0 sc).blockKind := by
  unfold Env.blockKind; rw [he.kind]; rfl
theorem swapped_eq {env : Env} (he : EnvOk sc env) (ts : List Expr) (v : Expr) : swappedStores ts v env = swappedStores ts v (env0 sc) := by
  have hk : env.kindOf = (env0 sc).kindOf := funext (kindOf_eq he)
  unfold swappedStores
  rw [blockKind_eq he, hk]
theorem swaps_eq {env : Env} (he : EnvOk sc env) (v : Expr) (t : Option Expr) (line : Nat) : swapsWith v t line env = swapsWith v t line (env0 sc) := by
  have hk : env.kindOf = (env0 sc).kindOf := funext (kindOf_eq he)
  have hs : env.scope.kind = (env0 sc).scope.kind := he.kind
  unfold swapsWith
  rw [blockKind_eq he, hk, hs]
theorem swapsSole_eq {env : Env} (he : EnvOk sc env) (ts : List Expr) (v : Expr) (line : Nat) : swapsWithSole ts v line env = swapsWithSole ts v line (env0 sc) := by
  unfold swapsWithSole
  split
  · exact swaps_eq he _ _ _
  · rfl
theorem Ex.asg {t value : Expr} {pos : Pos} {f : EvF} {g : AsF} (h1 : Ev c n sc value f) (h2 : As c n sc t g) (hs : swapsWithSole [t] value pos.line (env0 sc) = pure false) (hw : swappedStores [t] value (env0 sc) = pure none)
    (hp : ∀ env, (assignEach [t] env).map (·.2) = [PySem.assign t env] := by intro _; rfl) : Ex c n sc (.Assign [t] value pos) (xAssign f g) :=
  Ex.assign h1 h2 (fun env he => (swapsSole_eq he _ _ _).trans hs) (fun env he => (swapped_eq he _ _).trans hw) hp
theorem Ex.asw {ts : List Expr} {k : Nat} {tpos : Pos} {value : Expr} {pos : Pos} {f : EvF} {xs : List String} (h1 : Ev c n sc value f) (hs : swapsWithSole [.Tuple ts k tpos] value pos.line (env0 sc) = pure false)
    (hw : swappedStores [.Tuple ts k tpos] value (env0 sc) = pure (some (xs.map S))) (hk : ∀ x ∈ xs, sc.lookup (S x) = some .local) : Ex c n sc (.Assign [.Tuple ts k tpos] value pos) (xAssign f (aRev xs)) :=
  Ex.assignSwap h1 (fun env he => (swapsSole_eq he _ _ _).trans hs) (fun env he => (swapped_eq he _ _).trans hw) hk
theorem Ex.acomp {x : String} {px : Pos} {csc : Scope} {t iter elt : Expr} {ifs : List Expr} {pos spos : Pos} {f : EvF} {a : AsF} {tf : TrF} {g : EvF} (fs : List String) (k : Nat) (O : CompOk csc sc fs) (hx : sc.lookup (S x) = some .local) (h1 : Ev c n sc iter f) (h2 : AsC c n (relN csc.names sc) t a) (h3 : Te c n (relN csc.names sc) ifs tf) (h4 : Ev c n (relN csc.names sc) elt g)
    (hsw : swapsWith (.ListComp elt [⟨t, iter, ifs, 0⟩] csc pos) (some (.Name (S x) px)) spos.line (env0 sc) = pure true)
    (hfs : ∀ env x, foldedSetIterable iter env x = pure x := by intro _ _; rfl) : Ex c n sc (.Assign [.Name (S x) px] (.ListComp elt [⟨t, iter, ifs, 0⟩] csc pos) spos) (xAssign (eComp f fs a tf g k) (aN x)) :=
  Ex.assignComp fs k O hx h1 h2 h3 h4 (fun env he => (swaps_eq he _ _ _).trans hsw) hfs
theorem starEach_const (k : Const) (j : Nat) (p : Pos) (es : List Expr) (env : Env) : starEach (.Constant k j p :: es) env = (false, eval (.Constant k j p) env) :: starEach es env := rfl
theorem EvL.consC {k : Const} {j : Nat} {p : Pos} {es : List Expr} {f : EvF} {g : EvLF} (h1 : Ev c n sc (.Constant k j p) f) (h2 : EvL c n sc es g) : EvL c n sc (.Constant k j p :: es) (lCons f g) := EvL.cons h1 h2 (starEach_const k j p es)
theorem sole_dict (t : Expr) (ks : List (Option Expr)) (vs : List Expr) (p : Pos) (line : Nat) (env : Env) : swapsWithSole [t] (.Dict ks vs p) line env = pure false := rfl
theorem swapped_name (x : Str) (p : Pos) (v : Expr) (env : Env) : swappedStores [.Name x p] v env = pure none := rfl
noncomputable def zipE : List (Option Expr) → List Expr → List (Expr × Expr)
  | some k :: ks, v :: vs => (k, v) :: zipE ks vs
  | _, _ => []
theorem EvD.nil' : EvD c n sc (zipE [] []) dNil := EvD.nil
theorem EvD.cons' {x : String} {k : Nat} {kp : Pos} {e : Expr} {keys : List (Option Expr)} {values : List Expr} {f : EvF} {g : EvDF} (h1 : Ev c n sc e f) (h2 : EvD c n sc (zipE keys values) g) : EvD c n sc (zipE (some (.Constant (.str (S x)) k kp) :: keys) (e :: values)) (dCons x f g) := EvD.cons h1 h2
theorem shape_zipE (env : Env) (pos : Pos) : ∀ (keys : List (Option Expr)) (values : List Expr), keys.all (·.isSome) = true →
    (evalEachOpt keys env).zip ((evalEach values env).map fun v => do let x ← v; standAt pos; pure x) = (pairsOf env pos (zipE keys values)).map (fun p => (some p.1, p.2))
  | [], _, _ => by unfold zipE; rfl
  | some k :: ks, [], _ => by
    unfold zipE
    show List.zip (some (eval k env) :: evalEachOpt ks env) (List.map _ []) = _
    rfl
  | some k :: ks, v :: vs, h => by
    have ih := shape_zipE env pos ks vs (by simpa using h)
    unfold zipE pairsOf
    unfold pairsOf at ih
    show List.zip (some (eval k env) :: evalEachOpt ks env) ((do let x ← eval v env; standAt pos; pure x) :: List.map _ (evalEach vs env)) = _
    rw [List.zip_cons_cons, ih]
    rfl
  | none :: _, _, h => by simp at h
theorem Ev.dict' {keys : List (Option Expr)} {values : List Expr} {pos : Pos} {f : EvDF} (h : EvD c n sc (zipE keys values) f) (h0 : zipE keys values ≠ []) (hlen : (zipE keys values).length ≤ 15) (hk : keys.all (·.isSome) = true) : Ev c n sc (.Dict keys values pos) (eDict f) := Ev.dict h h0 hlen (fun env => shape_zipE env pos keys values hk)
/-- nothing is asked of what is not reached -/
theorem Ev.never {e : Expr} : Ev c n sc e (fun _ _ => none) := fun _ _ _ _ _ _ _ _ _ _ _ _ _ _ hf _ => by cases hf
theorem Tr.never {e : Expr} : Tr c n sc e (fun _ _ => none) := fun _ _ _ _ _ _ _ _ _ _ _ _ _ _ hf _ => by cases hf
noncomputable def subF : BinF := intB fun i j => some (i - j)
noncomputable def ltF : CmpF := intC fun i j => decide (i < j)
noncomputable def leF : CmpF := intC fun i j => decide (i ≤ j)
noncomputable def gtF : CmpF := intC fun i j => decide (j < i)
noncomputable def geF : CmpF := intC fun i j => decide (j ≤ i)
end
end Nt
end
section
open PySem PySem.W PySem.Spec PySem.Calls PyProof.Rows PySem.SeqAt
namespace Nt
/-! facts of the globals (printed by gen.py) -/
noncomputable def FU : Nat := 64
theorem glob_fn {c : Cx} (C : c.Ok) {x : String} {f : Value} (e : nsIn c.K mainGlobals (S x) = some (some f)) {n : Nat} {sc : Scope'} {pos : Pos} (hk : sc.lookup (S x) = some .globalImplicit) (hd : (S x == ("__debug__" : Str)) = false := by decide +kernel) : Ev c n sc (.Name (S x) pos) (eC (.raw f)) :=
  Ev.glob C e (fun _ _ _ => rfl) hk hd
theorem glob_tup {c : Cx} (C : c.Ok) {x : String} {a : Addr} {l : List MV} {vs : List Value} {o : Obj} {k : Nat} (e : nsIn c.K mainGlobals (S x) = some (some (.ref a))) (ho : c.K.lookup a = some o) (hc : o.cls = .type "tuple") (hd : o.data = .seq vs.toArray k) (hr : ∀ ad h, VRels c.B ad h l vs)
    {n : Nat} {sc : Scope'} {pos : Pos} (hk : sc.lookup (S x) = some .globalImplicit) (hdb : (S x == ("__debug__" : Str)) = false := by decide +kernel) : Ev c n sc (.Name (S x) pos) (eC (.tup l)) :=
  Ev.glob C e (fun ad h up => ⟨a, vs, rfl, ⟨o, up _ _ (C.inK _ _ ho), hc, k, hd⟩, hr ad h⟩) hk hdb
theorem list_at {c : Cx} (C : c.Ok) {a : Addr} {l : List MV} {vs : List Value} {o : Obj} {k : Nat} (ho : c.K.lookup a = some o) (hc : o.cls = .type "list") (hd : o.data = .seq vs.toArray k) (hr : ∀ ad h, VRels c.B ad h l vs) : ∀ ad h, VRel c.B ad h (.lst l) (.ref a) :=
  fun ad h => ⟨a, vs, rfl, ⟨o, C.inK _ _ ho, hc, k, hd⟩, hr ad h⟩
noncomputable def V_SENTENCE_PARAS : MV := .tup [.str "Sep", .str "CR", .str "LF"]
theorem G_SENTENCE_PARAS {c : Cx} (C : c.Ok) (hK : c.K = hd.heap_1 c.w.params) {n : Nat} {sc : Scope'} {pos : Pos} (hk : sc.lookup (S "SENTENCE_PARAS") = some .globalImplicit) : Ev c n sc (.Name (S "SENTENCE_PARAS") pos) (eC V_SENTENCE_PARAS) := glob_tup C (a := 22) (by rw [hK]; kernel_rfl) (by rw [hK]; rfl) rfl rfl (fun _ _ => by repeat (first | rfl | refine ⟨_, _, rfl, ⟨_, rfl⟩, ?_⟩)) hk
noncomputable def V_SENTENCE_HANGERS : MV := .tup [.str "Extend", .str "Format"]
theorem G_SENTENCE_HANGERS {c : Cx} (C : c.Ok) (hK : c.K = hd.heap_1 c.w.params) {n : Nat} {sc : Scope'} {pos : Pos} (hk : sc.lookup (S "SENTENCE_HANGERS") = some .globalImplicit) : Ev c n sc (.Name (S "SENTENCE_HANGERS") pos) (eC V_SENTENCE_HANGERS) := glob_tup C (a := 23) (by rw [hK]; kernel_rfl) (by rw [hK]; rfl) rfl rfl (fun _ _ => by repeat (first | rfl | refine ⟨_, _, rfl, ⟨_, rfl⟩, ?_⟩)) hk
noncomputable def V_SENTENCE_TERMS : MV := .tup [.str "ATerm", .str "STerm"]
theorem G_SENTENCE_TERMS {c : Cx} (C : c.Ok) (hK : c.K = hd.heap_1 c.w.params) {n : Nat} {sc : Scope'} {pos : Pos} (hk : sc.lookup (S "SENTENCE_TERMS") = some .globalImplicit) : Ev c n sc (.Name (S "SENTENCE_TERMS") pos) (eC V_SENTENCE_TERMS) := glob_tup C (a := 24) (by rw [hK]; kernel_rfl) (by rw [hK]; rfl) rfl rfl (fun _ _ => by repeat (first | rfl | refine ⟨_, _, rfl, ⟨_, rfl⟩, ?_⟩)) hk
noncomputable def V_SENTENCE_CASED : MV := .tup [.str "Upper", .str "Lower"]
theorem G_SENTENCE_CASED {c : Cx} (C : c.Ok) (hK : c.K = hd.heap_1 c.w.params) {n : Nat} {sc : Scope'} {pos : Pos} (hk : sc.lookup (S "SENTENCE_CASED") = some .globalImplicit) : Ev c n sc (.Name (S "SENTENCE_CASED") pos) (eC V_SENTENCE_CASED) := glob_tup C (a := 25) (by rw [hK]; kernel_rfl) (by rw [hK]; rfl) rfl rfl (fun _ _ => by repeat (first | rfl | refine ⟨_, _, rfl, ⟨_, rfl⟩, ?_⟩)) hk
noncomputable def V_SENTENCE_STOPS : MV := .tup [.str "OLetter", .str "Upper", .str "Lower", .str "Sep", .str "CR", .str "LF", .str "ATerm", .str "STerm"]
theorem G_SENTENCE_STOPS {c : Cx} (C : c.Ok) (hK : c.K = hd.heap_1 c.w.params) {n : Nat} {sc : Scope'} {pos : Pos} (hk : sc.lookup (S "SENTENCE_STOPS") = some .globalImplicit) : Ev c n sc (.Name (S "SENTENCE_STOPS") pos) (eC V_SENTENCE_STOPS) := glob_tup C (a := 26) (by rw [hK]; kernel_rfl) (by rw [hK]; rfl) rfl rfl (fun _ _ => by repeat (first | rfl | refine ⟨_, _, rfl, ⟨_, rfl⟩, ?_⟩)) hk
noncomputable def V_SENTENCE_NEVER : MV := .tup [.str "Extend", .str "Format", .str "SContinue", .str "ATerm", .str "STerm", .str "Sp", .str "Sep", .str "CR", .str "LF"]
theorem G_SENTENCE_NEVER {c : Cx} (C : c.Ok) (hK : c.K = hd.heap_1 c.w.params) {n : Nat} {sc : Scope'} {pos : Pos} (hk : sc.lookup (S "SENTENCE_NEVER") = some .globalImplicit) : Ev c n sc (.Name (S "SENTENCE_NEVER") pos) (eC V_SENTENCE_NEVER) := glob_tup C (a := 27) (by rw [hK]; kernel_rfl) (by rw [hK]; rfl) rfl rfl (fun _ _ => by repeat (first | rfl | refine ⟨_, _, rfl, ⟨_, rfl⟩, ?_⟩)) hk
noncomputable def V_SENTENCE_ROW : MV := .tup [.str "ATerm", .str "STerm", .str "Close", .str "Sp"]
theorem G_SENTENCE_ROW {c : Cx} (C : c.Ok) (hK : c.K = hd.heap_1 c.w.params) {n : Nat} {sc : Scope'} {pos : Pos} (hk : sc.lookup (S "SENTENCE_ROW") = some .globalImplicit) : Ev c n sc (.Name (S "SENTENCE_ROW") pos) (eC V_SENTENCE_ROW) := glob_tup C (a := 28) (by rw [hK]; kernel_rfl) (by rw [hK]; rfl) rfl rfl (fun _ _ => by repeat (first | rfl | refine ⟨_, _, rfl, ⟨_, rfl⟩, ?_⟩)) hk
noncomputable def V_law_ends : MV := .tup [.str "Sep", .str "CR", .str "LF"]
theorem G_law_ends {c : Cx} (C : c.Ok) (hK : c.K = hd.heap_1 c.w.params) {n : Nat} {sc : Scope'} {pos : Pos} (hk : sc.lookup (S "_law_ends") = some .globalImplicit) : Ev c n sc (.Name (S "_law_ends") pos) (eC V_law_ends) := glob_tup C (a := 310) (by rw [hK]; kernel_rfl) (by rw [hK]; rfl) rfl rfl (fun _ _ => by repeat (first | rfl | refine ⟨_, _, rfl, ⟨_, rfl⟩, ?_⟩)) hk
noncomputable def V_law_often : MV := .lst [.int 11, .int 11, .int 11, .int 12, .int 6, .int 6, .int 7, .int 8, .int 13, .int 13]
theorem G_law_often {c : Cx} (C : c.Ok) (hK : c.K = hd.heap_1 c.w.params) {n : Nat} {sc : Scope'} {pos : Pos} (hk : sc.lookup (S "_law_often") = some .globalImplicit) : Ev c n sc (.Name (S "_law_often") pos) (eC V_law_often) := Ev.glob C (v' := .ref 304) (by rw [hK]; kernel_rfl) (fun ad h _ => list_at C (by rw [hK]; rfl) rfl rfl (fun _ _ => by repeat (first | rfl | refine ⟨_, _, rfl, ⟨_, rfl⟩, ?_⟩)) ad h) hk
noncomputable def V_law_known : MV := .lst [.lst [.str "Upper", .str "ATerm", .str "Sp", .str "Lower"], .lst [.str "ATerm", .str "Close", .str "Sp", .str "Sep", .str "Upper"], .lst [.str "Upper", .str "ATerm", .str "Extend", .str "Upper"], .lst [.str "ATerm", .str "Sp", .str "SContinue", .str "ATerm", .str "Numeric", .str "Lower"]]
theorem G_law_known {c : Cx} (C : c.Ok) (hK : c.K = hd.heap_1 c.w.params) {n : Nat} {sc : Scope'} {pos : Pos} (hk : sc.lookup (S "_law_known") = some .globalImplicit) : Ev c n sc (.Name (S "_law_known") pos) (eC V_law_known) := Ev.glob C (v' := .ref 309) (by rw [hK]; kernel_rfl) (fun ad h _ => list_at C (by rw [hK]; rfl) rfl rfl (fun _ _ => by
  repeat (first | rfl | refine ⟨_, _, rfl, list_at C (by rw [hK]; rfl) rfl rfl (fun _ _ => by repeat (first | rfl | refine ⟨_, _, rfl, ⟨_, rfl⟩, ?_⟩)) _ _, ?_⟩)) ad h) hk
noncomputable def V_MAX_CODE : MV := .int 1114111
theorem G_MAX_CODE {c : Cx} (C : c.Ok) (hK : c.K = hd.heap_1 c.w.params) {n : Nat} {sc : Scope'} {pos : Pos} (hk : sc.lookup (S "MAX_CODE") = some .globalImplicit) : Ev c n sc (.Name (S "MAX_CODE") pos) (eC V_MAX_CODE) := Ev.glob C (v' := .int 1114111 _) (by rw [hK]; rfl) (fun _ _ _ => ⟨_, rfl⟩) hk
noncomputable def V_sentence_kind : MV := .raw (.ref 35)
theorem G_sentence_kind {c : Cx} (C : c.Ok) (hK : c.K = hd.heap_1 c.w.params) {n : Nat} {sc : Scope'} {pos : Pos} (hk : sc.lookup (S "sentence_kind") = some .globalImplicit) : Ev c n sc (.Name (S "sentence_kind") pos) (eC V_sentence_kind) := glob_fn C (by rw [hK]; kernel_rfl) hk
theorem P_sentence_kind {c : Cx} (hK : c.K = hd.heap_1 c.w.params) : keepIn c.K (.ref 35) = true := by rw [hK]; kernel_rfl
noncomputable def V_sentence_hangs : MV := .raw (.ref 42)
theorem G_sentence_hangs {c : Cx} (C : c.Ok) (hK : c.K = hd.heap_1 c.w.params) {n : Nat} {sc : Scope'} {pos : Pos} (hk : sc.lookup (S "sentence_hangs") = some .globalImplicit) : Ev c n sc (.Name (S "sentence_hangs") pos) (eC V_sentence_hangs) := glob_fn C (by rw [hK]; kernel_rfl) hk
theorem P_sentence_hangs {c : Cx} (hK : c.K = hd.heap_1 c.w.params) : keepIn c.K (.ref 42) = true := by rw [hK]; kernel_rfl
noncomputable def V_sentence_base : MV := .raw (.ref 49)
theorem G_sentence_base {c : Cx} (C : c.Ok) (hK : c.K = hd.heap_1 c.w.params) {n : Nat} {sc : Scope'} {pos : Pos} (hk : sc.lookup (S "sentence_base") = some .globalImplicit) : Ev c n sc (.Name (S "sentence_base") pos) (eC V_sentence_base) := glob_fn C (by rw [hK]; kernel_rfl) hk
theorem P_sentence_base {c : Cx} (hK : c.K = hd.heap_1 c.w.params) : keepIn c.K (.ref 49) = true := by rw [hK]; kernel_rfl
noncomputable def V_sentence_tail : MV := .raw (.ref 56)
theorem G_sentence_tail {c : Cx} (C : c.Ok) (hK : c.K = hd.heap_1 c.w.params) {n : Nat} {sc : Scope'} {pos : Pos} (hk : sc.lookup (S "sentence_tail") = some .globalImplicit) : Ev c n sc (.Name (S "sentence_tail") pos) (eC V_sentence_tail) := glob_fn C (by rw [hK]; kernel_rfl) hk
theorem P_sentence_tail {c : Cx} (hK : c.K = hd.heap_1 c.w.params) : keepIn c.K (.ref 56) = true := by rw [hK]; kernel_rfl
noncomputable def V_sentence_goes_on : MV := .raw (.ref 63)
theorem G_sentence_goes_on {c : Cx} (C : c.Ok) (hK : c.K = hd.heap_1 c.w.params) {n : Nat} {sc : Scope'} {pos : Pos} (hk : sc.lookup (S "sentence_goes_on") = some .globalImplicit) : Ev c n sc (.Name (S "sentence_goes_on") pos) (eC V_sentence_goes_on) := glob_fn C (by rw [hK]; kernel_rfl) hk
theorem P_sentence_goes_on {c : Cx} (hK : c.K = hd.heap_1 c.w.params) : keepIn c.K (.ref 63) = true := by rw [hK]; kernel_rfl
noncomputable def V_sentence_is_abbreviated : MV := .raw (.ref 70)
theorem G_sentence_is_abbreviated {c : Cx} (C : c.Ok) (hK : c.K = hd.heap_1 c.w.params) {n : Nat} {sc : Scope'} {pos : Pos} (hk : sc.lookup (S "sentence_is_abbreviated") = some .globalImplicit) : Ev c n sc (.Name (S "sentence_is_abbreviated") pos) (eC V_sentence_is_abbreviated) := glob_fn C (by rw [hK]; kernel_rfl) hk
theorem P_sentence_is_abbreviated {c : Cx} (hK : c.K = hd.heap_1 c.w.params) : keepIn c.K (.ref 70) = true := by rw [hK]; kernel_rfl
noncomputable def V_sentence_break : MV := .raw (.ref 77)
theorem G_sentence_break {c : Cx} (C : c.Ok) (hK : c.K = hd.heap_1 c.w.params) {n : Nat} {sc : Scope'} {pos : Pos} (hk : sc.lookup (S "sentence_break") = some .globalImplicit) : Ev c n sc (.Name (S "sentence_break") pos) (eC V_sentence_break) := glob_fn C (by rw [hK]; kernel_rfl) hk
theorem P_sentence_break {c : Cx} (hK : c.K = hd.heap_1 c.w.params) : keepIn c.K (.ref 77) = true := by rw [hK]; kernel_rfl
noncomputable def V_sentence_places : MV := .raw (.ref 136)
theorem G_sentence_places {c : Cx} (C : c.Ok) (hK : c.K = hd.heap_1 c.w.params) {n : Nat} {sc : Scope'} {pos : Pos} (hk : sc.lookup (S "sentence_places") = some .globalImplicit) : Ev c n sc (.Name (S "sentence_places") pos) (eC V_sentence_places) := glob_fn C (by rw [hK]; kernel_rfl) hk
theorem P_sentence_places {c : Cx} (hK : c.K = hd.heap_1 c.w.params) : keepIn c.K (.ref 136) = true := by rw [hK]; kernel_rfl
noncomputable def V_sentences : MV := .raw (.ref 141)
theorem G_sentences {c : Cx} (C : c.Ok) (hK : c.K = hd.heap_1 c.w.params) {n : Nat} {sc : Scope'} {pos : Pos} (hk : sc.lookup (S "sentences") = some .globalImplicit) : Ev c n sc (.Name (S "sentences") pos) (eC V_sentences) := glob_fn C (by rw [hK]; kernel_rfl) hk
theorem P_sentences {c : Cx} (hK : c.K = hd.heap_1 c.w.params) : keepIn c.K (.ref 141) = true := by rw [hK]; kernel_rfl
noncomputable def V_sentence_safe : MV := .raw (.ref 148)
theorem G_sentence_safe {c : Cx} (C : c.Ok) (hK : c.K = hd.heap_1 c.w.params) {n : Nat} {sc : Scope'} {pos : Pos} (hk : sc.lookup (S "sentence_safe") = some .globalImplicit) : Ev c n sc (.Name (S "sentence_safe") pos) (eC V_sentence_safe) := glob_fn C (by rw [hK]; kernel_rfl) hk
theorem P_sentence_safe {c : Cx} (hK : c.K = hd.heap_1 c.w.params) : keepIn c.K (.ref 148) = true := by rw [hK]; kernel_rfl
noncomputable def V_sentence_places_from : MV := .raw (.ref 153)
theorem G_sentence_places_from {c : Cx} (C : c.Ok) (hK : c.K = hd.heap_1 c.w.params) {n : Nat} {sc : Scope'} {pos : Pos} (hk : sc.lookup (S "sentence_places_from") = some .globalImplicit) : Ev c n sc (.Name (S "sentence_places_from") pos) (eC V_sentence_places_from) := glob_fn C (by rw [hK]; kernel_rfl) hk
theorem P_sentence_places_from {c : Cx} (hK : c.K = hd.heap_1 c.w.params) : keepIn c.K (.ref 153) = true := by rw [hK]; kernel_rfl
noncomputable def V_sentence_next : MV := .raw (.ref 160)
theorem G_sentence_next {c : Cx} (C : c.Ok) (hK : c.K = hd.heap_1 c.w.params) {n : Nat} {sc : Scope'} {pos : Pos} (hk : sc.lookup (S "sentence_next") = some .globalImplicit) : Ev c n sc (.Name (S "sentence_next") pos) (eC V_sentence_next) := glob_fn C (by rw [hK]; kernel_rfl) hk
theorem P_sentence_next {c : Cx} (hK : c.K = hd.heap_1 c.w.params) : keepIn c.K (.ref 160) = true := by rw [hK]; kernel_rfl
noncomputable def V_sentence_previous : MV := .raw (.ref 165)
theorem G_sentence_previous {c : Cx} (C : c.Ok) (hK : c.K = hd.heap_1 c.w.params) {n : Nat} {sc : Scope'} {pos : Pos} (hk : sc.lookup (S "sentence_previous") = some .globalImplicit) : Ev c n sc (.Name (S "sentence_previous") pos) (eC V_sentence_previous) := glob_fn C (by rw [hK]; kernel_rfl) hk
theorem P_sentence_previous {c : Cx} (hK : c.K = hd.heap_1 c.w.params) : keepIn c.K (.ref 165) = true := by rw [hK]; kernel_rfl
noncomputable def V_place_by_half : MV := .raw (.ref 172)
theorem G_place_by_half {c : Cx} (C : c.Ok) (hK : c.K = hd.heap_1 c.w.params) {n : Nat} {sc : Scope'} {pos : Pos} (hk : sc.lookup (S "place_by_half") = some .globalImplicit) : Ev c n sc (.Name (S "place_by_half") pos) (eC V_place_by_half) := glob_fn C (by rw [hK]; kernel_rfl) hk
theorem P_place_by_half {c : Cx} (hK : c.K = hd.heap_1 c.w.params) : keepIn c.K (.ref 172) = true := by rw [hK]; kernel_rfl
noncomputable def V_range_are_like : MV := .raw (.ref 179)
theorem G_range_are_like {c : Cx} (C : c.Ok) (hK : c.K = hd.heap_1 c.w.params) {n : Nat} {sc : Scope'} {pos : Pos} (hk : sc.lookup (S "range_are_like") = some .globalImplicit) : Ev c n sc (.Name (S "range_are_like") pos) (eC V_range_are_like) := glob_fn C (by rw [hK]; kernel_rfl) hk
theorem P_range_are_like {c : Cx} (hK : c.K = hd.heap_1 c.w.params) : keepIn c.K (.ref 179) = true := by rw [hK]; kernel_rfl
noncomputable def V_data_defaults : MV := .raw (.ref 235)
theorem G_data_defaults {c : Cx} (C : c.Ok) (hK : c.K = hd.heap_1 c.w.params) {n : Nat} {sc : Scope'} {pos : Pos} (hk : sc.lookup (S "data_defaults") = some .globalImplicit) : Ev c n sc (.Name (S "data_defaults") pos) (eC V_data_defaults) := glob_fn C (by rw [hK]; kernel_rfl) hk
theorem P_data_defaults {c : Cx} (hK : c.K = hd.heap_1 c.w.params) : keepIn c.K (.ref 235) = true := by rw [hK]; kernel_rfl
noncomputable def V_law_deck : MV := .raw (.ref 282)
theorem G_law_deck {c : Cx} (C : c.Ok) (hK : c.K = hd.heap_1 c.w.params) {n : Nat} {sc : Scope'} {pos : Pos} (hk : sc.lookup (S "_law_deck") = some .globalImplicit) : Ev c n sc (.Name (S "_law_deck") pos) (eC V_law_deck) := glob_fn C (by rw [hK]; kernel_rfl) hk
theorem P_law_deck {c : Cx} (hK : c.K = hd.heap_1 c.w.params) : keepIn c.K (.ref 282) = true := by rw [hK]; kernel_rfl
noncomputable def V_law_draw : MV := .raw (.ref 289)
theorem G_law_draw {c : Cx} (C : c.Ok) (hK : c.K = hd.heap_1 c.w.params) {n : Nat} {sc : Scope'} {pos : Pos} (hk : sc.lookup (S "_law_draw") = some .globalImplicit) : Ev c n sc (.Name (S "_law_draw") pos) (eC V_law_draw) := glob_fn C (by rw [hK]; kernel_rfl) hk
theorem P_law_draw {c : Cx} (hK : c.K = hd.heap_1 c.w.params) : keepIn c.K (.ref 289) = true := by rw [hK]; kernel_rfl
noncomputable def V_law_pick : MV := .raw (.ref 296)
theorem G_law_pick {c : Cx} (C : c.Ok) (hK : c.K = hd.heap_1 c.w.params) {n : Nat} {sc : Scope'} {pos : Pos} (hk : sc.lookup (S "_law_pick") = some .globalImplicit) : Ev c n sc (.Name (S "_law_pick") pos) (eC V_law_pick) := glob_fn C (by rw [hK]; kernel_rfl) hk
theorem P_law_pick {c : Cx} (hK : c.K = hd.heap_1 c.w.params) : keepIn c.K (.ref 296) = true := by rw [hK]; kernel_rfl
noncomputable def V_law_kinds : MV := .raw (.ref 303)
theorem G_law_kinds {c : Cx} (C : c.Ok) (hK : c.K = hd.heap_1 c.w.params) {n : Nat} {sc : Scope'} {pos : Pos} (hk : sc.lookup (S "_law_kinds") = some .globalImplicit) : Ev c n sc (.Name (S "_law_kinds") pos) (eC V_law_kinds) := glob_fn C (by rw [hK]; kernel_rfl) hk
theorem P_law_kinds {c : Cx} (hK : c.K = hd.heap_1 c.w.params) : keepIn c.K (.ref 303) = true := by rw [hK]; kernel_rfl
noncomputable def V_law_plain : MV := .raw (.ref 317)
theorem G_law_plain {c : Cx} (C : c.Ok) (hK : c.K = hd.heap_1 c.w.params) {n : Nat} {sc : Scope'} {pos : Pos} (hk : sc.lookup (S "_law_plain") = some .globalImplicit) : Ev c n sc (.Name (S "_law_plain") pos) (eC V_law_plain) := glob_fn C (by rw [hK]; kernel_rfl) hk
theorem P_law_plain {c : Cx} (hK : c.K = hd.heap_1 c.w.params) : keepIn c.K (.ref 317) = true := by rw [hK]; kernel_rfl
noncomputable def V_law_behind : MV := .raw (.ref 324)
theorem G_law_behind {c : Cx} (C : c.Ok) (hK : c.K = hd.heap_1 c.w.params) {n : Nat} {sc : Scope'} {pos : Pos} (hk : sc.lookup (S "_law_behind") = some .globalImplicit) : Ev c n sc (.Name (S "_law_behind") pos) (eC V_law_behind) := glob_fn C (by rw [hK]; kernel_rfl) hk
theorem P_law_behind {c : Cx} (hK : c.K = hd.heap_1 c.w.params) : keepIn c.K (.ref 324) = true := by rw [hK]; kernel_rfl
noncomputable def V_law_is_end : MV := .raw (.ref 329)
theorem G_law_is_end {c : Cx} (C : c.Ok) (hK : c.K = hd.heap_1 c.w.params) {n : Nat} {sc : Scope'} {pos : Pos} (hk : sc.lookup (S "_law_is_end") = some .globalImplicit) : Ev c n sc (.Name (S "_law_is_end") pos) (eC V_law_is_end) := glob_fn C (by rw [hK]; kernel_rfl) hk
theorem P_law_is_end {c : Cx} (hK : c.K = hd.heap_1 c.w.params) : keepIn c.K (.ref 329) = true := by rw [hK]; kernel_rfl
noncomputable def V_law : MV := .raw (.ref 334)
theorem G_law {c : Cx} (C : c.Ok) (hK : c.K = hd.heap_1 c.w.params) {n : Nat} {sc : Scope'} {pos : Pos} (hk : sc.lookup (S "law") = some .globalImplicit) : Ev c n sc (.Name (S "law") pos) (eC V_law) := glob_fn C (by rw [hK]; kernel_rfl) hk
theorem P_law {c : Cx} (hK : c.K = hd.heap_1 c.w.params) : keepIn c.K (.ref 334) = true := by rw [hK]; kernel_rfl
noncomputable def V_SentenceStream : MV := .raw (.ref 127)
theorem G_SentenceStream {c : Cx} (C : c.Ok) (hK : c.K = hd.heap_1 c.w.params) {n : Nat} {sc : Scope'} {pos : Pos} (hk : sc.lookup (S "SentenceStream") = some .globalImplicit) : Ev c n sc (.Name (S "SentenceStream") pos) (eC V_SentenceStream) := glob_fn C (by rw [hK]; kernel_rfl) hk
theorem P_SentenceStream {c : Cx} (hK : c.K = hd.heap_1 c.w.params) : keepIn c.K (.ref 127) = true := by rw [hK]; kernel_rfl
theorem cls_SentenceStream {c : Cx} (hK : c.K = hd.heap_1 c.w.params) : ClsOk c 127 := by
  refine ⟨?_, ?_, ?_, ?_, ?_, ?_⟩ <;> rw [hK] <;> kernel_rfl
theorem A_SentenceStream_data {c : Cx} (hK : c.K = hd.heap_1 c.w.params) : findIn c.K (.ref 127) (S "data") = some none := by rw [hK]; kernel_rfl
theorem A_SentenceStream_at {c : Cx} (hK : c.K = hd.heap_1 c.w.params) : findIn c.K (.ref 127) (S "at") = some none := by rw [hK]; kernel_rfl
theorem A_SentenceStream_last {c : Cx} (hK : c.K = hd.heap_1 c.w.params) : findIn c.K (.ref 127) (S "last") = some none := by rw [hK]; kernel_rfl
theorem A_SentenceStream_base {c : Cx} (hK : c.K = hd.heap_1 c.w.params) : findIn c.K (.ref 127) (S "base") = some none := by rw [hK]; kernel_rfl
theorem A_SentenceStream_prior {c : Cx} (hK : c.K = hd.heap_1 c.w.params) : findIn c.K (.ref 127) (S "prior") = some none := by rw [hK]; kernel_rfl
theorem A_SentenceStream_term {c : Cx} (hK : c.K = hd.heap_1 c.w.params) : findIn c.K (.ref 127) (S "term") = some none := by rw [hK]; kernel_rfl
theorem A_SentenceStream_is_spaced {c : Cx} (hK : c.K = hd.heap_1 c.w.params) : findIn c.K (.ref 127) (S "is_spaced") = some none := by rw [hK]; kernel_rfl
theorem A_SentenceStream_held {c : Cx} (hK : c.K = hd.heap_1 c.w.params) : findIn c.K (.ref 127) (S "held") = some none := by rw [hK]; kernel_rfl
noncomputable def V_RangeMap : MV := .raw (.ref 224)
theorem G_RangeMap {c : Cx} (C : c.Ok) (hK : c.K = hd.heap_1 c.w.params) {n : Nat} {sc : Scope'} {pos : Pos} (hk : sc.lookup (S "RangeMap") = some .globalImplicit) : Ev c n sc (.Name (S "RangeMap") pos) (eC V_RangeMap) := glob_fn C (by rw [hK]; kernel_rfl) hk
theorem P_RangeMap {c : Cx} (hK : c.K = hd.heap_1 c.w.params) : keepIn c.K (.ref 224) = true := by rw [hK]; kernel_rfl
theorem cls_RangeMap {c : Cx} (hK : c.K = hd.heap_1 c.w.params) : ClsOk c 224 := by
  refine ⟨?_, ?_, ?_, ?_, ?_, ?_⟩ <;> rw [hK] <;> kernel_rfl
theorem A_RangeMap_default {c : Cx} (hK : c.K = hd.heap_1 c.w.params) : findIn c.K (.ref 224) (S "default") = some none := by rw [hK]; kernel_rfl
theorem A_RangeMap_starts {c : Cx} (hK : c.K = hd.heap_1 c.w.params) : findIn c.K (.ref 224) (S "starts") = some none := by rw [hK]; kernel_rfl
theorem A_RangeMap_values {c : Cx} (hK : c.K = hd.heap_1 c.w.params) : findIn c.K (.ref 224) (S "values") = some none := by rw [hK]; kernel_rfl
noncomputable def V_Data : MV := .raw (.ref 273)
theorem G_Data {c : Cx} (C : c.Ok) (hK : c.K = hd.heap_1 c.w.params) {n : Nat} {sc : Scope'} {pos : Pos} (hk : sc.lookup (S "Data") = some .globalImplicit) : Ev c n sc (.Name (S "Data") pos) (eC V_Data) := glob_fn C (by rw [hK]; kernel_rfl) hk
theorem P_Data {c : Cx} (hK : c.K = hd.heap_1 c.w.params) : keepIn c.K (.ref 273) = true := by rw [hK]; kernel_rfl
theorem cls_Data {c : Cx} (hK : c.K = hd.heap_1 c.w.params) : ClsOk c 273 := by
  refine ⟨?_, ?_, ?_, ?_, ?_, ?_⟩ <;> rw [hK] <;> kernel_rfl
theorem A_Data_defaults {c : Cx} (hK : c.K = hd.heap_1 c.w.params) : findIn c.K (.ref 273) (S "defaults") = some none := by rw [hK]; kernel_rfl
theorem A_Data_maps {c : Cx} (hK : c.K = hd.heap_1 c.w.params) : findIn c.K (.ref 273) (S "maps") = some none := by rw [hK]; kernel_rfl
theorem A_Data_properties {c : Cx} (hK : c.K = hd.heap_1 c.w.params) : findIn c.K (.ref 273) (S "properties") = some none := by rw [hK]; kernel_rfl
theorem A_Data_words {c : Cx} (hK : c.K = hd.heap_1 c.w.params) : findIn c.K (.ref 273) (S "words") = some none := by rw [hK]; kernel_rfl
theorem A_Data___init__ {c : Cx} (hK : c.K = hd.heap_1 c.w.params) : findIn c.K (.ref 273) (S "__init__") = some (some (.ref 249)) := by rw [hK]; kernel_rfl
theorem T_Data___init__ {c : Cx} (hK : c.K = hd.heap_1 c.w.params) : typeIn c.K (.ref 249) = some (.type "function") := by rw [hK]; kernel_rfl
theorem P_Data___init__ {c : Cx} (hK : c.K = hd.heap_1 c.w.params) : keepIn c.K (.ref 249) = true := by rw [hK]; kernel_rfl
theorem A_Data_put {c : Cx} (hK : c.K = hd.heap_1 c.w.params) : findIn c.K (.ref 273) (S "put") = some (some (.ref 256)) := by rw [hK]; kernel_rfl
theorem T_Data_put {c : Cx} (hK : c.K = hd.heap_1 c.w.params) : typeIn c.K (.ref 256) = some (.type "function") := by rw [hK]; kernel_rfl
theorem P_Data_put {c : Cx} (hK : c.K = hd.heap_1 c.w.params) : keepIn c.K (.ref 256) = true := by rw [hK]; kernel_rfl
theorem A_Data_get {c : Cx} (hK : c.K = hd.heap_1 c.w.params) : findIn c.K (.ref 273) (S "get") = some (some (.ref 263)) := by rw [hK]; kernel_rfl
theorem T_Data_get {c : Cx} (hK : c.K = hd.heap_1 c.w.params) : typeIn c.K (.ref 263) = some (.type "function") := by rw [hK]; kernel_rfl
theorem P_Data_get {c : Cx} (hK : c.K = hd.heap_1 c.w.params) : keepIn c.K (.ref 263) = true := by rw [hK]; kernel_rfl
theorem A_Data_map_of {c : Cx} (hK : c.K = hd.heap_1 c.w.params) : findIn c.K (.ref 273) (S "map_of") = some (some (.ref 270)) := by rw [hK]; kernel_rfl
theorem T_Data_map_of {c : Cx} (hK : c.K = hd.heap_1 c.w.params) : typeIn c.K (.ref 270) = some (.type "function") := by rw [hK]; kernel_rfl
theorem P_Data_map_of {c : Cx} (hK : c.K = hd.heap_1 c.w.params) : keepIn c.K (.ref 270) = true := by rw [hK]; kernel_rfl
theorem A_RangeMap___init__ {c : Cx} (hK : c.K = hd.heap_1 c.w.params) : findIn c.K (.ref 224) (S "__init__") = some (some (.ref 193)) := by rw [hK]; kernel_rfl
theorem T_RangeMap___init__ {c : Cx} (hK : c.K = hd.heap_1 c.w.params) : typeIn c.K (.ref 193) = some (.type "function") := by rw [hK]; kernel_rfl
theorem P_RangeMap___init__ {c : Cx} (hK : c.K = hd.heap_1 c.w.params) : keepIn c.K (.ref 193) = true := by rw [hK]; kernel_rfl
theorem A_RangeMap_get {c : Cx} (hK : c.K = hd.heap_1 c.w.params) : findIn c.K (.ref 224) (S "get") = some (some (.ref 200)) := by rw [hK]; kernel_rfl
theorem T_RangeMap_get {c : Cx} (hK : c.K = hd.heap_1 c.w.params) : typeIn c.K (.ref 200) = some (.type "function") := by rw [hK]; kernel_rfl
theorem P_RangeMap_get {c : Cx} (hK : c.K = hd.heap_1 c.w.params) : keepIn c.K (.ref 200) = true := by rw [hK]; kernel_rfl
theorem A_RangeMap_put {c : Cx} (hK : c.K = hd.heap_1 c.w.params) : findIn c.K (.ref 224) (S "put") = some (some (.ref 207)) := by rw [hK]; kernel_rfl
theorem T_RangeMap_put {c : Cx} (hK : c.K = hd.heap_1 c.w.params) : typeIn c.K (.ref 207) = some (.type "function") := by rw [hK]; kernel_rfl
theorem P_RangeMap_put {c : Cx} (hK : c.K = hd.heap_1 c.w.params) : keepIn c.K (.ref 207) = true := by rw [hK]; kernel_rfl
theorem A_SentenceStream___init__ {c : Cx} (hK : c.K = hd.heap_1 c.w.params) : findIn c.K (.ref 127) (S "__init__") = some (some (.ref 91)) := by rw [hK]; kernel_rfl
theorem T_SentenceStream___init__ {c : Cx} (hK : c.K = hd.heap_1 c.w.params) : typeIn c.K (.ref 91) = some (.type "function") := by rw [hK]; kernel_rfl
theorem P_SentenceStream___init__ {c : Cx} (hK : c.K = hd.heap_1 c.w.params) : keepIn c.K (.ref 91) = true := by rw [hK]; kernel_rfl
theorem A_SentenceStream_verdict {c : Cx} (hK : c.K = hd.heap_1 c.w.params) : findIn c.K (.ref 127) (S "verdict") = some (some (.ref 98)) := by rw [hK]; kernel_rfl
theorem T_SentenceStream_verdict {c : Cx} (hK : c.K = hd.heap_1 c.w.params) : typeIn c.K (.ref 98) = some (.type "function") := by rw [hK]; kernel_rfl
theorem P_SentenceStream_verdict {c : Cx} (hK : c.K = hd.heap_1 c.w.params) : keepIn c.K (.ref 98) = true := by rw [hK]; kernel_rfl
theorem A_SentenceStream_settled {c : Cx} (hK : c.K = hd.heap_1 c.w.params) : findIn c.K (.ref 127) (S "settled") = some (some (.ref 103)) := by rw [hK]; kernel_rfl
theorem T_SentenceStream_settled {c : Cx} (hK : c.K = hd.heap_1 c.w.params) : typeIn c.K (.ref 103) = some (.type "function") := by rw [hK]; kernel_rfl
theorem P_SentenceStream_settled {c : Cx} (hK : c.K = hd.heap_1 c.w.params) : keepIn c.K (.ref 103) = true := by rw [hK]; kernel_rfl
theorem A_SentenceStream_take {c : Cx} (hK : c.K = hd.heap_1 c.w.params) : findIn c.K (.ref 127) (S "take") = some (some (.ref 110)) := by rw [hK]; kernel_rfl
theorem T_SentenceStream_take {c : Cx} (hK : c.K = hd.heap_1 c.w.params) : typeIn c.K (.ref 110) = some (.type "function") := by rw [hK]; kernel_rfl
theorem P_SentenceStream_take {c : Cx} (hK : c.K = hd.heap_1 c.w.params) : keepIn c.K (.ref 110) = true := by rw [hK]; kernel_rfl
theorem A_SentenceStream_put {c : Cx} (hK : c.K = hd.heap_1 c.w.params) : findIn c.K (.ref 127) (S "put") = some (some (.ref 117)) := by rw [hK]; kernel_rfl
theorem T_SentenceStream_put {c : Cx} (hK : c.K = hd.heap_1 c.w.params) : typeIn c.K (.ref 117) = some (.type "function") := by rw [hK]; kernel_rfl
theorem P_SentenceStream_put {c : Cx} (hK : c.K = hd.heap_1 c.w.params) : keepIn c.K (.ref 117) = true := by rw [hK]; kernel_rfl
theorem A_SentenceStream_finish {c : Cx} (hK : c.K = hd.heap_1 c.w.params) : findIn c.K (.ref 127) (S "finish") = some (some (.ref 124)) := by rw [hK]; kernel_rfl
theorem T_SentenceStream_finish {c : Cx} (hK : c.K = hd.heap_1 c.w.params) : typeIn c.K (.ref 124) = some (.type "function") := by rw [hK]; kernel_rfl
theorem P_SentenceStream_finish {c : Cx} (hK : c.K = hd.heap_1 c.w.params) : keepIn c.K (.ref 124) = true := by rw [hK]; kernel_rfl
noncomputable def V_len : MV := .raw (.builtin "len")
theorem G_len {c : Cx} (C : c.Ok) (hK : c.K = hd.heap_1 c.w.params) {n : Nat} {sc : Scope'} {pos : Pos} (hk : sc.lookup (S "len") = some .globalImplicit) : Ev c n sc (.Name (S "len") pos) (eC V_len) := Ev.built C (by rw [hK]; kernel_rfl) rfl (by decide) hk
noncomputable def V_range : MV := .raw (.type "range")
theorem G_range {c : Cx} (C : c.Ok) (hK : c.K = hd.heap_1 c.w.params) {n : Nat} {sc : Scope'} {pos : Pos} (hk : sc.lookup (S "range") = some .globalImplicit) : Ev c n sc (.Name (S "range") pos) (eC V_range) := Ev.built C (by rw [hK]; kernel_rfl) rfl (by decide) hk
noncomputable def V_max : MV := .raw (.builtin "max")
theorem G_max {c : Cx} (C : c.Ok) (hK : c.K = hd.heap_1 c.w.params) {n : Nat} {sc : Scope'} {pos : Pos} (hk : sc.lookup (S "max") = some .globalImplicit) : Ev c n sc (.Name (S "max") pos) (eC V_max) := Ev.built C (by rw [hK]; kernel_rfl) rfl (by decide) hk
noncomputable def V_list : MV := .raw (.type "list")
theorem G_list {c : Cx} (C : c.Ok) (hK : c.K = hd.heap_1 c.w.params) {n : Nat} {sc : Scope'} {pos : Pos} (hk : sc.lookup (S "list") = some .globalImplicit) : Ev c n sc (.Name (S "list") pos) (eC V_list) := Ev.built C (by rw [hK]; kernel_rfl) rfl (by decide) hk
noncomputable def V_tuple : MV := .raw (.type "tuple")
theorem G_tuple {c : Cx} (C : c.Ok) (hK : c.K = hd.heap_1 c.w.params) {n : Nat} {sc : Scope'} {pos : Pos} (hk : sc.lookup (S "tuple") = some .globalImplicit) : Ev c n sc (.Name (S "tuple") pos) (eC V_tuple) := Ev.built C (by rw [hK]; kernel_rfl) rfl (by decide) hk
noncomputable def V_int : MV := .raw (.type "int")
theorem G_int {c : Cx} (C : c.Ok) (hK : c.K = hd.heap_1 c.w.params) {n : Nat} {sc : Scope'} {pos : Pos} (hk : sc.lookup (S "int") = some .globalImplicit) : Ev c n sc (.Name (S "int") pos) (eC V_int) := Ev.built C (by rw [hK]; kernel_rfl) rfl (by decide) hk
noncomputable def V_zip : MV := .raw (.type "zip")
theorem G_zip {c : Cx} (C : c.Ok) (hK : c.K = hd.heap_1 c.w.params) {n : Nat} {sc : Scope'} {pos : Pos} (hk : sc.lookup (S "zip") = some .globalImplicit) : Ev c n sc (.Name (S "zip") pos) (eC V_zip) := Ev.built C (by rw [hK]; kernel_rfl) rfl (by decide) hk
noncomputable def V_enumerate : MV := .raw (.type "enumerate")
theorem G_enumerate {c : Cx} (C : c.Ok) (hK : c.K = hd.heap_1 c.w.params) {n : Nat} {sc : Scope'} {pos : Pos} (hk : sc.lookup (S "enumerate") = some .globalImplicit) : Ev c n sc (.Name (S "enumerate") pos) (eC V_enumerate) := Ev.built C (by rw [hK]; kernel_rfl) rfl (by decide) hk
end Nt
end
section
open PySem PySem.W PySem.Spec PySem.Calls PyProof.Rows PySem.SeqAt
namespace Nt
theorem m0 {P : List Value → Prop} (h : P []) : ∀ vals : List Value, vals.length = 0 → P vals := fun vals e => by cases vals with | nil => exact h | cons => cases e
theorem m1 {P : List Value → Prop} (h : ∀ a, P [a]) : ∀ vals : List Value, vals.length = 1 → P vals := fun vals e => by cases vals with | nil => cases e | cons a r => exact m0 (P := fun r => P (a :: r)) (h a) r (Nat.succ.inj e)
theorem m2 {P : List Value → Prop} (h : ∀ a b, P [a, b]) : ∀ vals : List Value, vals.length = 2 → P vals := fun vals e => by cases vals with | nil => cases e | cons a r => exact m1 (P := fun r => P (a :: r)) (h a) r (Nat.succ.inj e)
theorem m3 {P : List Value → Prop} (h : ∀ a b c, P [a, b, c]) : ∀ vals : List Value, vals.length = 3 → P vals := fun vals e => by cases vals with | nil => cases e | cons a r => exact m2 (P := fun r => P (a :: r)) (h a) r (Nat.succ.inj e)
theorem m4 {P : List Value → Prop} (h : ∀ a b c d, P [a, b, c, d]) : ∀ vals : List Value, vals.length = 4 → P vals := fun vals e => by cases vals with | nil => cases e | cons a r => exact m3 (P := fun r => P (a :: r)) (h a) r (Nat.succ.inj e)
theorem m5 {P : List Value → Prop} (h : ∀ a b c d e, P [a, b, c, d, e]) : ∀ vals : List Value, vals.length = 5 → P vals := fun vals e => by cases vals with | nil => cases e | cons a r => exact m4 (P := fun r => P (a :: r)) (h a) r (Nat.succ.inj e)
theorem Lo {c : Cx} {n : Nat} {sc : Scope'} {x : String} {pos : Pos} (hk : sc.lookup (S x) = some .local := by decide +kernel) (hd : (S x == ("__debug__" : Str)) = false := by decide +kernel) : Ev c n sc (.Name (S x) pos) (eN x) := Ev.loc hk hd
theorem An {c : Cx} {n : Nat} {sc : Scope'} {x : String} {pos : Pos} (hk : sc.lookup (S x) = some .local := by decide +kernel) : As c n sc (.Name (S x) pos) (aN x) := As.name (.inl hk)
/-! the functions (printed by gen.py) -/
noncomputable def F_place_by_half : FnF := fnF ["firsts", "number"] (xCons (xAssign (eC (.int 0)) (aN "low")) (xCons (xAssign (eCall lenF (lCons (eN "firsts") lNil)) (aN "high")) (xCons (whileF (tCmp ltF (eN "low") (eN "high")) (xCons (xAssign (eBin (intB divF) (eBin addF (eN "low") (eN "high")) (eC (.int 2))) (aN "middle")) (xCons (xIf (tCmp leF (eSub (eN "firsts") (eN "middle")) (eN "number")) (xCons (xAssign (eBin addF (eN "middle") (eC (.int 1))) (aN "low")) xNil) (xCons (xAssign (eN "middle") (aN "high")) xNil)) xNil)) FU) (xCons (xRet (eBin subF (eN "low") (eC (.int 1)))) xNil))))
set_option maxHeartbeats 400000 in
theorem X_place_by_half {c : Cx} (C : c.Ok) (hK : c.K = hd.heap_1 c.w.params) : Fn c 1 (.ref 172) F_place_by_half := by
  refine Fn.plain (n := 0) C (by rw [hK]; rfl) (by rw [hK]; kernel_rfl) ?_ ?_ ?_ ?_
  · refine Exs.cons ?_ ?_
    refine Ex.asg ?_ ?_ (by rfl) (by rfl)
    exact Ev.cint
    exact An
    refine Exs.cons ?_ ?_
    refine Ex.asg ?_ ?_ (by rfl) (by rfl)
    refine Ev.call C (G_len C hK (by decide +kernel)) .builtin len_cal ?_
    refine EvL.cons ?_ ?_
    exact Lo
    exact EvL.nil
    exact An
    refine Exs.cons ?_ ?_
    refine Ex.while (k := FU) ?_ ?_
    refine Tr.cmp lt_rule ?_ ?_
    exact Lo
    exact Lo
    refine Exs.cons ?_ ?_
    refine Ex.asg ?_ ?_ (by rfl) (by rfl)
    refine Ev.bin div_rule ?_ ?_
    refine Ev.bin add_rule ?_ ?_
    exact Lo
    exact Lo
    exact Ev.cint
    exact An
    refine Exs.cons ?_ ?_
    refine Ex.ite ?_ ?_ ?_
    refine Tr.cmp le_rule ?_ ?_
    refine Ev.sub C ?_ ?_
    exact Lo
    exact Lo
    exact Lo
    refine Exs.cons ?_ ?_
    refine Ex.asg ?_ ?_ (by rfl) (by rfl)
    refine Ev.bin add_rule ?_ ?_
    exact Lo
    exact Ev.cint
    exact An
    exact Exs.nil
    refine Exs.cons ?_ ?_
    refine Ex.asg ?_ ?_ (by rfl) (by rfl)
    exact Lo
    exact An
    exact Exs.nil
    exact Exs.nil
    refine Exs.cons ?_ ?_
    refine Ex.ret ?_
    refine Ev.bin sub_rule ?_ ?_
    exact Lo
    exact Ev.cint
    exact Exs.nil
  · exact m2 fun _ _ => rfl
  · decide +kernel
  · decide +kernel
noncomputable def F_RangeMap_get : FnF := fnF ["self", "code"] (xCons (xRet (eSub (eAttr 224 "values" (eN "self")) (eCall F_place_by_half (lCons (eAttr 224 "starts" (eN "self")) (lCons (eN "code") lNil))))) xNil)
set_option maxHeartbeats 400000 in
theorem X_RangeMap_get {c : Cx} (C : c.Ok) (hK : c.K = hd.heap_1 c.w.params) : Fn c 2 (.ref 200) F_RangeMap_get := by
  refine Fn.plain (n := 1) C (by rw [hK]; rfl) (by rw [hK]; kernel_rfl) ?_ ?_ ?_ ?_
  · refine Exs.cons ?_ ?_
    refine Ex.ret ?_
    refine Ev.sub C ?_ ?_
    refine Ev.attr C (cls_RangeMap hK) (A_RangeMap_values hK) ?_
    exact Lo
    refine Ev.call C (G_place_by_half C hK (by decide +kernel)) (.ofK (P_place_by_half hK)) (Cal.ofFn ((X_place_by_half C hK).weaken (by decide))) ?_
    refine EvL.cons ?_ ?_
    refine Ev.attr C (cls_RangeMap hK) (A_RangeMap_starts hK) ?_
    exact Lo
    refine EvL.cons ?_ ?_
    exact Lo
    exact EvL.nil
    exact Exs.nil
  · exact m2 fun _ _ => rfl
  · decide +kernel
  · decide +kernel
noncomputable def F_Data_get : FnF := fnF ["self", "name", "code"] (xCons (xIf (tCmp inF (eN "name") (eAttr 273 "maps" (eN "self"))) (xCons (xRet (eMeth 224 "get" F_RangeMap_get (eSub (eAttr 273 "maps" (eN "self")) (eN "name")) (lCons (eN "code") lNil))) xNil) xNil) (xCons (xRet (eMethD getF (eAttr 273 "defaults" (eN "self")) (lCons (eN "name") lNil))) xNil))
set_option maxHeartbeats 400000 in
theorem X_Data_get {c : Cx} (C : c.Ok) (hK : c.K = hd.heap_1 c.w.params) : Fn c 3 (.ref 263) F_Data_get := by
  refine Fn.plain (n := 2) C (by rw [hK]; rfl) (by rw [hK]; kernel_rfl) ?_ ?_ ?_ ?_
  · refine Exs.cons ?_ ?_
    refine Ex.ite ?_ ?_ ?_
    refine Tr.cmp (in_rule C) ?_ ?_
    exact Lo
    refine Ev.attr C (cls_Data hK) (A_Data_maps hK) ?_
    exact Lo
    refine Exs.cons ?_ ?_
    refine Ex.ret ?_
    refine Ev.meth C (cls_RangeMap hK) (A_RangeMap_get hK) (T_RangeMap_get hK) (P_RangeMap_get hK) (Cal.ofFn ((X_RangeMap_get C hK).weaken (by decide))) ?_ ?_ (pl := _) (by intro _; rfl)
    refine Ev.sub C ?_ ?_
    refine Ev.attr C (cls_Data hK) (A_Data_maps hK) ?_
    exact Lo
    exact Lo
    refine EvL.cons ?_ ?_
    exact Lo
    exact EvL.nil
    exact Exs.nil
    exact Exs.nil
    refine Exs.cons ?_ ?_
    refine Ex.ret ?_
    refine Ev.methD C (get_meth C) ?_ ?_ (pl := _) (by intro _; rfl)
    refine Ev.attr C (cls_Data hK) (A_Data_defaults hK) ?_
    exact Lo
    refine EvL.cons ?_ ?_
    exact Lo
    exact EvL.nil
    exact Exs.nil
  · exact m3 fun _ _ _ => rfl
  · decide +kernel
  · decide +kernel
noncomputable def F_sentence_kind : FnF := fnF ["text", "at", "data"] (xCons (xRet (eIf (tCmp2 leF ltF (eC (.int 0)) (eN "at") (eCall lenF (lCons (eN "text") lNil))) (eMeth 273 "get" F_Data_get (eN "data") (lCons (eC (.str "sb")) (lCons (eSub (eN "text") (eN "at")) lNil))) (eC (.str "")))) xNil)
set_option maxHeartbeats 400000 in
theorem X_sentence_kind {c : Cx} (C : c.Ok) (hK : c.K = hd.heap_1 c.w.params) : Fn c 4 (.ref 35) F_sentence_kind := by
  refine Fn.plain (n := 3) C (by rw [hK]; rfl) (by rw [hK]; kernel_rfl) ?_ ?_ ?_ ?_
  · refine Exs.cons ?_ ?_
    refine Ex.ret ?_
    refine Ev.ifExp ?_ ?_ ?_
    refine Tr.cmp2 le_rule lt_rule ?_ ?_ ?_
    exact Ev.cint
    exact Lo
    refine Ev.call C (G_len C hK (by decide +kernel)) .builtin len_cal ?_
    refine EvL.cons ?_ ?_
    exact Lo
    exact EvL.nil
    refine Ev.meth C (cls_Data hK) (A_Data_get hK) (T_Data_get hK) (P_Data_get hK) (Cal.ofFn ((X_Data_get C hK).weaken (by decide))) ?_ ?_ (pl := _) (by intro _; rfl)
    exact Lo
    refine EvL.consC ?_ ?_
    exact Ev.cstr
    refine EvL.cons ?_ ?_
    refine Ev.sub C ?_ ?_
    exact Lo
    exact Lo
    exact EvL.nil
    exact Ev.cstr
    exact Exs.nil
  · exact m3 fun _ _ _ => rfl
  · decide +kernel
  · decide +kernel
noncomputable def F_sentence_hangs : FnF := fnF ["text", "at", "data"] (xCons (xIf (tOr (tCmp notInF (eCall F_sentence_kind (lCons (eN "text") (lCons (eN "at") (lCons (eN "data") lNil)))) (eC V_SENTENCE_HANGERS)) (tOr (tCmp eqF (eN "at") (eC (.int 0))) tFalse)) (xCons (xRet (eC (.bool false))) xNil) xNil) (xCons (xRet (eCmp notInF (eCall F_sentence_kind (lCons (eN "text") (lCons (eBin subF (eN "at") (eC (.int 1))) (lCons (eN "data") lNil)))) (eC V_SENTENCE_PARAS))) xNil))
set_option maxHeartbeats 400000 in
theorem X_sentence_hangs {c : Cx} (C : c.Ok) (hK : c.K = hd.heap_1 c.w.params) : Fn c 5 (.ref 42) F_sentence_hangs := by
  refine Fn.plain (n := 4) C (by rw [hK]; rfl) (by rw [hK]; kernel_rfl) ?_ ?_ ?_ ?_
  · refine Exs.cons ?_ ?_
    refine Ex.ite ?_ ?_ ?_
    refine Tr.or ?_ ?_
    refine Tr.cmp (notIn_rule C) ?_ ?_
    refine Ev.call C (G_sentence_kind C hK (by decide +kernel)) (.ofK (P_sentence_kind hK)) (Cal.ofFn ((X_sentence_kind C hK).weaken (by decide))) ?_
    refine EvL.cons ?_ ?_
    exact Lo
    refine EvL.cons ?_ ?_
    exact Lo
    refine EvL.cons ?_ ?_
    exact Lo
    exact EvL.nil
    exact G_SENTENCE_HANGERS C hK (by decide +kernel)
    refine Tr.or ?_ ?_
    refine Tr.cmp eq_rule ?_ ?_
    exact Lo
    exact Ev.cint
    exact Tr.or0
    refine Exs.cons ?_ ?_
    refine Ex.ret ?_
    exact Ev.cbool
    exact Exs.nil
    exact Exs.nil
    refine Exs.cons ?_ ?_
    refine Ex.ret ?_
    refine Ev.cmp (notIn_rule C) ?_ ?_
    refine Ev.call C (G_sentence_kind C hK (by decide +kernel)) (.ofK (P_sentence_kind hK)) (Cal.ofFn ((X_sentence_kind C hK).weaken (by decide))) ?_
    refine EvL.cons ?_ ?_
    exact Lo
    refine EvL.cons ?_ ?_
    refine Ev.bin sub_rule ?_ ?_
    exact Lo
    exact Ev.cint
    refine EvL.cons ?_ ?_
    exact Lo
    exact EvL.nil
    exact G_SENTENCE_PARAS C hK (by decide +kernel)
    exact Exs.nil
  · exact m3 fun _ _ _ => rfl
  · decide +kernel
  · decide +kernel
noncomputable def F_sentence_base : FnF := fnF ["text", "at", "data"] (xCons (xAssign (eBin subF (eN "at") (eC (.int 1))) (aN "at")) (xCons (whileF (tAnd (tCmp gtF (eN "at") (eC (.int 0))) (tAnd (eT (eCall F_sentence_hangs (lCons (eN "text") (lCons (eN "at") (lCons (eN "data") lNil))))) tTrue)) (xCons (xAssign (eBin subF (eN "at") (eC (.int 1))) (aN "at")) xNil) FU) (xCons (xRet (eN "at")) xNil)))
set_option maxHeartbeats 400000 in
theorem X_sentence_base {c : Cx} (C : c.Ok) (hK : c.K = hd.heap_1 c.w.params) : Fn c 6 (.ref 49) F_sentence_base := by
  refine Fn.plain (n := 5) C (by rw [hK]; rfl) (by rw [hK]; kernel_rfl) ?_ ?_ ?_ ?_
  · refine Exs.cons ?_ ?_
    refine Ex.asg ?_ ?_ (by rfl) (by rfl)
    refine Ev.bin sub_rule ?_ ?_
    exact Lo
    exact Ev.cint
    exact An
    refine Exs.cons ?_ ?_
    refine Ex.while (k := FU) ?_ ?_
    refine Tr.and ?_ ?_
    refine Tr.cmp gt_rule ?_ ?_
    exact Lo
    exact Ev.cint
    refine Tr.and ?_ ?_
    refine Tr.val ?_
    refine Ev.call C (G_sentence_hangs C hK (by decide +kernel)) (.ofK (P_sentence_hangs hK)) (Cal.ofFn ((X_sentence_hangs C hK).weaken (by decide))) ?_
    refine EvL.cons ?_ ?_
    exact Lo
    refine EvL.cons ?_ ?_
    exact Lo
    refine EvL.cons ?_ ?_
    exact Lo
    exact EvL.nil
    exact Tr.and0
    refine Exs.cons ?_ ?_
    refine Ex.asg ?_ ?_ (by rfl) (by rfl)
    refine Ev.bin sub_rule ?_ ?_
    exact Lo
    exact Ev.cint
    exact An
    exact Exs.nil
    refine Exs.cons ?_ ?_
    refine Ex.ret ?_
    exact Lo
    exact Exs.nil
  · exact m3 fun _ _ _ => rfl
  · decide +kernel
  · decide +kernel
noncomputable def F_sentence_tail : FnF := fnF ["text", "at", "data"] (xCons (xAssign (eCall F_sentence_base (lCons (eN "text") (lCons (eN "at") (lCons (eN "data") lNil)))) (aN "there")) (xCons (xAssign (eCmp eqF (eCall F_sentence_kind (lCons (eN "text") (lCons (eN "there") (lCons (eN "data") lNil)))) (eC (.str "Sp"))) (aN "is_spaced")) (xCons (whileF (tCmp eqF (eCall F_sentence_kind (lCons (eN "text") (lCons (eN "there") (lCons (eN "data") lNil)))) (eC (.str "Sp"))) (xCons (xAssign (eCall F_sentence_base (lCons (eN "text") (lCons (eN "there") (lCons (eN "data") lNil)))) (aN "there")) xNil) FU) (xCons (whileF (tCmp eqF (eCall F_sentence_kind (lCons (eN "text") (lCons (eN "there") (lCons (eN "data") lNil)))) (eC (.str "Close"))) (xCons (xAssign (eCall F_sentence_base (lCons (eN "text") (lCons (eN "there") (lCons (eN "data") lNil)))) (aN "there")) xNil) FU) (xCons (xAssign (eCall F_sentence_kind (lCons (eN "text") (lCons (eN "there") (lCons (eN "data") lNil)))) (aN "kind")) (xCons (xRet (eIf (tCmp inF (eN "kind") (eC V_SENTENCE_TERMS)) (eTup (lCons (eN "kind") (lCons (eN "there") (lCons (eN "is_spaced") lNil)))) (eTup (lCons (eC (.str "")) (lCons (eNeg (eC (.int 1))) (lCons (eC (.bool false)) lNil)))))) xNil))))))
set_option maxHeartbeats 400000 in
theorem X_sentence_tail {c : Cx} (C : c.Ok) (hK : c.K = hd.heap_1 c.w.params) : Fn c 7 (.ref 56) F_sentence_tail := by
  refine Fn.plain (n := 6) C (by rw [hK]; rfl) (by rw [hK]; kernel_rfl) ?_ ?_ ?_ ?_
  · refine Exs.cons ?_ ?_
    refine Ex.asg ?_ ?_ (by rfl) (by rfl)
    refine Ev.call C (G_sentence_base C hK (by decide +kernel)) (.ofK (P_sentence_base hK)) (Cal.ofFn ((X_sentence_base C hK).weaken (by decide))) ?_
    refine EvL.cons ?_ ?_
    exact Lo
    refine EvL.cons ?_ ?_
    exact Lo
    refine EvL.cons ?_ ?_
    exact Lo
    exact EvL.nil
    exact An
    refine Exs.cons ?_ ?_
    refine Ex.asg ?_ ?_ (by rfl) (by rfl)
    refine Ev.cmp eq_rule ?_ ?_
    refine Ev.call C (G_sentence_kind C hK (by decide +kernel)) (.ofK (P_sentence_kind hK)) (Cal.ofFn ((X_sentence_kind C hK).weaken (by decide))) ?_
    refine EvL.cons ?_ ?_
    exact Lo
    refine EvL.cons ?_ ?_
    exact Lo
    refine EvL.cons ?_ ?_
    exact Lo
    exact EvL.nil
    exact Ev.cstr
    exact An
    refine Exs.cons ?_ ?_
    refine Ex.while (k := FU) ?_ ?_
    refine Tr.cmp eq_rule ?_ ?_
    refine Ev.call C (G_sentence_kind C hK (by decide +kernel)) (.ofK (P_sentence_kind hK)) (Cal.ofFn ((X_sentence_kind C hK).weaken (by decide))) ?_
    refine EvL.cons ?_ ?_
    exact Lo
    refine EvL.cons ?_ ?_
    exact Lo
    refine EvL.cons ?_ ?_
    exact Lo
    exact EvL.nil
    exact Ev.cstr
    refine Exs.cons ?_ ?_
    refine Ex.asg ?_ ?_ (by rfl) (by rfl)
    refine Ev.call C (G_sentence_base C hK (by decide +kernel)) (.ofK (P_sentence_base hK)) (Cal.ofFn ((X_sentence_base C hK).weaken (by decide))) ?_
    refine EvL.cons ?_ ?_
    exact Lo
    refine EvL.cons ?_ ?_
    exact Lo
    refine EvL.cons ?_ ?_
    exact Lo
    exact EvL.nil
    exact An
    exact Exs.nil
    refine Exs.cons ?_ ?_
    refine Ex.while (k := FU) ?_ ?_
    refine Tr.cmp eq_rule ?_ ?_
    refine Ev.call C (G_sentence_kind C hK (by decide +kernel)) (.ofK (P_sentence_kind hK)) (Cal.ofFn ((X_sentence_kind C hK).weaken (by decide))) ?_
    refine EvL.cons ?_ ?_
    exact Lo
    refine EvL.cons ?_ ?_
    exact Lo
    refine EvL.cons ?_ ?_
    exact Lo
    exact EvL.nil
    exact Ev.cstr
    refine Exs.cons ?_ ?_
    refine Ex.asg ?_ ?_ (by rfl) (by rfl)
    refine Ev.call C (G_sentence_base C hK (by decide +kernel)) (.ofK (P_sentence_base hK)) (Cal.ofFn ((X_sentence_base C hK).weaken (by decide))) ?_
    refine EvL.cons ?_ ?_
    exact Lo
    refine EvL.cons ?_ ?_
    exact Lo
    refine EvL.cons ?_ ?_
    exact Lo
    exact EvL.nil
    exact An
    exact Exs.nil
    refine Exs.cons ?_ ?_
    refine Ex.asg ?_ ?_ (by rfl) (by rfl)
    refine Ev.call C (G_sentence_kind C hK (by decide +kernel)) (.ofK (P_sentence_kind hK)) (Cal.ofFn ((X_sentence_kind C hK).weaken (by decide))) ?_
    refine EvL.cons ?_ ?_
    exact Lo
    refine EvL.cons ?_ ?_
    exact Lo
    refine EvL.cons ?_ ?_
    exact Lo
    exact EvL.nil
    exact An
    refine Exs.cons ?_ ?_
    refine Ex.ret ?_
    refine Ev.ifExp ?_ ?_ ?_
    refine Tr.cmp (in_rule C) ?_ ?_
    exact Lo
    exact G_SENTENCE_TERMS C hK (by decide +kernel)
    refine Ev.tuple ?_
    refine EvL.cons ?_ ?_
    exact Lo
    refine EvL.cons ?_ ?_
    exact Lo
    refine EvL.cons ?_ ?_
    exact Lo
    exact EvL.nil
    refine Ev.tuple ?_
    refine EvL.consC ?_ ?_
    exact Ev.cstr
    refine EvL.cons ?_ ?_
    refine Ev.neg ?_
    exact Ev.cint
    refine EvL.consC ?_ ?_
    exact Ev.cbool
    exact EvL.nil
    exact Exs.nil
  · exact m3 fun _ _ _ => rfl
  · decide +kernel
  · decide +kernel
noncomputable def F_sentence_goes_on : FnF := fnF ["text", "at", "data"] (xCons (whileF (tCmp ltF (eN "at") (eCall lenF (lCons (eN "text") lNil))) (xCons (xAssign (eCall F_sentence_kind (lCons (eN "text") (lCons (eN "at") (lCons (eN "data") lNil)))) (aN "kind")) (xCons (xIf (tCmp inF (eN "kind") (eC V_SENTENCE_STOPS)) (xCons (xRet (eCmp eqF (eN "kind") (eC (.str "Lower")))) xNil) xNil) (xCons (xAssign (eBin addF (eN "at") (eC (.int 1))) (aN "at")) xNil))) FU) (xCons (xRet (eC (.bool false))) xNil))
set_option maxHeartbeats 400000 in
theorem X_sentence_goes_on {c : Cx} (C : c.Ok) (hK : c.K = hd.heap_1 c.w.params) : Fn c 5 (.ref 63) F_sentence_goes_on := by
  refine Fn.plain (n := 4) C (by rw [hK]; rfl) (by rw [hK]; kernel_rfl) ?_ ?_ ?_ ?_
  · refine Exs.cons ?_ ?_
    refine Ex.while (k := FU) ?_ ?_
    refine Tr.cmp lt_rule ?_ ?_
    exact Lo
    refine Ev.call C (G_len C hK (by decide +kernel)) .builtin len_cal ?_
    refine EvL.cons ?_ ?_
    exact Lo
    exact EvL.nil
    refine Exs.cons ?_ ?_
    refine Ex.asg ?_ ?_ (by rfl) (by rfl)
    refine Ev.call C (G_sentence_kind C hK (by decide +kernel)) (.ofK (P_sentence_kind hK)) (Cal.ofFn ((X_sentence_kind C hK).weaken (by decide))) ?_
    refine EvL.cons ?_ ?_
    exact Lo
    refine EvL.cons ?_ ?_
    exact Lo
    refine EvL.cons ?_ ?_
    exact Lo
    exact EvL.nil
    exact An
    refine Exs.cons ?_ ?_
    refine Ex.ite ?_ ?_ ?_
    refine Tr.cmp (in_rule C) ?_ ?_
    exact Lo
    exact G_SENTENCE_STOPS C hK (by decide +kernel)
    refine Exs.cons ?_ ?_
    refine Ex.ret ?_
    refine Ev.cmp eq_rule ?_ ?_
    exact Lo
    exact Ev.cstr
    exact Exs.nil
    exact Exs.nil
    refine Exs.cons ?_ ?_
    refine Ex.asg ?_ ?_ (by rfl) (by rfl)
    refine Ev.bin add_rule ?_ ?_
    exact Lo
    exact Ev.cint
    exact An
    exact Exs.nil
    refine Exs.cons ?_ ?_
    refine Ex.ret ?_
    exact Ev.cbool
    exact Exs.nil
  · exact m3 fun _ _ _ => rfl
  · decide +kernel
  · decide +kernel
noncomputable def F_sentence_is_abbreviated : FnF := fnF ["text", "at", "data"] (xCons (xAssign (eCall F_sentence_base (lCons (eN "text") (lCons (eN "at") (lCons (eN "data") lNil)))) (aN "there")) (xCons (xIf (tCmp neF (eCall F_sentence_kind (lCons (eN "text") (lCons (eN "there") (lCons (eN "data") lNil)))) (eC (.str "ATerm"))) (xCons (xRet (eC (.bool false))) xNil) xNil) (xCons (xAssign (eCall F_sentence_kind (lCons (eN "text") (lCons (eN "at") (lCons (eN "data") lNil)))) (aN "kind")) (xCons (xIf (tCmp eqF (eN "kind") (eC (.str "Upper"))) (xCons (xRet (eCmp inF (eCall F_sentence_kind (lCons (eN "text") (lCons (eCall F_sentence_base (lCons (eN "text") (lCons (eN "there") (lCons (eN "data") lNil)))) (lCons (eN "data") lNil)))) (eC V_SENTENCE_CASED))) xNil) xNil) (xCons (xRet (eCmp eqF (eN "kind") (eC (.str "Numeric")))) xNil)))))
set_option maxHeartbeats 400000 in
theorem X_sentence_is_abbreviated {c : Cx} (C : c.Ok) (hK : c.K = hd.heap_1 c.w.params) : Fn c 7 (.ref 70) F_sentence_is_abbreviated := by
  refine Fn.plain (n := 6) C (by rw [hK]; rfl) (by rw [hK]; kernel_rfl) ?_ ?_ ?_ ?_
  · refine Exs.cons ?_ ?_
    refine Ex.asg ?_ ?_ (by rfl) (by rfl)
    refine Ev.call C (G_sentence_base C hK (by decide +kernel)) (.ofK (P_sentence_base hK)) (Cal.ofFn ((X_sentence_base C hK).weaken (by decide))) ?_
    refine EvL.cons ?_ ?_
    exact Lo
    refine EvL.cons ?_ ?_
    exact Lo
    refine EvL.cons ?_ ?_
    exact Lo
    exact EvL.nil
    exact An
    refine Exs.cons ?_ ?_
    refine Ex.ite ?_ ?_ ?_
    refine Tr.cmp ne_rule ?_ ?_
    refine Ev.call C (G_sentence_kind C hK (by decide +kernel)) (.ofK (P_sentence_kind hK)) (Cal.ofFn ((X_sentence_kind C hK).weaken (by decide))) ?_
    refine EvL.cons ?_ ?_
    exact Lo
    refine EvL.cons ?_ ?_
    exact Lo
    refine EvL.cons ?_ ?_
    exact Lo
    exact EvL.nil
    exact Ev.cstr
    refine Exs.cons ?_ ?_
    refine Ex.ret ?_
    exact Ev.cbool
    exact Exs.nil
    exact Exs.nil
    refine Exs.cons ?_ ?_
    refine Ex.asg ?_ ?_ (by rfl) (by rfl)
    refine Ev.call C (G_sentence_kind C hK (by decide +kernel)) (.ofK (P_sentence_kind hK)) (Cal.ofFn ((X_sentence_kind C hK).weaken (by decide))) ?_
    refine EvL.cons ?_ ?_
    exact Lo
    refine EvL.cons ?_ ?_
    exact Lo
    refine EvL.cons ?_ ?_
    exact Lo
    exact EvL.nil
    exact An
    refine Exs.cons ?_ ?_
    refine Ex.ite ?_ ?_ ?_
    refine Tr.cmp eq_rule ?_ ?_
    exact Lo
    exact Ev.cstr
    refine Exs.cons ?_ ?_
    refine Ex.ret ?_
    refine Ev.cmp (in_rule C) ?_ ?_
    refine Ev.call C (G_sentence_kind C hK (by decide +kernel)) (.ofK (P_sentence_kind hK)) (Cal.ofFn ((X_sentence_kind C hK).weaken (by decide))) ?_
    refine EvL.cons ?_ ?_
    exact Lo
    refine EvL.cons ?_ ?_
    refine Ev.call C (G_sentence_base C hK (by decide +kernel)) (.ofK (P_sentence_base hK)) (Cal.ofFn ((X_sentence_base C hK).weaken (by decide))) ?_
    refine EvL.cons ?_ ?_
    exact Lo
    refine EvL.cons ?_ ?_
    exact Lo
    refine EvL.cons ?_ ?_
    exact Lo
    exact EvL.nil
    refine EvL.cons ?_ ?_
    exact Lo
    exact EvL.nil
    exact G_SENTENCE_CASED C hK (by decide +kernel)
    exact Exs.nil
    exact Exs.nil
    refine Exs.cons ?_ ?_
    refine Ex.ret ?_
    refine Ev.cmp eq_rule ?_ ?_
    exact Lo
    exact Ev.cstr
    exact Exs.nil
  · exact m3 fun _ _ _ => rfl
  · decide +kernel
  · decide +kernel
noncomputable def F_sentence_break : FnF := fnF ["text", "at", "data"] (xCons (xIf (tOr (tCmp eqF (eN "at") (eC (.int 0))) (tOr (tCmp eqF (eN "at") (eCall lenF (lCons (eN "text") lNil))) tFalse)) (xCons (xRet (eCmp gtF (eCall lenF (lCons (eN "text") lNil)) (eC (.int 0)))) xNil) xNil) (xCons (xAssign (eTup (lCons (eCall F_sentence_kind (lCons (eN "text") (lCons (eBin subF (eN "at") (eC (.int 1))) (lCons (eN "data") lNil)))) (lCons (eCall F_sentence_kind (lCons (eN "text") (lCons (eN "at") (lCons (eN "data") lNil)))) lNil))) (aRev ["last", "kind"])) (xCons (xIf (tCmp inF (eN "last") (eC V_SENTENCE_PARAS)) (xCons (xRet (eOr (eCmp neF (eN "last") (eC (.str "CR"))) (eCmp neF (eN "kind") (eC (.str "LF"))))) xNil) xNil) (xCons (xIf (tCmp inF (eN "kind") (eC V_SENTENCE_NEVER)) (xCons (xRet (eC (.bool false))) xNil) xNil) (xCons (xAssign (eCall F_sentence_kind (lCons (eN "text") (lCons (eCall F_sentence_base (lCons (eN "text") (lCons (eN "at") (lCons (eN "data") lNil)))) (lCons (eN "data") lNil)))) (aN "before")) (xCons (xIf (tOr (tCmp notInF (eN "before") (eC V_SENTENCE_ROW)) (tOr (tAnd (tCmp eqF (eN "kind") (eC (.str "Close"))) (tAnd (tCmp neF (eN "before") (eC (.str "Sp"))) tTrue)) (tOr (eT (eCall F_sentence_is_abbreviated (lCons (eN "text") (lCons (eN "at") (lCons (eN "data") lNil))))) tFalse))) (xCons (xRet (eC (.bool false))) xNil) xNil) (xCons (xAssign (eCall F_sentence_tail (lCons (eN "text") (lCons (eN "at") (lCons (eN "data") lNil)))) (aTup (aCons (aN "term") (aCons (aN "place") (aCons (aN "is_spaced") aNil))))) (xCons (xRet (eOr (eCmp eqF (eN "term") (eC (.str "STerm"))) (eAnd (eCmp eqF (eN "term") (eC (.str "ATerm"))) (eNot (eCall F_sentence_goes_on (lCons (eN "text") (lCons (eN "at") (lCons (eN "data") lNil)))))))) xNil))))))))
set_option maxHeartbeats 400000 in
theorem X_sentence_break {c : Cx} (C : c.Ok) (hK : c.K = hd.heap_1 c.w.params) : Fn c 8 (.ref 77) F_sentence_break := by
  refine Fn.plain (n := 7) C (by rw [hK]; rfl) (by rw [hK]; kernel_rfl) ?_ ?_ ?_ ?_
  · refine Exs.cons ?_ ?_
    refine Ex.ite ?_ ?_ ?_
    refine Tr.or ?_ ?_
    refine Tr.cmp eq_rule ?_ ?_
    exact Lo
    exact Ev.cint
    refine Tr.or ?_ ?_
    refine Tr.cmp eq_rule ?_ ?_
    exact Lo
    refine Ev.call C (G_len C hK (by decide +kernel)) .builtin len_cal ?_
    refine EvL.cons ?_ ?_
    exact Lo
    exact EvL.nil
    exact Tr.or0
    refine Exs.cons ?_ ?_
    refine Ex.ret ?_
    refine Ev.cmp gt_rule ?_ ?_
    refine Ev.call C (G_len C hK (by decide +kernel)) .builtin len_cal ?_
    refine EvL.cons ?_ ?_
    exact Lo
    exact EvL.nil
    exact Ev.cint
    exact Exs.nil
    exact Exs.nil
    refine Exs.cons ?_ ?_
    refine Ex.asw (xs := ["last", "kind"]) ?_ (by rfl) (by rfl) (by decide +kernel)
    refine Ev.tuple ?_
    refine EvL.cons ?_ ?_
    refine Ev.call C (G_sentence_kind C hK (by decide +kernel)) (.ofK (P_sentence_kind hK)) (Cal.ofFn ((X_sentence_kind C hK).weaken (by decide))) ?_
    refine EvL.cons ?_ ?_
    exact Lo
    refine EvL.cons ?_ ?_
    refine Ev.bin sub_rule ?_ ?_
    exact Lo
    exact Ev.cint
    refine EvL.cons ?_ ?_
    exact Lo
    exact EvL.nil
    refine EvL.cons ?_ ?_
    refine Ev.call C (G_sentence_kind C hK (by decide +kernel)) (.ofK (P_sentence_kind hK)) (Cal.ofFn ((X_sentence_kind C hK).weaken (by decide))) ?_
    refine EvL.cons ?_ ?_
    exact Lo
    refine EvL.cons ?_ ?_
    exact Lo
    refine EvL.cons ?_ ?_
    exact Lo
    exact EvL.nil
    exact EvL.nil
    refine Exs.cons ?_ ?_
    refine Ex.ite ?_ ?_ ?_
    refine Tr.cmp (in_rule C) ?_ ?_
    exact Lo
    exact G_SENTENCE_PARAS C hK (by decide +kernel)
    refine Exs.cons ?_ ?_
    refine Ex.ret ?_
    refine Ev.or ?_ ?_
    refine Ev.cmp ne_rule ?_ ?_
    exact Lo
    exact Ev.cstr
    refine Ev.one ?_
    refine Ev.cmp ne_rule ?_ ?_
    exact Lo
    exact Ev.cstr
    exact Exs.nil
    exact Exs.nil
    refine Exs.cons ?_ ?_
    refine Ex.ite ?_ ?_ ?_
    refine Tr.cmp (in_rule C) ?_ ?_
    exact Lo
    exact G_SENTENCE_NEVER C hK (by decide +kernel)
    refine Exs.cons ?_ ?_
    refine Ex.ret ?_
    exact Ev.cbool
    exact Exs.nil
    exact Exs.nil
    refine Exs.cons ?_ ?_
    refine Ex.asg ?_ ?_ (by rfl) (by rfl)
    refine Ev.call C (G_sentence_kind C hK (by decide +kernel)) (.ofK (P_sentence_kind hK)) (Cal.ofFn ((X_sentence_kind C hK).weaken (by decide))) ?_
    refine EvL.cons ?_ ?_
    exact Lo
    refine EvL.cons ?_ ?_
    refine Ev.call C (G_sentence_base C hK (by decide +kernel)) (.ofK (P_sentence_base hK)) (Cal.ofFn ((X_sentence_base C hK).weaken (by decide))) ?_
    refine EvL.cons ?_ ?_
    exact Lo
    refine EvL.cons ?_ ?_
    exact Lo
    refine EvL.cons ?_ ?_
    exact Lo
    exact EvL.nil
    refine EvL.cons ?_ ?_
    exact Lo
    exact EvL.nil
    exact An
    refine Exs.cons ?_ ?_
    refine Ex.ite ?_ ?_ ?_
    refine Tr.or ?_ ?_
    refine Tr.cmp (notIn_rule C) ?_ ?_
    exact Lo
    exact G_SENTENCE_ROW C hK (by decide +kernel)
    refine Tr.or ?_ ?_
    refine Tr.and ?_ ?_
    refine Tr.cmp eq_rule ?_ ?_
    exact Lo
    exact Ev.cstr
    refine Tr.and ?_ ?_
    refine Tr.cmp ne_rule ?_ ?_
    exact Lo
    exact Ev.cstr
    exact Tr.and0
    refine Tr.or ?_ ?_
    refine Tr.val ?_
    refine Ev.call C (G_sentence_is_abbreviated C hK (by decide +kernel)) (.ofK (P_sentence_is_abbreviated hK)) (Cal.ofFn ((X_sentence_is_abbreviated C hK).weaken (by decide))) ?_
    refine EvL.cons ?_ ?_
    exact Lo
    refine EvL.cons ?_ ?_
    exact Lo
    refine EvL.cons ?_ ?_
    exact Lo
    exact EvL.nil
    exact Tr.or0
    refine Exs.cons ?_ ?_
    refine Ex.ret ?_
    exact Ev.cbool
    exact Exs.nil
    exact Exs.nil
    refine Exs.cons ?_ ?_
    refine Ex.asg ?_ ?_ (by rfl) (by rfl)
    refine Ev.call C (G_sentence_tail C hK (by decide +kernel)) (.ofK (P_sentence_tail hK)) (Cal.ofFn ((X_sentence_tail C hK).weaken (by decide))) ?_
    refine EvL.cons ?_ ?_
    exact Lo
    refine EvL.cons ?_ ?_
    exact Lo
    refine EvL.cons ?_ ?_
    exact Lo
    exact EvL.nil
    refine As.tup ?_
    refine AsL.cons ?_ ?_
    exact An
    refine AsL.cons ?_ ?_
    exact An
    refine AsL.cons ?_ ?_
    exact An
    exact AsL.nil
    refine Exs.cons ?_ ?_
    refine Ex.ret ?_
    refine Ev.or ?_ ?_
    refine Ev.cmp eq_rule ?_ ?_
    exact Lo
    exact Ev.cstr
    refine Ev.one ?_
    refine Ev.and ?_ ?_
    refine Ev.cmp eq_rule ?_ ?_
    exact Lo
    exact Ev.cstr
    refine Ev.one ?_
    refine Ev.not ?_
    refine Ev.call C (G_sentence_goes_on C hK (by decide +kernel)) (.ofK (P_sentence_goes_on hK)) (Cal.ofFn ((X_sentence_goes_on C hK).weaken (by decide))) ?_
    refine EvL.cons ?_ ?_
    exact Lo
    refine EvL.cons ?_ ?_
    exact Lo
    refine EvL.cons ?_ ?_
    exact Lo
    exact EvL.nil
    exact Exs.nil
  · exact m3 fun _ _ _ => rfl
  · decide +kernel
  · decide +kernel
noncomputable def F_SentenceStream___init__ : FnF := fnF ["self", "data"] (xCons (xAssign (eN "data") (aAttr 127 "data" (eN "self"))) (xCons (xAssign (eC (.int 0)) (aAttr 127 "at" (eN "self"))) (xCons (xAssign (eC (.str "")) (aAttr 127 "last" (eN "self"))) (xCons (xAssign (eC (.str "")) (aAttr 127 "base" (eN "self"))) (xCons (xAssign (eC (.str "")) (aAttr 127 "prior" (eN "self"))) (xCons (xAssign (eC (.str "")) (aAttr 127 "term" (eN "self"))) (xCons (xAssign (eC (.bool false)) (aAttr 127 "is_spaced" (eN "self"))) (xCons (xAssign (eNeg (eC (.int 1))) (aAttr 127 "held" (eN "self"))) xNil))))))))
set_option maxHeartbeats 400000 in
theorem X_SentenceStream___init__ {c : Cx} (C : c.Ok) (hK : c.K = hd.heap_1 c.w.params) : Fn c 1 (.ref 91) F_SentenceStream___init__ := by
  refine Fn.plain (n := 0) C (by rw [hK]; rfl) (by rw [hK]; kernel_rfl) ?_ ?_ ?_ ?_
  · refine Exs.cons ?_ ?_
    refine Ex.asg ?_ ?_ (by rfl) (by rfl)
    exact Lo
    refine As.attr C (cls_SentenceStream hK) (A_SentenceStream_data hK) ?_
    exact Lo
    refine Exs.cons ?_ ?_
    refine Ex.asg ?_ ?_ (by rfl) (by rfl)
    exact Ev.cint
    refine As.attr C (cls_SentenceStream hK) (A_SentenceStream_at hK) ?_
    exact Lo
    refine Exs.cons ?_ ?_
    refine Ex.asg ?_ ?_ (by rfl) (by rfl)
    exact Ev.cstr
    refine As.attr C (cls_SentenceStream hK) (A_SentenceStream_last hK) ?_
    exact Lo
    refine Exs.cons ?_ ?_
    refine Ex.asg ?_ ?_ (by rfl) (by rfl)
    exact Ev.cstr
    refine As.attr C (cls_SentenceStream hK) (A_SentenceStream_base hK) ?_
    exact Lo
    refine Exs.cons ?_ ?_
    refine Ex.asg ?_ ?_ (by rfl) (by rfl)
    exact Ev.cstr
    refine As.attr C (cls_SentenceStream hK) (A_SentenceStream_prior hK) ?_
    exact Lo
    refine Exs.cons ?_ ?_
    refine Ex.asg ?_ ?_ (by rfl) (by rfl)
    exact Ev.cstr
    refine As.attr C (cls_SentenceStream hK) (A_SentenceStream_term hK) ?_
    exact Lo
    refine Exs.cons ?_ ?_
    refine Ex.asg ?_ ?_ (by rfl) (by rfl)
    exact Ev.cbool
    refine As.attr C (cls_SentenceStream hK) (A_SentenceStream_is_spaced hK) ?_
    exact Lo
    refine Exs.cons ?_ ?_
    refine Ex.asg ?_ ?_ (by rfl) (by rfl)
    refine Ev.neg ?_
    exact Ev.cint
    refine As.attr C (cls_SentenceStream hK) (A_SentenceStream_held hK) ?_
    exact Lo
    exact Exs.nil
  · exact m2 fun _ _ => rfl
  · decide +kernel
  · decide +kernel
theorem M_SentenceStream {c : Cx} (C : c.Ok) (hK : c.K = hd.heap_1 c.w.params) : Fn c 2 (.ref 127) (newF 127 F_SentenceStream___init__) := Fn.make C (cls_SentenceStream hK) (A_SentenceStream___init__ hK) (T_SentenceStream___init__ hK) (X_SentenceStream___init__ C hK)
noncomputable def F_SentenceStream_verdict : FnF := fnF ["self", "kind"] (xCons (xIf (tCmp eqF (eAttr 127 "at" (eN "self")) (eC (.int 0))) (xCons (xRet (eC (.str "break"))) xNil) xNil) (xCons (xIf (tCmp inF (eAttr 127 "last" (eN "self")) (eC V_SENTENCE_PARAS)) (xCons (xRet (eIf (tAnd (tCmp eqF (eAttr 127 "last" (eN "self")) (eC (.str "CR"))) (tAnd (tCmp eqF (eN "kind") (eC (.str "LF"))) tTrue)) (eC (.str "none")) (eC (.str "break")))) xNil) xNil) (xCons (xIf (tCmp inF (eN "kind") (eC V_SENTENCE_HANGERS)) (xCons (xRet (eC (.str "none"))) xNil) xNil) (xCons (xIf (tAnd (tCmp eqF (eAttr 127 "base" (eN "self")) (eC (.str "ATerm"))) (tAnd (tOr (tCmp eqF (eN "kind") (eC (.str "Numeric"))) (tOr (tAnd (tCmp eqF (eN "kind") (eC (.str "Upper"))) (tAnd (tCmp inF (eAttr 127 "prior" (eN "self")) (eC V_SENTENCE_CASED)) tTrue)) tFalse)) tTrue)) (xCons (xRet (eC (.str "none"))) xNil) xNil) (xCons (xIf (tOr (tCmp eqF (eAttr 127 "term" (eN "self")) (eC (.str ""))) (tOr (tCmp eqF (eN "kind") (eC (.str "SContinue"))) (tOr (tCmp inF (eN "kind") (eC V_SENTENCE_TERMS)) (tOr (tCmp eqF (eN "kind") (eC (.str "Sp"))) (tOr (tCmp inF (eN "kind") (eC V_SENTENCE_PARAS)) tFalse))))) (xCons (xRet (eC (.str "none"))) xNil) xNil) (xCons (xIf (tAnd (tCmp eqF (eN "kind") (eC (.str "Close"))) (tAnd (tNot (eT (eAttr 127 "is_spaced" (eN "self")))) tTrue)) (xCons (xRet (eC (.str "none"))) xNil) xNil) (xCons (xIf (tOr (tCmp eqF (eAttr 127 "term" (eN "self")) (eC (.str "STerm"))) (tOr (tCmp eqF (eN "kind") (eC (.str "OLetter"))) (tOr (tCmp eqF (eN "kind") (eC (.str "Upper"))) tFalse))) (xCons (xRet (eC (.str "break"))) xNil) xNil) (xCons (xRet (eIf (tCmp eqF (eN "kind") (eC (.str "Lower"))) (eC (.str "none")) (eC (.str "wait")))) xNil))))))))
set_option maxHeartbeats 400000 in
theorem X_SentenceStream_verdict {c : Cx} (C : c.Ok) (hK : c.K = hd.heap_1 c.w.params) : Fn c 1 (.ref 98) F_SentenceStream_verdict := by
  refine Fn.plain (n := 0) C (by rw [hK]; rfl) (by rw [hK]; kernel_rfl) ?_ ?_ ?_ ?_
  · refine Exs.cons ?_ ?_
    refine Ex.ite ?_ ?_ ?_
    refine Tr.cmp eq_rule ?_ ?_
    refine Ev.attr C (cls_SentenceStream hK) (A_SentenceStream_at hK) ?_
    exact Lo
    exact Ev.cint
    refine Exs.cons ?_ ?_
    refine Ex.ret ?_
    exact Ev.cstr
    exact Exs.nil
    exact Exs.nil
    refine Exs.cons ?_ ?_
    refine Ex.ite ?_ ?_ ?_
    refine Tr.cmp (in_rule C) ?_ ?_
    refine Ev.attr C (cls_SentenceStream hK) (A_SentenceStream_last hK) ?_
    exact Lo
    exact G_SENTENCE_PARAS C hK (by decide +kernel)
    refine Exs.cons ?_ ?_
    refine Ex.ret ?_
    refine Ev.ifExp ?_ ?_ ?_
    refine Tr.and ?_ ?_
    refine Tr.cmp eq_rule ?_ ?_
    refine Ev.attr C (cls_SentenceStream hK) (A_SentenceStream_last hK) ?_
    exact Lo
    exact Ev.cstr
    refine Tr.and ?_ ?_
    refine Tr.cmp eq_rule ?_ ?_
    exact Lo
    exact Ev.cstr
    exact Tr.and0
    exact Ev.cstr
    exact Ev.cstr
    exact Exs.nil
    exact Exs.nil
    refine Exs.cons ?_ ?_
    refine Ex.ite ?_ ?_ ?_
    refine Tr.cmp (in_rule C) ?_ ?_
    exact Lo
    exact G_SENTENCE_HANGERS C hK (by decide +kernel)
    refine Exs.cons ?_ ?_
    refine Ex.ret ?_
    exact Ev.cstr
    exact Exs.nil
    exact Exs.nil
    refine Exs.cons ?_ ?_
    refine Ex.ite ?_ ?_ ?_
    refine Tr.and ?_ ?_
    refine Tr.cmp eq_rule ?_ ?_
    refine Ev.attr C (cls_SentenceStream hK) (A_SentenceStream_base hK) ?_
    exact Lo
    exact Ev.cstr
    refine Tr.and ?_ ?_
    refine Tr.or ?_ ?_
    refine Tr.cmp eq_rule ?_ ?_
    exact Lo
    exact Ev.cstr
    refine Tr.or ?_ ?_
    refine Tr.and ?_ ?_
    refine Tr.cmp eq_rule ?_ ?_
    exact Lo
    exact Ev.cstr
    refine Tr.and ?_ ?_
    refine Tr.cmp (in_rule C) ?_ ?_
    refine Ev.attr C (cls_SentenceStream hK) (A_SentenceStream_prior hK) ?_
    exact Lo
    exact G_SENTENCE_CASED C hK (by decide +kernel)
    exact Tr.and0
    exact Tr.or0
    exact Tr.and0
    refine Exs.cons ?_ ?_
    refine Ex.ret ?_
    exact Ev.cstr
    exact Exs.nil
    exact Exs.nil
    refine Exs.cons ?_ ?_
    refine Ex.ite ?_ ?_ ?_
    refine Tr.or ?_ ?_
    refine Tr.cmp eq_rule ?_ ?_
    refine Ev.attr C (cls_SentenceStream hK) (A_SentenceStream_term hK) ?_
    exact Lo
    exact Ev.cstr
    refine Tr.or ?_ ?_
    refine Tr.cmp eq_rule ?_ ?_
    exact Lo
    exact Ev.cstr
    refine Tr.or ?_ ?_
    refine Tr.cmp (in_rule C) ?_ ?_
    exact Lo
    exact G_SENTENCE_TERMS C hK (by decide +kernel)
    refine Tr.or ?_ ?_
    refine Tr.cmp eq_rule ?_ ?_
    exact Lo
    exact Ev.cstr
    refine Tr.or ?_ ?_
    refine Tr.cmp (in_rule C) ?_ ?_
    exact Lo
    exact G_SENTENCE_PARAS C hK (by decide +kernel)
    exact Tr.or0
    refine Exs.cons ?_ ?_
    refine Ex.ret ?_
    exact Ev.cstr
    exact Exs.nil
    exact Exs.nil
    refine Exs.cons ?_ ?_
    refine Ex.ite ?_ ?_ ?_
    refine Tr.and ?_ ?_
    refine Tr.cmp eq_rule ?_ ?_
    exact Lo
    exact Ev.cstr
    refine Tr.and ?_ ?_
    refine Tr.not ?_
    refine Tr.val ?_
    refine Ev.attr C (cls_SentenceStream hK) (A_SentenceStream_is_spaced hK) ?_
    exact Lo
    exact Tr.and0
    refine Exs.cons ?_ ?_
    refine Ex.ret ?_
    exact Ev.cstr
    exact Exs.nil
    exact Exs.nil
    refine Exs.cons ?_ ?_
    refine Ex.ite ?_ ?_ ?_
    refine Tr.or ?_ ?_
    refine Tr.cmp eq_rule ?_ ?_
    refine Ev.attr C (cls_SentenceStream hK) (A_SentenceStream_term hK) ?_
    exact Lo
    exact Ev.cstr
    refine Tr.or ?_ ?_
    refine Tr.cmp eq_rule ?_ ?_
    exact Lo
    exact Ev.cstr
    refine Tr.or ?_ ?_
    refine Tr.cmp eq_rule ?_ ?_
    exact Lo
    exact Ev.cstr
    exact Tr.or0
    refine Exs.cons ?_ ?_
    refine Ex.ret ?_
    exact Ev.cstr
    exact Exs.nil
    exact Exs.nil
    refine Exs.cons ?_ ?_
    refine Ex.ret ?_
    refine Ev.ifExp ?_ ?_ ?_
    refine Tr.cmp eq_rule ?_ ?_
    exact Lo
    exact Ev.cstr
    exact Ev.cstr
    exact Ev.cstr
    exact Exs.nil
  · exact m2 fun _ _ => rfl
  · decide +kernel
  · decide +kernel
noncomputable def F_SentenceStream_settled : FnF := fnF ["self", "is_break"] (xCons (xAssign (eLst lNil) (aN "found")) (xCons (xIf (tCmp geF (eAttr 127 "held" (eN "self")) (eC (.int 0))) (xCons (xExpr (eMethL appendF (eN "found") (lCons (eTup (lCons (eAttr 127 "held" (eN "self")) (lCons (eN "is_break") lNil))) lNil))) (xCons (xExpr (eMethL extendF (eN "found") (lCons (eComp (eCall rangeF (lCons (eBin addF (eAttr 127 "held" (eN "self")) (eC (.int 1))) (lCons (eAttr 127 "at" (eN "self")) lNil))) [] (aN "place") tTrue (eTup (lCons (eN "place") (lCons (eC (.bool false)) lNil))) FU) lNil))) (xCons (xAssign (eNeg (eC (.int 1))) (aAttr 127 "held" (eN "self"))) xNil))) xNil) (xCons (xRet (eN "found")) xNil)))
set_option maxHeartbeats 400000 in
theorem X_SentenceStream_settled {c : Cx} (C : c.Ok) (hK : c.K = hd.heap_1 c.w.params) : Fn c 1 (.ref 103) F_SentenceStream_settled := by
  refine Fn.plain (n := 0) C (by rw [hK]; rfl) (by rw [hK]; kernel_rfl) ?_ ?_ ?_ ?_
  · refine Exs.cons ?_ ?_
    refine Ex.asg ?_ ?_ (by rfl) (by rfl)
    refine Ev.list ?_
    exact EvL.nil
    exact An
    refine Exs.cons ?_ ?_
    refine Ex.ite ?_ ?_ ?_
    refine Tr.cmp ge_rule ?_ ?_
    refine Ev.attr C (cls_SentenceStream hK) (A_SentenceStream_held hK) ?_
    exact Lo
    exact Ev.cint
    refine Exs.cons ?_ ?_
    refine Ex.expr ?_
    refine Ev.methL C append_meth ?_ ?_ (pl := _) (by intro _; rfl)
    exact Lo
    refine EvL.cons ?_ ?_
    refine Ev.tuple ?_
    refine EvL.cons ?_ ?_
    refine Ev.attr C (cls_SentenceStream hK) (A_SentenceStream_held hK) ?_
    exact Lo
    refine EvL.cons ?_ ?_
    exact Lo
    exact EvL.nil
    exact EvL.nil
    refine Exs.cons ?_ ?_
    refine Ex.expr ?_
    refine Ev.methL C extend_meth ?_ ?_ (pl := _) (by intro _; rfl)
    exact Lo
    refine EvL.cons ?_ ?_
    refine Ev.comp [] FU ⟨by decide +kernel, by rfl, by decide +kernel, by decide +kernel, by decide +kernel⟩ ?_ ?_ ?_ ?_
    refine Ev.call C (G_range C hK (by decide +kernel)) .type range_cal ?_
    refine EvL.cons ?_ ?_
    refine Ev.bin add_rule ?_ ?_
    refine Ev.attr C (cls_SentenceStream hK) (A_SentenceStream_held hK) ?_
    exact Lo
    exact Ev.cint
    refine EvL.cons ?_ ?_
    refine Ev.attr C (cls_SentenceStream hK) (A_SentenceStream_at hK) ?_
    exact Lo
    exact EvL.nil
    exact AsC.name (by decide +kernel)
    exact Te.nil
    refine Ev.tuple ?_
    refine EvL.cons ?_ ?_
    exact Lo
    refine EvL.consC ?_ ?_
    exact Ev.cbool
    exact EvL.nil
    exact EvL.nil
    refine Exs.cons ?_ ?_
    refine Ex.asg ?_ ?_ (by rfl) (by rfl)
    refine Ev.neg ?_
    exact Ev.cint
    refine As.attr C (cls_SentenceStream hK) (A_SentenceStream_held hK) ?_
    exact Lo
    exact Exs.nil
    exact Exs.nil
    refine Exs.cons ?_ ?_
    refine Ex.ret ?_
    exact Lo
    exact Exs.nil
  · exact m2 fun _ _ => rfl
  · decide +kernel
  · decide +kernel
noncomputable def F_SentenceStream_take : FnF := fnF ["self", "kind"] (xCons (xIf (tAnd (tCmp inF (eN "kind") (eC V_SENTENCE_HANGERS)) (tAnd (tCmp gtF (eAttr 127 "at" (eN "self")) (eC (.int 0))) (tAnd (tCmp notInF (eAttr 127 "last" (eN "self")) (eC V_SENTENCE_PARAS)) tTrue))) (xCons (xAssign (eN "kind") (aAttr 127 "last" (eN "self"))) (xCons (xAssign (eBin addF (eAttr 127 "at" (eN "self")) (eC (.int 1))) (aAttr 127 "at" (eN "self"))) (xCons xRet0 xNil))) xNil) (xCons (xIf (tCmp inF (eN "kind") (eC V_SENTENCE_TERMS)) (xCons (xAssign (eTup (lCons (eN "kind") (lCons (eC (.bool false)) lNil))) (aTup (aCons (aAttr 127 "term" (eN "self")) (aCons (aAttr 127 "is_spaced" (eN "self")) aNil)))) xNil) (xCons (xIf (tAnd (tCmp eqF (eN "kind") (eC (.str "Sp"))) (tAnd (tCmp neF (eAttr 127 "term" (eN "self")) (eC (.str ""))) tTrue)) (xCons (xAssign (eC (.bool true)) (aAttr 127 "is_spaced" (eN "self"))) xNil) (xCons (xIf (tOr (tCmp neF (eN "kind") (eC (.str "Close"))) (tOr (eT (eAttr 127 "is_spaced" (eN "self"))) tFalse)) (xCons (xAssign (eTup (lCons (eC (.str "")) (lCons (eC (.bool false)) lNil))) (aTup (aCons (aAttr 127 "term" (eN "self")) (aCons (aAttr 127 "is_spaced" (eN "self")) aNil)))) xNil) xNil) xNil)) xNil)) (xCons (xAssign (eTup (lCons (eAttr 127 "base" (eN "self")) (lCons (eN "kind") (lCons (eN "kind") lNil)))) (aTup (aCons (aAttr 127 "prior" (eN "self")) (aCons (aAttr 127 "base" (eN "self")) (aCons (aAttr 127 "last" (eN "self")) aNil))))) (xCons (xAssign (eBin addF (eAttr 127 "at" (eN "self")) (eC (.int 1))) (aAttr 127 "at" (eN "self"))) xNil))))
set_option maxHeartbeats 400000 in
theorem X_SentenceStream_take {c : Cx} (C : c.Ok) (hK : c.K = hd.heap_1 c.w.params) : Fn c 1 (.ref 110) F_SentenceStream_take := by
  refine Fn.plain (n := 0) C (by rw [hK]; rfl) (by rw [hK]; kernel_rfl) ?_ ?_ ?_ ?_
  · refine Exs.cons ?_ ?_
    refine Ex.ite ?_ ?_ ?_
    refine Tr.and ?_ ?_
    refine Tr.cmp (in_rule C) ?_ ?_
    exact Lo
    exact G_SENTENCE_HANGERS C hK (by decide +kernel)
    refine Tr.and ?_ ?_
    refine Tr.cmp gt_rule ?_ ?_
    refine Ev.attr C (cls_SentenceStream hK) (A_SentenceStream_at hK) ?_
    exact Lo
    exact Ev.cint
    refine Tr.and ?_ ?_
    refine Tr.cmp (notIn_rule C) ?_ ?_
    refine Ev.attr C (cls_SentenceStream hK) (A_SentenceStream_last hK) ?_
    exact Lo
    exact G_SENTENCE_PARAS C hK (by decide +kernel)
    exact Tr.and0
    refine Exs.cons ?_ ?_
    refine Ex.asg ?_ ?_ (by rfl) (by rfl)
    exact Lo
    refine As.attr C (cls_SentenceStream hK) (A_SentenceStream_last hK) ?_
    exact Lo
    refine Exs.cons ?_ ?_
    refine Ex.asg ?_ ?_ (by rfl) (by rfl)
    refine Ev.bin add_rule ?_ ?_
    refine Ev.attr C (cls_SentenceStream hK) (A_SentenceStream_at hK) ?_
    exact Lo
    exact Ev.cint
    refine As.attr C (cls_SentenceStream hK) (A_SentenceStream_at hK) ?_
    exact Lo
    refine Exs.cons ?_ ?_
    exact Ex.ret0
    exact Exs.nil
    exact Exs.nil
    refine Exs.cons ?_ ?_
    refine Ex.ite ?_ ?_ ?_
    refine Tr.cmp (in_rule C) ?_ ?_
    exact Lo
    exact G_SENTENCE_TERMS C hK (by decide +kernel)
    refine Exs.cons ?_ ?_
    refine Ex.asg ?_ ?_ (by rfl) (by rfl)
    refine Ev.tuple ?_
    refine EvL.cons ?_ ?_
    exact Lo
    refine EvL.consC ?_ ?_
    exact Ev.cbool
    exact EvL.nil
    refine As.tup ?_
    refine AsL.cons ?_ ?_
    refine As.attr C (cls_SentenceStream hK) (A_SentenceStream_term hK) ?_
    exact Lo
    refine AsL.cons ?_ ?_
    refine As.attr C (cls_SentenceStream hK) (A_SentenceStream_is_spaced hK) ?_
    exact Lo
    exact AsL.nil
    exact Exs.nil
    refine Exs.cons ?_ ?_
    refine Ex.ite ?_ ?_ ?_
    refine Tr.and ?_ ?_
    refine Tr.cmp eq_rule ?_ ?_
    exact Lo
    exact Ev.cstr
    refine Tr.and ?_ ?_
    refine Tr.cmp ne_rule ?_ ?_
    refine Ev.attr C (cls_SentenceStream hK) (A_SentenceStream_term hK) ?_
    exact Lo
    exact Ev.cstr
    exact Tr.and0
    refine Exs.cons ?_ ?_
    refine Ex.asg ?_ ?_ (by rfl) (by rfl)
    exact Ev.cbool
    refine As.attr C (cls_SentenceStream hK) (A_SentenceStream_is_spaced hK) ?_
    exact Lo
    exact Exs.nil
    refine Exs.cons ?_ ?_
    refine Ex.ite ?_ ?_ ?_
    refine Tr.or ?_ ?_
    refine Tr.cmp ne_rule ?_ ?_
    exact Lo
    exact Ev.cstr
    refine Tr.or ?_ ?_
    refine Tr.val ?_
    refine Ev.attr C (cls_SentenceStream hK) (A_SentenceStream_is_spaced hK) ?_
    exact Lo
    exact Tr.or0
    refine Exs.cons ?_ ?_
    refine Ex.asg ?_ ?_ (by rfl) (by rfl)
    refine Ev.tuple ?_
    refine EvL.consC ?_ ?_
    exact Ev.cstr
    refine EvL.consC ?_ ?_
    exact Ev.cbool
    exact EvL.nil
    refine As.tup ?_
    refine AsL.cons ?_ ?_
    refine As.attr C (cls_SentenceStream hK) (A_SentenceStream_term hK) ?_
    exact Lo
    refine AsL.cons ?_ ?_
    refine As.attr C (cls_SentenceStream hK) (A_SentenceStream_is_spaced hK) ?_
    exact Lo
    exact AsL.nil
    exact Exs.nil
    exact Exs.nil
    exact Exs.nil
    exact Exs.nil
    refine Exs.cons ?_ ?_
    refine Ex.asg ?_ ?_ (by rfl) (by rfl)
    refine Ev.tuple ?_
    refine EvL.cons ?_ ?_
    refine Ev.attr C (cls_SentenceStream hK) (A_SentenceStream_base hK) ?_
    exact Lo
    refine EvL.cons ?_ ?_
    exact Lo
    refine EvL.cons ?_ ?_
    exact Lo
    exact EvL.nil
    refine As.tup ?_
    refine AsL.cons ?_ ?_
    refine As.attr C (cls_SentenceStream hK) (A_SentenceStream_prior hK) ?_
    exact Lo
    refine AsL.cons ?_ ?_
    refine As.attr C (cls_SentenceStream hK) (A_SentenceStream_base hK) ?_
    exact Lo
    refine AsL.cons ?_ ?_
    refine As.attr C (cls_SentenceStream hK) (A_SentenceStream_last hK) ?_
    exact Lo
    exact AsL.nil
    refine Exs.cons ?_ ?_
    refine Ex.asg ?_ ?_ (by rfl) (by rfl)
    refine Ev.bin add_rule ?_ ?_
    refine Ev.attr C (cls_SentenceStream hK) (A_SentenceStream_at hK) ?_
    exact Lo
    exact Ev.cint
    refine As.attr C (cls_SentenceStream hK) (A_SentenceStream_at hK) ?_
    exact Lo
    exact Exs.nil
  · exact m2 fun _ _ => rfl
  · decide +kernel
  · decide +kernel
noncomputable def F_SentenceStream_put : FnF := fnF ["self", "code"] (xCons (xAssign (eMeth 273 "get" F_Data_get (eAttr 127 "data" (eN "self")) (lCons (eC (.str "sb")) (lCons (eN "code") lNil))) (aN "kind")) (xCons (xAssign (eLst lNil) (aN "found")) (xCons (xIf (tAnd (tCmp geF (eAttr 127 "held" (eN "self")) (eC (.int 0))) (tAnd (tCmp inF (eN "kind") (eC V_SENTENCE_STOPS)) tTrue)) (xCons (xAssign (eMeth 127 "settled" F_SentenceStream_settled (eN "self") (lCons (eCmp neF (eN "kind") (eC (.str "Lower"))) lNil)) (aN "found")) xNil) xNil) (xCons (xIf (tCmp ltF (eAttr 127 "held" (eN "self")) (eC (.int 0))) (xCons (xAssign (eMeth 127 "verdict" F_SentenceStream_verdict (eN "self") (lCons (eN "kind") lNil)) (aN "word")) (xCons (xIf (tCmp eqF (eN "word") (eC (.str "wait"))) (xCons (xAssign (eAttr 127 "at" (eN "self")) (aAttr 127 "held" (eN "self"))) xNil) (xCons (xExpr (eMethL appendF (eN "found") (lCons (eTup (lCons (eAttr 127 "at" (eN "self")) (lCons (eCmp eqF (eN "word") (eC (.str "break"))) lNil))) lNil))) xNil)) xNil)) xNil) (xCons (xExpr (eMeth 127 "take" F_SentenceStream_take (eN "self") (lCons (eN "kind") lNil))) (xCons (xRet (eN "found")) xNil))))))
set_option maxHeartbeats 400000 in
theorem X_SentenceStream_put {c : Cx} (C : c.Ok) (hK : c.K = hd.heap_1 c.w.params) : Fn c 4 (.ref 117) F_SentenceStream_put := by
  refine Fn.plain (n := 3) C (by rw [hK]; rfl) (by rw [hK]; kernel_rfl) ?_ ?_ ?_ ?_
  · refine Exs.cons ?_ ?_
    refine Ex.asg ?_ ?_ (by rfl) (by rfl)
    refine Ev.meth C (cls_Data hK) (A_Data_get hK) (T_Data_get hK) (P_Data_get hK) (Cal.ofFn ((X_Data_get C hK).weaken (by decide))) ?_ ?_ (pl := _) (by intro _; rfl)
    refine Ev.attr C (cls_SentenceStream hK) (A_SentenceStream_data hK) ?_
    exact Lo
    refine EvL.consC ?_ ?_
    exact Ev.cstr
    refine EvL.cons ?_ ?_
    exact Lo
    exact EvL.nil
    exact An
    refine Exs.cons ?_ ?_
    refine Ex.asg ?_ ?_ (by rfl) (by rfl)
    refine Ev.list ?_
    exact EvL.nil
    exact An
    refine Exs.cons ?_ ?_
    refine Ex.ite ?_ ?_ ?_
    refine Tr.and ?_ ?_
    refine Tr.cmp ge_rule ?_ ?_
    refine Ev.attr C (cls_SentenceStream hK) (A_SentenceStream_held hK) ?_
    exact Lo
    exact Ev.cint
    refine Tr.and ?_ ?_
    refine Tr.cmp (in_rule C) ?_ ?_
    exact Lo
    exact G_SENTENCE_STOPS C hK (by decide +kernel)
    exact Tr.and0
    refine Exs.cons ?_ ?_
    refine Ex.asg ?_ ?_ (by rfl) (by rfl)
    refine Ev.meth C (cls_SentenceStream hK) (A_SentenceStream_settled hK) (T_SentenceStream_settled hK) (P_SentenceStream_settled hK) (Cal.ofFn ((X_SentenceStream_settled C hK).weaken (by decide))) ?_ ?_ (pl := _) (by intro _; rfl)
    exact Lo
    refine EvL.cons ?_ ?_
    refine Ev.cmp ne_rule ?_ ?_
    exact Lo
    exact Ev.cstr
    exact EvL.nil
    exact An
    exact Exs.nil
    exact Exs.nil
    refine Exs.cons ?_ ?_
    refine Ex.ite ?_ ?_ ?_
    refine Tr.cmp lt_rule ?_ ?_
    refine Ev.attr C (cls_SentenceStream hK) (A_SentenceStream_held hK) ?_
    exact Lo
    exact Ev.cint
    refine Exs.cons ?_ ?_
    refine Ex.asg ?_ ?_ (by rfl) (by rfl)
    refine Ev.meth C (cls_SentenceStream hK) (A_SentenceStream_verdict hK) (T_SentenceStream_verdict hK) (P_SentenceStream_verdict hK) (Cal.ofFn ((X_SentenceStream_verdict C hK).weaken (by decide))) ?_ ?_ (pl := _) (by intro _; rfl)
    exact Lo
    refine EvL.cons ?_ ?_
    exact Lo
    exact EvL.nil
    exact An
    refine Exs.cons ?_ ?_
    refine Ex.ite ?_ ?_ ?_
    refine Tr.cmp eq_rule ?_ ?_
    exact Lo
    exact Ev.cstr
    refine Exs.cons ?_ ?_
    refine Ex.asg ?_ ?_ (by rfl) (by rfl)
    refine Ev.attr C (cls_SentenceStream hK) (A_SentenceStream_at hK) ?_
    exact Lo
    refine As.attr C (cls_SentenceStream hK) (A_SentenceStream_held hK) ?_
    exact Lo
    exact Exs.nil
    refine Exs.cons ?_ ?_
    refine Ex.expr ?_
    refine Ev.methL C append_meth ?_ ?_ (pl := _) (by intro _; rfl)
    exact Lo
    refine EvL.cons ?_ ?_
    refine Ev.tuple ?_
    refine EvL.cons ?_ ?_
    refine Ev.attr C (cls_SentenceStream hK) (A_SentenceStream_at hK) ?_
    exact Lo
    refine EvL.cons ?_ ?_
    refine Ev.cmp eq_rule ?_ ?_
    exact Lo
    exact Ev.cstr
    exact EvL.nil
    exact EvL.nil
    exact Exs.nil
    exact Exs.nil
    exact Exs.nil
    refine Exs.cons ?_ ?_
    refine Ex.expr ?_
    refine Ev.meth C (cls_SentenceStream hK) (A_SentenceStream_take hK) (T_SentenceStream_take hK) (P_SentenceStream_take hK) (Cal.ofFn ((X_SentenceStream_take C hK).weaken (by decide))) ?_ ?_ (pl := _) (by intro _; rfl)
    exact Lo
    refine EvL.cons ?_ ?_
    exact Lo
    exact EvL.nil
    refine Exs.cons ?_ ?_
    refine Ex.ret ?_
    exact Lo
    exact Exs.nil
  · exact m2 fun _ _ => rfl
  · decide +kernel
  · decide +kernel
noncomputable def F_SentenceStream_finish : FnF := fnF ["self"] (xCons (xAssign (eMeth 127 "settled" F_SentenceStream_settled (eN "self") (lCons (eC (.bool true)) lNil)) (aN "found")) (xCons (xIf (tCmp gtF (eAttr 127 "at" (eN "self")) (eC (.int 0))) (xCons (xExpr (eMethL appendF (eN "found") (lCons (eTup (lCons (eAttr 127 "at" (eN "self")) (lCons (eC (.bool true)) lNil))) lNil))) xNil) xNil) (xCons (xRet (eN "found")) xNil)))
set_option maxHeartbeats 400000 in
theorem X_SentenceStream_finish {c : Cx} (C : c.Ok) (hK : c.K = hd.heap_1 c.w.params) : Fn c 2 (.ref 124) F_SentenceStream_finish := by
  refine Fn.plain (n := 1) C (by rw [hK]; rfl) (by rw [hK]; kernel_rfl) ?_ ?_ ?_ ?_
  · refine Exs.cons ?_ ?_
    refine Ex.asg ?_ ?_ (by rfl) (by rfl)
    refine Ev.meth C (cls_SentenceStream hK) (A_SentenceStream_settled hK) (T_SentenceStream_settled hK) (P_SentenceStream_settled hK) (Cal.ofFn ((X_SentenceStream_settled C hK).weaken (by decide))) ?_ ?_ (pl := _) (by intro _; rfl)
    exact Lo
    refine EvL.consC ?_ ?_
    exact Ev.cbool
    exact EvL.nil
    exact An
    refine Exs.cons ?_ ?_
    refine Ex.ite ?_ ?_ ?_
    refine Tr.cmp gt_rule ?_ ?_
    refine Ev.attr C (cls_SentenceStream hK) (A_SentenceStream_at hK) ?_
    exact Lo
    exact Ev.cint
    refine Exs.cons ?_ ?_
    refine Ex.expr ?_
    refine Ev.methL C append_meth ?_ ?_ (pl := _) (by intro _; rfl)
    exact Lo
    refine EvL.cons ?_ ?_
    refine Ev.tuple ?_
    refine EvL.cons ?_ ?_
    refine Ev.attr C (cls_SentenceStream hK) (A_SentenceStream_at hK) ?_
    exact Lo
    refine EvL.consC ?_ ?_
    exact Ev.cbool
    exact EvL.nil
    exact EvL.nil
    exact Exs.nil
    exact Exs.nil
    refine Exs.cons ?_ ?_
    refine Ex.ret ?_
    exact Lo
    exact Exs.nil
  · exact m1 fun _ => rfl
  · decide +kernel
  · decide +kernel
noncomputable def F_sentence_places : FnF := fnF ["text", "data"] (xCons (xAssign (eCall (newF 127 F_SentenceStream___init__) (lCons (eN "data") lNil)) (aN "stream")) (xCons (xAssign (eLst lNil) (aN "told")) (xCons (xFor (eN "text") (aN "code") (xCons (xExpr (eMethL extendF (eN "told") (lCons (eMeth 127 "put" F_SentenceStream_put (eN "stream") (lCons (eN "code") lNil)) lNil))) xNil) FU) (xCons (xExpr (eMethL extendF (eN "told") (lCons (eMeth 127 "finish" F_SentenceStream_finish (eN "stream") lNil) lNil))) (xCons (xRet (eComp (eN "told") [] (aTwo "place" "is_break") (eT (eN "is_break")) (eN "place") FU)) xNil)))))
set_option maxHeartbeats 400000 in
theorem X_sentence_places {c : Cx} (C : c.Ok) (hK : c.K = hd.heap_1 c.w.params) : Fn c 5 (.ref 136) F_sentence_places := by
  refine Fn.plain (n := 4) C (by rw [hK]; rfl) (by rw [hK]; kernel_rfl) ?_ ?_ ?_ ?_
  · refine Exs.cons ?_ ?_
    refine Ex.asg ?_ ?_ (by rfl) (by rfl)
    refine Ev.call C (G_SentenceStream C hK (by decide +kernel)) (.ofK (P_SentenceStream hK)) (Cal.ofFn ((M_SentenceStream C hK).weaken (by decide))) ?_
    refine EvL.cons ?_ ?_
    exact Lo
    exact EvL.nil
    exact An
    refine Exs.cons ?_ ?_
    refine Ex.asg ?_ ?_ (by rfl) (by rfl)
    refine Ev.list ?_
    exact EvL.nil
    exact An
    refine Exs.cons ?_ ?_
    refine Ex.for FU ?_ ?_ ?_
    exact Lo
    exact An
    refine Exs.cons ?_ ?_
    refine Ex.expr ?_
    refine Ev.methL C extend_meth ?_ ?_ (pl := _) (by intro _; rfl)
    exact Lo
    refine EvL.cons ?_ ?_
    refine Ev.meth C (cls_SentenceStream hK) (A_SentenceStream_put hK) (T_SentenceStream_put hK) (P_SentenceStream_put hK) (Cal.ofFn ((X_SentenceStream_put C hK).weaken (by decide))) ?_ ?_ (pl := _) (by intro _; rfl)
    exact Lo
    refine EvL.cons ?_ ?_
    exact Lo
    exact EvL.nil
    exact EvL.nil
    exact Exs.nil
    refine Exs.cons ?_ ?_
    refine Ex.expr ?_
    refine Ev.methL C extend_meth ?_ ?_ (pl := _) (by intro _; rfl)
    exact Lo
    refine EvL.cons ?_ ?_
    refine Ev.meth C (cls_SentenceStream hK) (A_SentenceStream_finish hK) (T_SentenceStream_finish hK) (P_SentenceStream_finish hK) (Cal.ofFn ((X_SentenceStream_finish C hK).weaken (by decide))) ?_ ?_ (pl := _) (by intro _; rfl)
    exact Lo
    exact EvL.nil
    exact EvL.nil
    refine Exs.cons ?_ ?_
    refine Ex.ret ?_
    refine Ev.comp [] FU ⟨by decide +kernel, by rfl, by decide +kernel, by decide +kernel, by decide +kernel⟩ ?_ ?_ ?_ ?_
    exact Lo
    exact AsC.two (by decide +kernel) (by decide +kernel)
    refine Te.one ?_
    refine Tr.val ?_
    exact Lo
    exact Lo
    exact Exs.nil
  · exact m2 fun _ _ => rfl
  · decide +kernel
  · decide +kernel
noncomputable def F_sentences : FnF := fnF ["text", "data"] (xCons (xAssign (eCall F_sentence_places (lCons (eN "text") (lCons (eN "data") lNil))) (aN "places")) (xCons (xRet (eComp (eCall rangeF (lCons (eBin subF (eCall lenF (lCons (eN "places") lNil)) (eC (.int 1))) lNil)) ["places"] (aN "k") tTrue (eTup (lCons (eSub (eN "places") (eN "k")) (lCons (eSub (eN "places") (eBin addF (eN "k") (eC (.int 1)))) lNil))) FU)) xNil))
set_option maxHeartbeats 400000 in
theorem X_sentences {c : Cx} (C : c.Ok) (hK : c.K = hd.heap_1 c.w.params) : Fn c 6 (.ref 141) F_sentences := by
  refine Fn.cells (n := 5) C (by rw [hK]; rfl) (by rw [hK]; kernel_rfl) ?_ ?_ ?_
  · refine Exs.cons ?_ ?_
    refine Ex.asg ?_ ?_ (by rfl) (by rfl)
    refine Ev.call C (G_sentence_places C hK (by decide +kernel)) (.ofK (P_sentence_places hK)) (Cal.ofFn ((X_sentence_places C hK).weaken (by decide))) ?_
    refine EvL.cons ?_ ?_
    exact Lo
    refine EvL.cons ?_ ?_
    exact Lo
    exact EvL.nil
    exact As.name (.inr (by decide +kernel))
    refine Exs.cons ?_ ?_
    refine Ex.ret ?_
    refine Ev.comp ["places"] FU ⟨by decide +kernel, by rfl, by decide +kernel, by decide +kernel, by decide +kernel⟩ ?_ ?_ ?_ ?_
    refine Ev.call C (G_range C hK (by decide +kernel)) .type range_cal ?_
    refine EvL.cons ?_ ?_
    refine Ev.bin sub_rule ?_ ?_
    refine Ev.call C (G_len C hK (by decide +kernel)) .builtin len_cal ?_
    refine EvL.cons ?_ ?_
    exact Ev.cell (by decide +kernel)
    exact EvL.nil
    exact Ev.cint
    exact EvL.nil
    exact AsC.name (by decide +kernel)
    exact Te.nil
    refine Ev.tuple ?_
    refine EvL.cons ?_ ?_
    refine Ev.sub C ?_ ?_
    exact Ev.cell (by decide +kernel)
    exact Lo
    refine EvL.cons ?_ ?_
    refine Ev.sub C ?_ ?_
    exact Ev.cell (by decide +kernel)
    refine Ev.bin add_rule ?_ ?_
    exact Lo
    exact Ev.cint
    exact EvL.nil
    exact Exs.nil
  · exact m2 fun _ _ => rfl
  · decide +kernel
noncomputable def F_sentence_safe : FnF := fnF ["text", "at", "data"] (xCons (whileF (tCmp gtF (eN "at") (eC (.int 0))) (xCons (xAssign (eCall F_sentence_kind (lCons (eN "text") (lCons (eBin subF (eN "at") (eC (.int 1))) (lCons (eN "data") lNil)))) (aN "last")) (xCons (xIf (tAnd (tCmp inF (eN "last") (eC V_SENTENCE_PARAS)) (tAnd (tOr (tCmp neF (eN "last") (eC (.str "CR"))) (tOr (tCmp neF (eCall F_sentence_kind (lCons (eN "text") (lCons (eN "at") (lCons (eN "data") lNil)))) (eC (.str "LF"))) tFalse)) tTrue)) (xCons (xRet (eN "at")) xNil) xNil) (xCons (xAssign (eBin subF (eN "at") (eC (.int 1))) (aN "at")) xNil))) FU) (xCons (xRet (eC (.int 0))) xNil))
set_option maxHeartbeats 400000 in
theorem X_sentence_safe {c : Cx} (C : c.Ok) (hK : c.K = hd.heap_1 c.w.params) : Fn c 5 (.ref 148) F_sentence_safe := by
  refine Fn.plain (n := 4) C (by rw [hK]; rfl) (by rw [hK]; kernel_rfl) ?_ ?_ ?_ ?_
  · refine Exs.cons ?_ ?_
    refine Ex.while (k := FU) ?_ ?_
    refine Tr.cmp gt_rule ?_ ?_
    exact Lo
    exact Ev.cint
    refine Exs.cons ?_ ?_
    refine Ex.asg ?_ ?_ (by rfl) (by rfl)
    refine Ev.call C (G_sentence_kind C hK (by decide +kernel)) (.ofK (P_sentence_kind hK)) (Cal.ofFn ((X_sentence_kind C hK).weaken (by decide))) ?_
    refine EvL.cons ?_ ?_
    exact Lo
    refine EvL.cons ?_ ?_
    refine Ev.bin sub_rule ?_ ?_
    exact Lo
    exact Ev.cint
    refine EvL.cons ?_ ?_
    exact Lo
    exact EvL.nil
    exact An
    refine Exs.cons ?_ ?_
    refine Ex.ite ?_ ?_ ?_
    refine Tr.and ?_ ?_
    refine Tr.cmp (in_rule C) ?_ ?_
    exact Lo
    exact G_SENTENCE_PARAS C hK (by decide +kernel)
    refine Tr.and ?_ ?_
    refine Tr.or ?_ ?_
    refine Tr.cmp ne_rule ?_ ?_
    exact Lo
    exact Ev.cstr
    refine Tr.or ?_ ?_
    refine Tr.cmp ne_rule ?_ ?_
    refine Ev.call C (G_sentence_kind C hK (by decide +kernel)) (.ofK (P_sentence_kind hK)) (Cal.ofFn ((X_sentence_kind C hK).weaken (by decide))) ?_
    refine EvL.cons ?_ ?_
    exact Lo
    refine EvL.cons ?_ ?_
    exact Lo
    refine EvL.cons ?_ ?_
    exact Lo
    exact EvL.nil
    exact Ev.cstr
    exact Tr.or0
    exact Tr.and0
    refine Exs.cons ?_ ?_
    refine Ex.ret ?_
    exact Lo
    exact Exs.nil
    exact Exs.nil
    refine Exs.cons ?_ ?_
    refine Ex.asg ?_ ?_ (by rfl) (by rfl)
    refine Ev.bin sub_rule ?_ ?_
    exact Lo
    exact Ev.cint
    exact An
    exact Exs.nil
    refine Exs.cons ?_ ?_
    refine Ex.ret ?_
    exact Ev.cint
    exact Exs.nil
  · exact m3 fun _ _ _ => rfl
  · decide +kernel
  · decide +kernel
noncomputable def F_sentence_places_from : FnF := fnF ["text", "start", "stop", "data"] (xCons (xAssign (eCall (newF 127 F_SentenceStream___init__) (lCons (eN "data") lNil)) (aN "stream")) (xCons (xAssign (eLst lNil) (aN "found")) (xCons (xAssign (eN "start") (aN "at")) (xCons (whileF (tAnd (tCmp ltF (eN "at") (eCall lenF (lCons (eN "text") lNil))) (tAnd (tOr (tCmp eqF (eN "found") (eLst lNil)) (tOr (tCmp ltF (eSub (eN "found") (eNeg (eC (.int 1)))) (eN "stop")) tFalse)) tTrue)) (xCons (xExpr (eMethL extendF (eN "found") (lCons (eComp (eMeth 127 "put" F_SentenceStream_put (eN "stream") (lCons (eSub (eN "text") (eN "at")) lNil)) ["start"] (aTwo "place" "is_break") (eT (eN "is_break")) (eBin addF (eN "start") (eN "place")) FU) lNil))) (xCons (xAssign (eBin addF (eN "at") (eC (.int 1))) (aN "at")) xNil)) FU) (xCons (xIf (tAnd (tCmp eqF (eN "at") (eCall lenF (lCons (eN "text") lNil))) (tAnd (tOr (tCmp eqF (eN "found") (eLst lNil)) (tOr (tCmp ltF (eSub (eN "found") (eNeg (eC (.int 1)))) (eN "stop")) tFalse)) tTrue)) (xCons (xExpr (eMethL extendF (eN "found") (lCons (eComp (eMeth 127 "finish" F_SentenceStream_finish (eN "stream") lNil) ["start"] (aTwo "place" "is_break") (eT (eN "is_break")) (eBin addF (eN "start") (eN "place")) FU) lNil))) xNil) xNil) (xCons (xRet (eN "found")) xNil))))))
set_option maxHeartbeats 400000 in
theorem X_sentence_places_from {c : Cx} (C : c.Ok) (hK : c.K = hd.heap_1 c.w.params) : Fn c 5 (.ref 153) F_sentence_places_from := by
  refine Fn.cells (n := 4) C (by rw [hK]; rfl) (by rw [hK]; kernel_rfl) ?_ ?_ ?_
  · refine Exs.cons ?_ ?_
    refine Ex.asg ?_ ?_ (by rfl) (by rfl)
    refine Ev.call C (G_SentenceStream C hK (by decide +kernel)) (.ofK (P_SentenceStream hK)) (Cal.ofFn ((M_SentenceStream C hK).weaken (by decide))) ?_
    refine EvL.cons ?_ ?_
    exact Lo
    exact EvL.nil
    exact An
    refine Exs.cons ?_ ?_
    refine Ex.asg ?_ ?_ (by rfl) (by rfl)
    refine Ev.list ?_
    exact EvL.nil
    exact An
    refine Exs.cons ?_ ?_
    refine Ex.asg ?_ ?_ (by rfl) (by rfl)
    exact Ev.cell (by decide +kernel)
    exact An
    refine Exs.cons ?_ ?_
    refine Ex.while (k := FU) ?_ ?_
    refine Tr.and ?_ ?_
    refine Tr.cmp lt_rule ?_ ?_
    exact Lo
    refine Ev.call C (G_len C hK (by decide +kernel)) .builtin len_cal ?_
    refine EvL.cons ?_ ?_
    exact Lo
    exact EvL.nil
    refine Tr.and ?_ ?_
    refine Tr.or ?_ ?_
    refine Tr.cmp eq_rule ?_ ?_
    exact Lo
    refine Ev.list ?_
    exact EvL.nil
    refine Tr.or ?_ ?_
    refine Tr.cmp lt_rule ?_ ?_
    refine Ev.sub C ?_ ?_
    exact Lo
    refine Ev.neg ?_
    exact Ev.cint
    exact Lo
    exact Tr.or0
    exact Tr.and0
    refine Exs.cons ?_ ?_
    refine Ex.expr ?_
    refine Ev.methL C extend_meth ?_ ?_ (pl := _) (by intro _; rfl)
    exact Lo
    refine EvL.cons ?_ ?_
    refine Ev.comp ["start"] FU ⟨by decide +kernel, by rfl, by decide +kernel, by decide +kernel, by decide +kernel⟩ ?_ ?_ ?_ ?_
    refine Ev.meth C (cls_SentenceStream hK) (A_SentenceStream_put hK) (T_SentenceStream_put hK) (P_SentenceStream_put hK) (Cal.ofFn ((X_SentenceStream_put C hK).weaken (by decide))) ?_ ?_ (pl := _) (by intro _; rfl)
    exact Lo
    refine EvL.cons ?_ ?_
    refine Ev.sub C ?_ ?_
    exact Lo
    exact Lo
    exact EvL.nil
    exact AsC.two (by decide +kernel) (by decide +kernel)
    refine Te.one ?_
    refine Tr.val ?_
    exact Lo
    refine Ev.bin add_rule ?_ ?_
    exact Ev.cell (by decide +kernel)
    exact Lo
    exact EvL.nil
    refine Exs.cons ?_ ?_
    refine Ex.asg ?_ ?_ (by rfl) (by rfl)
    refine Ev.bin add_rule ?_ ?_
    exact Lo
    exact Ev.cint
    exact An
    exact Exs.nil
    refine Exs.cons ?_ ?_
    refine Ex.ite ?_ ?_ ?_
    refine Tr.and ?_ ?_
    refine Tr.cmp eq_rule ?_ ?_
    exact Lo
    refine Ev.call C (G_len C hK (by decide +kernel)) .builtin len_cal ?_
    refine EvL.cons ?_ ?_
    exact Lo
    exact EvL.nil
    refine Tr.and ?_ ?_
    refine Tr.or ?_ ?_
    refine Tr.cmp eq_rule ?_ ?_
    exact Lo
    refine Ev.list ?_
    exact EvL.nil
    refine Tr.or ?_ ?_
    refine Tr.cmp lt_rule ?_ ?_
    refine Ev.sub C ?_ ?_
    exact Lo
    refine Ev.neg ?_
    exact Ev.cint
    exact Lo
    exact Tr.or0
    exact Tr.and0
    refine Exs.cons ?_ ?_
    refine Ex.expr ?_
    refine Ev.methL C extend_meth ?_ ?_ (pl := _) (by intro _; rfl)
    exact Lo
    refine EvL.cons ?_ ?_
    refine Ev.comp ["start"] FU ⟨by decide +kernel, by rfl, by decide +kernel, by decide +kernel, by decide +kernel⟩ ?_ ?_ ?_ ?_
    refine Ev.meth C (cls_SentenceStream hK) (A_SentenceStream_finish hK) (T_SentenceStream_finish hK) (P_SentenceStream_finish hK) (Cal.ofFn ((X_SentenceStream_finish C hK).weaken (by decide))) ?_ ?_ (pl := _) (by intro _; rfl)
    exact Lo
    exact EvL.nil
    exact AsC.two (by decide +kernel) (by decide +kernel)
    refine Te.one ?_
    refine Tr.val ?_
    exact Lo
    refine Ev.bin add_rule ?_ ?_
    exact Ev.cell (by decide +kernel)
    exact Lo
    exact EvL.nil
    exact Exs.nil
    exact Exs.nil
    refine Exs.cons ?_ ?_
    refine Ex.ret ?_
    exact Lo
    exact Exs.nil
  · exact m4 fun _ _ _ _ => rfl
  · decide +kernel
noncomputable def F_sentence_next : FnF := fnF ["text", "at", "data"] (xCons (xIf (tCmp geF (eN "at") (eCall lenF (lCons (eN "text") lNil))) (xCons (xRet (eC .none)) xNil) xNil) (xCons (xAssign (eCall maxF (lCons (eN "at") (lCons (eNeg (eC (.int 1))) lNil))) (aN "near")) (xCons (xFor (eCall F_sentence_places_from (lCons (eN "text") (lCons (eCall F_sentence_safe (lCons (eN "text") (lCons (eN "near") (lCons (eN "data") lNil)))) (lCons (eBin addF (eN "near") (eC (.int 1))) (lCons (eN "data") lNil))))) (aN "place") (xCons (xIf (tCmp gtF (eN "place") (eN "near")) (xCons (xRet (eN "place")) xNil) xNil) xNil) FU) (xCons (xRet (eC .none)) xNil))))
set_option maxHeartbeats 400000 in
theorem X_sentence_next {c : Cx} (C : c.Ok) (hK : c.K = hd.heap_1 c.w.params) : Fn c 6 (.ref 160) F_sentence_next := by
  refine Fn.plain (n := 5) C (by rw [hK]; rfl) (by rw [hK]; kernel_rfl) ?_ ?_ ?_ ?_
  · refine Exs.cons ?_ ?_
    refine Ex.ite ?_ ?_ ?_
    refine Tr.cmp ge_rule ?_ ?_
    exact Lo
    refine Ev.call C (G_len C hK (by decide +kernel)) .builtin len_cal ?_
    refine EvL.cons ?_ ?_
    exact Lo
    exact EvL.nil
    refine Exs.cons ?_ ?_
    refine Ex.ret ?_
    exact Ev.cnone
    exact Exs.nil
    exact Exs.nil
    refine Exs.cons ?_ ?_
    refine Ex.asg ?_ ?_ (by rfl) (by rfl)
    refine Ev.call C (G_max C hK (by decide +kernel)) .builtin max_cal ?_
    refine EvL.cons ?_ ?_
    exact Lo
    refine EvL.cons ?_ ?_
    refine Ev.neg ?_
    exact Ev.cint
    exact EvL.nil
    exact An
    refine Exs.cons ?_ ?_
    refine Ex.for FU ?_ ?_ ?_
    refine Ev.call C (G_sentence_places_from C hK (by decide +kernel)) (.ofK (P_sentence_places_from hK)) (Cal.ofFn ((X_sentence_places_from C hK).weaken (by decide))) ?_
    refine EvL.cons ?_ ?_
    exact Lo
    refine EvL.cons ?_ ?_
    refine Ev.call C (G_sentence_safe C hK (by decide +kernel)) (.ofK (P_sentence_safe hK)) (Cal.ofFn ((X_sentence_safe C hK).weaken (by decide))) ?_
    refine EvL.cons ?_ ?_
    exact Lo
    refine EvL.cons ?_ ?_
    exact Lo
    refine EvL.cons ?_ ?_
    exact Lo
    exact EvL.nil
    refine EvL.cons ?_ ?_
    refine Ev.bin add_rule ?_ ?_
    exact Lo
    exact Ev.cint
    refine EvL.cons ?_ ?_
    exact Lo
    exact EvL.nil
    exact An
    refine Exs.cons ?_ ?_
    refine Ex.ite ?_ ?_ ?_
    refine Tr.cmp gt_rule ?_ ?_
    exact Lo
    exact Lo
    refine Exs.cons ?_ ?_
    refine Ex.ret ?_
    exact Lo
    exact Exs.nil
    exact Exs.nil
    exact Exs.nil
    refine Exs.cons ?_ ?_
    refine Ex.ret ?_
    exact Ev.cnone
    exact Exs.nil
  · exact m3 fun _ _ _ => rfl
  · decide +kernel
  · decide +kernel
noncomputable def F_sentence_previous : FnF := fnF ["text", "at", "data"] (xCons (xIf (tOr (tCmp leF (eN "at") (eC (.int 0))) (tOr (tCmp eqF (eCall lenF (lCons (eN "text") lNil)) (eC (.int 0))) tFalse)) (xCons (xRet (eC .none)) xNil) xNil) (xCons (xIf (tCmp gtF (eN "at") (eCall lenF (lCons (eN "text") lNil))) (xCons (xRet (eCall lenF (lCons (eN "text") lNil))) xNil) xNil) (xCons (xAssign (eCall F_sentence_safe (lCons (eN "text") (lCons (eBin subF (eN "at") (eC (.int 1))) (lCons (eN "data") lNil)))) (aN "start")) (xCons (xAssign (eComp (eCall F_sentence_places_from (lCons (eN "text") (lCons (eN "start") (lCons (eN "at") (lCons (eN "data") lNil))))) ["at"] (aN "place") (tCmp ltF (eN "place") (eN "at")) (eN "place") FU) (aN "found")) (xCons (xRet (eIf (tCmp neF (eN "found") (eLst lNil)) (eSub (eN "found") (eNeg (eC (.int 1)))) (eC .none))) xNil)))))
set_option maxHeartbeats 400000 in
theorem X_sentence_previous {c : Cx} (C : c.Ok) (hK : c.K = hd.heap_1 c.w.params) : Fn c 6 (.ref 165) F_sentence_previous := by
  refine Fn.cells (n := 5) C (by rw [hK]; rfl) (by rw [hK]; kernel_rfl) ?_ ?_ ?_
  · refine Exs.cons ?_ ?_
    refine Ex.ite ?_ ?_ ?_
    refine Tr.or ?_ ?_
    refine Tr.cmp le_rule ?_ ?_
    exact Ev.cell (by decide +kernel)
    exact Ev.cint
    refine Tr.or ?_ ?_
    refine Tr.cmp eq_rule ?_ ?_
    refine Ev.call C (G_len C hK (by decide +kernel)) .builtin len_cal ?_
    refine EvL.cons ?_ ?_
    exact Lo
    exact EvL.nil
    exact Ev.cint
    exact Tr.or0
    refine Exs.cons ?_ ?_
    refine Ex.ret ?_
    exact Ev.cnone
    exact Exs.nil
    exact Exs.nil
    refine Exs.cons ?_ ?_
    refine Ex.ite ?_ ?_ ?_
    refine Tr.cmp gt_rule ?_ ?_
    exact Ev.cell (by decide +kernel)
    refine Ev.call C (G_len C hK (by decide +kernel)) .builtin len_cal ?_
    refine EvL.cons ?_ ?_
    exact Lo
    exact EvL.nil
    refine Exs.cons ?_ ?_
    refine Ex.ret ?_
    refine Ev.call C (G_len C hK (by decide +kernel)) .builtin len_cal ?_
    refine EvL.cons ?_ ?_
    exact Lo
    exact EvL.nil
    exact Exs.nil
    exact Exs.nil
    refine Exs.cons ?_ ?_
    refine Ex.asg ?_ ?_ (by rfl) (by rfl)
    refine Ev.call C (G_sentence_safe C hK (by decide +kernel)) (.ofK (P_sentence_safe hK)) (Cal.ofFn ((X_sentence_safe C hK).weaken (by decide))) ?_
    refine EvL.cons ?_ ?_
    exact Lo
    refine EvL.cons ?_ ?_
    refine Ev.bin sub_rule ?_ ?_
    exact Ev.cell (by decide +kernel)
    exact Ev.cint
    refine EvL.cons ?_ ?_
    exact Lo
    exact EvL.nil
    exact An
    refine Exs.cons ?_ ?_
    refine Ex.acomp ["at"] FU ⟨by decide +kernel, by rfl, by decide +kernel, by decide +kernel, by decide +kernel⟩ (by decide +kernel) ?_ ?_ ?_ ?_ (by rfl)
    refine Ev.call C (G_sentence_places_from C hK (by decide +kernel)) (.ofK (P_sentence_places_from hK)) (Cal.ofFn ((X_sentence_places_from C hK).weaken (by decide))) ?_
    refine EvL.cons ?_ ?_
    exact Lo
    refine EvL.cons ?_ ?_
    exact Lo
    refine EvL.cons ?_ ?_
    exact Ev.cell (by decide +kernel)
    refine EvL.cons ?_ ?_
    exact Lo
    exact EvL.nil
    exact AsC.name (by decide +kernel)
    refine Te.one ?_
    refine Tr.cmp lt_rule ?_ ?_
    exact Lo
    exact Ev.cell (by decide +kernel)
    exact Lo
    refine Exs.cons ?_ ?_
    refine Ex.ret ?_
    refine Ev.ifExp ?_ ?_ ?_
    refine Tr.cmp ne_rule ?_ ?_
    exact Lo
    refine Ev.list ?_
    exact EvL.nil
    refine Ev.sub C ?_ ?_
    exact Lo
    refine Ev.neg ?_
    exact Ev.cint
    exact Ev.cnone
    exact Exs.nil
  · exact m3 fun _ _ _ => rfl
  · decide +kernel
noncomputable def F_range_are_like : FnF := fnF ["one", "other"] (xCons (xRet (eAnd (eCmp eqF (eN "one") (eN "other")) (fun _ _ => none))) xNil)
set_option maxHeartbeats 400000 in
theorem X_range_are_like {c : Cx} (C : c.Ok) (hK : c.K = hd.heap_1 c.w.params) : Fn c 1 (.ref 179) F_range_are_like := by
  refine Fn.plain (n := 0) C (by rw [hK]; rfl) (by rw [hK]; kernel_rfl) ?_ ?_ ?_ ?_
  · refine Exs.cons ?_ ?_
    refine Ex.ret ?_
    refine Ev.and ?_ (Ev.one Ev.never)
    refine Ev.cmp eq_rule ?_ ?_
    exact Lo
    exact Lo
    exact Exs.nil
  · exact m2 fun _ _ => rfl
  · decide +kernel
  · decide +kernel
noncomputable def F_RangeMap___init__ : FnF := fnF ["self", "default"] (xCons (xAssign (eN "default") (aAttr 224 "default" (eN "self"))) (xCons (xAssign (eLst (lCons (eC (.int 0)) lNil)) (aAttr 224 "starts" (eN "self"))) (xCons (xAssign (eLst (lCons (eN "default") lNil)) (aAttr 224 "values" (eN "self"))) xNil)))
set_option maxHeartbeats 400000 in
theorem X_RangeMap___init__ {c : Cx} (C : c.Ok) (hK : c.K = hd.heap_1 c.w.params) : Fn c 1 (.ref 193) F_RangeMap___init__ := by
  refine Fn.plain (n := 0) C (by rw [hK]; rfl) (by rw [hK]; kernel_rfl) ?_ ?_ ?_ ?_
  · refine Exs.cons ?_ ?_
    refine Ex.asg ?_ ?_ (by rfl) (by rfl)
    exact Lo
    refine As.attr C (cls_RangeMap hK) (A_RangeMap_default hK) ?_
    exact Lo
    refine Exs.cons ?_ ?_
    refine Ex.asg ?_ ?_ (by rfl) (by rfl)
    refine Ev.list ?_
    refine EvL.consC ?_ ?_
    exact Ev.cint
    exact EvL.nil
    refine As.attr C (cls_RangeMap hK) (A_RangeMap_starts hK) ?_
    exact Lo
    refine Exs.cons ?_ ?_
    refine Ex.asg ?_ ?_ (by rfl) (by rfl)
    refine Ev.list ?_
    refine EvL.cons ?_ ?_
    exact Lo
    exact EvL.nil
    refine As.attr C (cls_RangeMap hK) (A_RangeMap_values hK) ?_
    exact Lo
    exact Exs.nil
  · exact m2 fun _ _ => rfl
  · decide +kernel
  · decide +kernel
theorem M_RangeMap {c : Cx} (C : c.Ok) (hK : c.K = hd.heap_1 c.w.params) : Fn c 2 (.ref 224) (newF 224 F_RangeMap___init__) := Fn.make C (cls_RangeMap hK) (A_RangeMap___init__ hK) (T_RangeMap___init__ hK) (X_RangeMap___init__ C hK)
noncomputable def F_RangeMap_put : FnF := fnF ["self", "first", "last", "value"] (xCons (xIf (tCmp gtF (eN "first") (eN "last")) (xCons xRet0 xNil) xNil) (xCons (xAssign (eBin addF (eCall F_place_by_half (lCons (eAttr 224 "starts" (eN "self")) (lCons (eBin subF (eN "first") (eC (.int 1))) lNil))) (eC (.int 1))) (aN "low")) (xCons (xAssign (eBin addF (eCall F_place_by_half (lCons (eAttr 224 "starts" (eN "self")) (lCons (eBin addF (eN "last") (eC (.int 1))) lNil))) (eC (.int 1))) (aN "high")) (xCons (xAssign (eSub (eAttr 224 "values" (eN "self")) (eBin subF (eN "high") (eC (.int 1)))) (aN "behind")) (xCons (xAssign (eTup (lCons (eLst (lCons (eN "first") lNil)) (lCons (eLst (lCons (eN "value") lNil)) lNil))) (aRev ["starts", "values"])) (xCons (xIf (tAnd (tCmp ltF (eN "last") (eC V_MAX_CODE)) (tAnd (tNot (eT (eCall F_range_are_like (lCons (eN "behind") (lCons (eN "value") lNil))))) tTrue)) (xCons (xExpr (eMethL appendF (eN "starts") (lCons (eBin addF (eN "last") (eC (.int 1))) lNil))) (xCons (xExpr (eMethL appendF (eN "values") (lCons (eN "behind") lNil))) xNil)) xNil) (xCons (xIf (tAnd (tCmp gtF (eN "low") (eC (.int 0))) (tAnd (eT (eCall F_range_are_like (lCons (eSub (eAttr 224 "values" (eN "self")) (eBin subF (eN "low") (eC (.int 1)))) (lCons (eN "value") lNil)))) tTrue)) (xCons (xAssign (eTup (lCons (eSlice (eN "starts") (pSo (eC (.int 1))) pNo pNo) (lCons (eSlice (eN "values") (pSo (eC (.int 1))) pNo pNo) lNil))) (aRev ["starts", "values"])) xNil) xNil) (xCons (xAssign (eBin addF (eBin addF (eSlice (eAttr 224 "starts" (eN "self")) pNo (pSo (eN "low")) pNo) (eN "starts")) (eSlice (eAttr 224 "starts" (eN "self")) (pSo (eN "high")) pNo pNo)) (aAttr 224 "starts" (eN "self"))) (xCons (xAssign (eBin addF (eBin addF (eSlice (eAttr 224 "values" (eN "self")) pNo (pSo (eN "low")) pNo) (eN "values")) (eSlice (eAttr 224 "values" (eN "self")) (pSo (eN "high")) pNo pNo)) (aAttr 224 "values" (eN "self"))) xNil)))))))))
set_option maxHeartbeats 400000 in
theorem X_RangeMap_put {c : Cx} (C : c.Ok) (hK : c.K = hd.heap_1 c.w.params) : Fn c 2 (.ref 207) F_RangeMap_put := by
  refine Fn.plain (n := 1) C (by rw [hK]; rfl) (by rw [hK]; kernel_rfl) ?_ ?_ ?_ ?_
  · refine Exs.cons ?_ ?_
    refine Ex.ite ?_ ?_ ?_
    refine Tr.cmp gt_rule ?_ ?_
    exact Lo
    exact Lo
    refine Exs.cons ?_ ?_
    exact Ex.ret0
    exact Exs.nil
    exact Exs.nil
    refine Exs.cons ?_ ?_
    refine Ex.asg ?_ ?_ (by rfl) (by rfl)
    refine Ev.bin add_rule ?_ ?_
    refine Ev.call C (G_place_by_half C hK (by decide +kernel)) (.ofK (P_place_by_half hK)) (Cal.ofFn ((X_place_by_half C hK).weaken (by decide))) ?_
    refine EvL.cons ?_ ?_
    refine Ev.attr C (cls_RangeMap hK) (A_RangeMap_starts hK) ?_
    exact Lo
    refine EvL.cons ?_ ?_
    refine Ev.bin sub_rule ?_ ?_
    exact Lo
    exact Ev.cint
    exact EvL.nil
    exact Ev.cint
    exact An
    refine Exs.cons ?_ ?_
    refine Ex.asg ?_ ?_ (by rfl) (by rfl)
    refine Ev.bin add_rule ?_ ?_
    refine Ev.call C (G_place_by_half C hK (by decide +kernel)) (.ofK (P_place_by_half hK)) (Cal.ofFn ((X_place_by_half C hK).weaken (by decide))) ?_
    refine EvL.cons ?_ ?_
    refine Ev.attr C (cls_RangeMap hK) (A_RangeMap_starts hK) ?_
    exact Lo
    refine EvL.cons ?_ ?_
    refine Ev.bin add_rule ?_ ?_
    exact Lo
    exact Ev.cint
    exact EvL.nil
    exact Ev.cint
    exact An
    refine Exs.cons ?_ ?_
    refine Ex.asg ?_ ?_ (by rfl) (by rfl)
    refine Ev.sub C ?_ ?_
    refine Ev.attr C (cls_RangeMap hK) (A_RangeMap_values hK) ?_
    exact Lo
    refine Ev.bin sub_rule ?_ ?_
    exact Lo
    exact Ev.cint
    exact An
    refine Exs.cons ?_ ?_
    refine Ex.asw (xs := ["starts", "values"]) ?_ (by rfl) (by rfl) (by decide +kernel)
    refine Ev.tuple ?_
    refine EvL.cons ?_ ?_
    refine Ev.list ?_
    refine EvL.cons ?_ ?_
    exact Lo
    exact EvL.nil
    refine EvL.cons ?_ ?_
    refine Ev.list ?_
    refine EvL.cons ?_ ?_
    exact Lo
    exact EvL.nil
    exact EvL.nil
    refine Exs.cons ?_ ?_
    refine Ex.ite ?_ ?_ ?_
    refine Tr.and ?_ ?_
    refine Tr.cmp lt_rule ?_ ?_
    exact Lo
    exact G_MAX_CODE C hK (by decide +kernel)
    refine Tr.and ?_ ?_
    refine Tr.not ?_
    refine Tr.val ?_
    refine Ev.call C (G_range_are_like C hK (by decide +kernel)) (.ofK (P_range_are_like hK)) (Cal.ofFn ((X_range_are_like C hK).weaken (by decide))) ?_
    refine EvL.cons ?_ ?_
    exact Lo
    refine EvL.cons ?_ ?_
    exact Lo
    exact EvL.nil
    exact Tr.and0
    refine Exs.cons ?_ ?_
    refine Ex.expr ?_
    refine Ev.methL C append_meth ?_ ?_ (pl := _) (by intro _; rfl)
    exact Lo
    refine EvL.cons ?_ ?_
    refine Ev.bin add_rule ?_ ?_
    exact Lo
    exact Ev.cint
    exact EvL.nil
    refine Exs.cons ?_ ?_
    refine Ex.expr ?_
    refine Ev.methL C append_meth ?_ ?_ (pl := _) (by intro _; rfl)
    exact Lo
    refine EvL.cons ?_ ?_
    exact Lo
    exact EvL.nil
    exact Exs.nil
    exact Exs.nil
    refine Exs.cons ?_ ?_
    refine Ex.ite ?_ ?_ ?_
    refine Tr.and ?_ ?_
    refine Tr.cmp gt_rule ?_ ?_
    exact Lo
    exact Ev.cint
    refine Tr.and ?_ ?_
    refine Tr.val ?_
    refine Ev.call C (G_range_are_like C hK (by decide +kernel)) (.ofK (P_range_are_like hK)) (Cal.ofFn ((X_range_are_like C hK).weaken (by decide))) ?_
    refine EvL.cons ?_ ?_
    refine Ev.sub C ?_ ?_
    refine Ev.attr C (cls_RangeMap hK) (A_RangeMap_values hK) ?_
    exact Lo
    refine Ev.bin sub_rule ?_ ?_
    exact Lo
    exact Ev.cint
    refine EvL.cons ?_ ?_
    exact Lo
    exact EvL.nil
    exact Tr.and0
    refine Exs.cons ?_ ?_
    refine Ex.asw (xs := ["starts", "values"]) ?_ (by rfl) (by rfl) (by decide +kernel)
    refine Ev.tuple ?_
    refine EvL.cons ?_ ?_
    refine Ev.slice ?_ ?_ ?_ ?_
    exact Lo
    refine EvP.so ?_
    exact Ev.cint
    exact EvP.no
    exact EvP.no
    refine EvL.cons ?_ ?_
    refine Ev.slice ?_ ?_ ?_ ?_
    exact Lo
    refine EvP.so ?_
    exact Ev.cint
    exact EvP.no
    exact EvP.no
    exact EvL.nil
    exact Exs.nil
    exact Exs.nil
    refine Exs.cons ?_ ?_
    refine Ex.asg ?_ ?_ (by rfl) (by rfl)
    refine Ev.bin add_rule ?_ ?_
    refine Ev.bin add_rule ?_ ?_
    refine Ev.slice ?_ ?_ ?_ ?_
    refine Ev.attr C (cls_RangeMap hK) (A_RangeMap_starts hK) ?_
    exact Lo
    exact EvP.no
    refine EvP.so ?_
    exact Lo
    exact EvP.no
    exact Lo
    refine Ev.slice ?_ ?_ ?_ ?_
    refine Ev.attr C (cls_RangeMap hK) (A_RangeMap_starts hK) ?_
    exact Lo
    refine EvP.so ?_
    exact Lo
    exact EvP.no
    exact EvP.no
    refine As.attr C (cls_RangeMap hK) (A_RangeMap_starts hK) ?_
    exact Lo
    refine Exs.cons ?_ ?_
    refine Ex.asg ?_ ?_ (by rfl) (by rfl)
    refine Ev.bin add_rule ?_ ?_
    refine Ev.bin add_rule ?_ ?_
    refine Ev.slice ?_ ?_ ?_ ?_
    refine Ev.attr C (cls_RangeMap hK) (A_RangeMap_values hK) ?_
    exact Lo
    exact EvP.no
    refine EvP.so ?_
    exact Lo
    exact EvP.no
    exact Lo
    refine Ev.slice ?_ ?_ ?_ ?_
    refine Ev.attr C (cls_RangeMap hK) (A_RangeMap_values hK) ?_
    exact Lo
    refine EvP.so ?_
    exact Lo
    exact EvP.no
    exact EvP.no
    refine As.attr C (cls_RangeMap hK) (A_RangeMap_values hK) ?_
    exact Lo
    exact Exs.nil
  · exact m4 fun _ _ _ _ => rfl
  · decide +kernel
  · decide +kernel
noncomputable def F_data_defaults : FnF := fnF [] (xCons (xAssign (eDict (dCons "gc" (eC (.str "Cn")) (dCons "ccc" (eC (.int 0)) (dCons "bc" (eC (.str "L")) (dCons "lb" (eC (.str "XX")) (dCons "ea" (eC (.str "N")) (dCons "sc" (eC (.str "Zzzz")) (dCons "jt" (eC (.str "U")) (dCons "incb" (eC (.str "None")) dNil))))))))) (aN "found")) (xCons (xFor (eTup (lCons (eC (.str "gcb")) (lCons (eC (.str "wb")) (lCons (eC (.str "sb")) lNil)))) (aN "name") (xCons (xAssign (eC (.str "Other")) (aSub (eN "found") (eN "name"))) xNil) FU) (xCons (xFor (eTup (lCons (eC (.str "ex")) (lCons (eC (.str "sd")) (lCons (eC (.str "cased")) (lCons (eC (.str "ci")) (lCons (eC (.str "ep")) (lCons (eC (.str "di")) (lCons (eC (.str "ids")) (lCons (eC (.str "idc")) (lCons (eC (.str "xids")) (lCons (eC (.str "xidc")) (lCons (eC (.str "pat_syn")) (lCons (eC (.str "pat_ws")) (lCons (eC (.str "idst")) lNil)))))))))))))) (aN "name") (xCons (xAssign (eC (.bool false)) (aSub (eN "found") (eN "name"))) xNil) FU) (xCons (xFor (eTup (lCons (eC (.str "dm")) (lCons (eC (.str "uc")) (lCons (eC (.str "lc")) (lCons (eC (.str "tc")) (lCons (eC (.str "cf")) (lCons (eC (.str "bm")) (lCons (eC (.str "bpb")) (lCons (eC (.str "scx")) (lCons (eC (.str "nt")) (lCons (eC (.str "nv")) (lCons (eC (.str "name")) (lCons (eC (.str "conf")) (lCons (eC (.str "nfkc_cf")) lNil)))))))))))))) (aN "name") (xCons (xAssign (eC .none) (aSub (eN "found") (eN "name"))) xNil) FU) (xCons (xFor (eTup (lCons (eC (.str "suc")) (lCons (eC (.str "slc")) (lCons (eC (.str "stc")) (lCons (eC (.str "alias")) lNil))))) (aN "name") (xCons (xAssign (eTup lNil) (aSub (eN "found") (eN "name"))) xNil) FU) (xCons (xAssign (eTup (lCons (eC (.str "disallowed")) (lCons (eTup lNil) lNil))) (aSub (eN "found") (eC (.str "idna")))) (xCons (xRet (eN "found")) xNil)))))))
set_option maxHeartbeats 400000 in
theorem X_data_defaults {c : Cx} (C : c.Ok) (hK : c.K = hd.heap_1 c.w.params) : Fn c 1 (.ref 235) F_data_defaults := by
  refine Fn.plain (n := 0) C (by rw [hK]; rfl) (by rw [hK]; kernel_rfl) ?_ ?_ ?_ ?_
  · refine Exs.cons ?_ ?_
    refine Ex.asg ?_ ?_ ?_ ?_
    refine Ev.dict' ?_ ?_ ?_ ?_
    refine EvD.cons' ?_ ?_
    exact Ev.cstr
    refine EvD.cons' ?_ ?_
    exact Ev.cint
    refine EvD.cons' ?_ ?_
    exact Ev.cstr
    refine EvD.cons' ?_ ?_
    exact Ev.cstr
    refine EvD.cons' ?_ ?_
    exact Ev.cstr
    refine EvD.cons' ?_ ?_
    exact Ev.cstr
    refine EvD.cons' ?_ ?_
    exact Ev.cstr
    refine EvD.cons' ?_ ?_
    exact Ev.cstr
    exact EvD.nil'
    exact List.cons_ne_nil _ _
    exact Nat.le_of_ble_eq_true rfl
    exact rfl
    exact An
    exact sole_dict _ _ _ _ _ _
    exact swapped_name _ _ _ _
    refine Exs.cons ?_ ?_
    refine Ex.for FU ?_ ?_ ?_
    refine Ev.tuple ?_
    refine EvL.consC ?_ ?_
    exact Ev.cstr
    refine EvL.consC ?_ ?_
    exact Ev.cstr
    refine EvL.consC ?_ ?_
    exact Ev.cstr
    exact EvL.nil
    exact An
    refine Exs.cons ?_ ?_
    refine Ex.asg ?_ ?_ (by rfl) (by rfl)
    exact Ev.cstr
    refine As.sub ?_ ?_
    exact Lo
    exact Lo
    exact Exs.nil
    refine Exs.cons ?_ ?_
    refine Ex.for FU ?_ ?_ ?_
    refine Ev.tuple ?_
    refine EvL.consC ?_ ?_
    exact Ev.cstr
    refine EvL.consC ?_ ?_
    exact Ev.cstr
    refine EvL.consC ?_ ?_
    exact Ev.cstr
    refine EvL.consC ?_ ?_
    exact Ev.cstr
    refine EvL.consC ?_ ?_
    exact Ev.cstr
    refine EvL.consC ?_ ?_
    exact Ev.cstr
    refine EvL.consC ?_ ?_
    exact Ev.cstr
    refine EvL.consC ?_ ?_
    exact Ev.cstr
    refine EvL.consC ?_ ?_
    exact Ev.cstr
    refine EvL.consC ?_ ?_
    exact Ev.cstr
    refine EvL.consC ?_ ?_
    exact Ev.cstr
    refine EvL.consC ?_ ?_
    exact Ev.cstr
    refine EvL.consC ?_ ?_
    exact Ev.cstr
    exact EvL.nil
    exact An
    refine Exs.cons ?_ ?_
    refine Ex.asg ?_ ?_ (by rfl) (by rfl)
    exact Ev.cbool
    refine As.sub ?_ ?_
    exact Lo
    exact Lo
    exact Exs.nil
    refine Exs.cons ?_ ?_
    refine Ex.for FU ?_ ?_ ?_
    refine Ev.tuple ?_
    refine EvL.consC ?_ ?_
    exact Ev.cstr
    refine EvL.consC ?_ ?_
    exact Ev.cstr
    refine EvL.consC ?_ ?_
    exact Ev.cstr
    refine EvL.consC ?_ ?_
    exact Ev.cstr
    refine EvL.consC ?_ ?_
    exact Ev.cstr
    refine EvL.consC ?_ ?_
    exact Ev.cstr
    refine EvL.consC ?_ ?_
    exact Ev.cstr
    refine EvL.consC ?_ ?_
    exact Ev.cstr
    refine EvL.consC ?_ ?_
    exact Ev.cstr
    refine EvL.consC ?_ ?_
    exact Ev.cstr
    refine EvL.consC ?_ ?_
    exact Ev.cstr
    refine EvL.consC ?_ ?_
    exact Ev.cstr
    refine EvL.consC ?_ ?_
    exact Ev.cstr
    exact EvL.nil
    exact An
    refine Exs.cons ?_ ?_
    refine Ex.asg ?_ ?_ (by rfl) (by rfl)
    exact Ev.cnone
    refine As.sub ?_ ?_
    exact Lo
    exact Lo
    exact Exs.nil
    refine Exs.cons ?_ ?_
    refine Ex.for FU ?_ ?_ ?_
    refine Ev.tuple ?_
    refine EvL.consC ?_ ?_
    exact Ev.cstr
    refine EvL.consC ?_ ?_
    exact Ev.cstr
    refine EvL.consC ?_ ?_
    exact Ev.cstr
    refine EvL.consC ?_ ?_
    exact Ev.cstr
    exact EvL.nil
    exact An
    refine Exs.cons ?_ ?_
    refine Ex.asg ?_ ?_ (by rfl) (by rfl)
    refine Ev.tuple ?_
    exact EvL.nil
    refine As.sub ?_ ?_
    exact Lo
    exact Lo
    exact Exs.nil
    refine Exs.cons ?_ ?_
    refine Ex.asg ?_ ?_ (by rfl) (by rfl)
    refine Ev.tuple ?_
    refine EvL.consC ?_ ?_
    exact Ev.cstr
    refine EvL.cons ?_ ?_
    refine Ev.tuple ?_
    exact EvL.nil
    exact EvL.nil
    refine As.sub ?_ ?_
    exact Lo
    exact Ev.cstr
    refine Exs.cons ?_ ?_
    refine Ex.ret ?_
    exact Lo
    exact Exs.nil
  · exact m0 rfl
  · decide +kernel
  · decide +kernel
noncomputable def F_Data___init__ : FnF := fnF ["self"] (xCons (xAssign (eCall F_data_defaults lNil) (aAttr 273 "defaults" (eN "self"))) (xCons (xAssign eDict0 (aAttr 273 "maps" (eN "self"))) (xCons (xAssign eDict0 (aAttr 273 "properties" (eN "self"))) (xCons (xAssign eDict0 (aAttr 273 "words" (eN "self"))) xNil))))
set_option maxHeartbeats 400000 in
theorem X_Data___init__ {c : Cx} (C : c.Ok) (hK : c.K = hd.heap_1 c.w.params) : Fn c 2 (.ref 249) F_Data___init__ := by
  refine Fn.plain (n := 1) C (by rw [hK]; rfl) (by rw [hK]; kernel_rfl) ?_ ?_ ?_ ?_
  · refine Exs.cons ?_ ?_
    refine Ex.asg ?_ ?_ (by rfl) (by rfl)
    refine Ev.call C (G_data_defaults C hK (by decide +kernel)) (.ofK (P_data_defaults hK)) (Cal.ofFn ((X_data_defaults C hK).weaken (by decide))) ?_
    exact EvL.nil
    refine As.attr C (cls_Data hK) (A_Data_defaults hK) ?_
    exact Lo
    refine Exs.cons ?_ ?_
    refine Ex.asg ?_ ?_ (by rfl) (by rfl)
    exact Ev.dict0
    refine As.attr C (cls_Data hK) (A_Data_maps hK) ?_
    exact Lo
    refine Exs.cons ?_ ?_
    refine Ex.asg ?_ ?_ (by rfl) (by rfl)
    exact Ev.dict0
    refine As.attr C (cls_Data hK) (A_Data_properties hK) ?_
    exact Lo
    refine Exs.cons ?_ ?_
    refine Ex.asg ?_ ?_ (by rfl) (by rfl)
    exact Ev.dict0
    refine As.attr C (cls_Data hK) (A_Data_words hK) ?_
    exact Lo
    exact Exs.nil
  · exact m1 fun _ => rfl
  · decide +kernel
  · decide +kernel
theorem M_Data {c : Cx} (C : c.Ok) (hK : c.K = hd.heap_1 c.w.params) : Fn c 3 (.ref 273) (newF 273 F_Data___init__) := Fn.make C (cls_Data hK) (A_Data___init__ hK) (T_Data___init__ hK) (X_Data___init__ C hK)
noncomputable def F_Data_map_of : FnF := fnF ["self", "name"] (xCons (xIf (tCmp notInF (eN "name") (eAttr 273 "maps" (eN "self"))) (xCons (xAssign (eCall (newF 224 F_RangeMap___init__) (lCons (eMethD getF (eAttr 273 "defaults" (eN "self")) (lCons (eN "name") lNil)) lNil)) (aSub (eAttr 273 "maps" (eN "self")) (eN "name"))) xNil) xNil) (xCons (xRet (eSub (eAttr 273 "maps" (eN "self")) (eN "name"))) xNil))
set_option maxHeartbeats 400000 in
theorem X_Data_map_of {c : Cx} (C : c.Ok) (hK : c.K = hd.heap_1 c.w.params) : Fn c 3 (.ref 270) F_Data_map_of := by
  refine Fn.plain (n := 2) C (by rw [hK]; rfl) (by rw [hK]; kernel_rfl) ?_ ?_ ?_ ?_
  · refine Exs.cons ?_ ?_
    refine Ex.ite ?_ ?_ ?_
    refine Tr.cmp (notIn_rule C) ?_ ?_
    exact Lo
    refine Ev.attr C (cls_Data hK) (A_Data_maps hK) ?_
    exact Lo
    refine Exs.cons ?_ ?_
    refine Ex.asg ?_ ?_ (by rfl) (by rfl)
    refine Ev.call C (G_RangeMap C hK (by decide +kernel)) (.ofK (P_RangeMap hK)) (Cal.ofFn ((M_RangeMap C hK).weaken (by decide))) ?_
    refine EvL.cons ?_ ?_
    refine Ev.methD C (get_meth C) ?_ ?_ (pl := _) (by intro _; rfl)
    refine Ev.attr C (cls_Data hK) (A_Data_defaults hK) ?_
    exact Lo
    refine EvL.cons ?_ ?_
    exact Lo
    exact EvL.nil
    exact EvL.nil
    refine As.sub ?_ ?_
    refine Ev.attr C (cls_Data hK) (A_Data_maps hK) ?_
    exact Lo
    exact Lo
    exact Exs.nil
    exact Exs.nil
    refine Exs.cons ?_ ?_
    refine Ex.ret ?_
    refine Ev.sub C ?_ ?_
    refine Ev.attr C (cls_Data hK) (A_Data_maps hK) ?_
    exact Lo
    exact Lo
    exact Exs.nil
  · exact m2 fun _ _ => rfl
  · decide +kernel
  · decide +kernel
noncomputable def F_Data_put : FnF := fnF ["self", "name", "first", "last", "value"] (xCons (xExpr (eMeth 224 "put" F_RangeMap_put (eMeth 273 "map_of" F_Data_map_of (eN "self") (lCons (eN "name") lNil)) (lCons (eN "first") (lCons (eN "last") (lCons (eN "value") lNil))))) xNil)
set_option maxHeartbeats 400000 in
theorem X_Data_put {c : Cx} (C : c.Ok) (hK : c.K = hd.heap_1 c.w.params) : Fn c 4 (.ref 256) F_Data_put := by
  refine Fn.plain (n := 3) C (by rw [hK]; rfl) (by rw [hK]; kernel_rfl) ?_ ?_ ?_ ?_
  · refine Exs.cons ?_ ?_
    refine Ex.expr ?_
    refine Ev.meth C (cls_RangeMap hK) (A_RangeMap_put hK) (T_RangeMap_put hK) (P_RangeMap_put hK) (Cal.ofFn ((X_RangeMap_put C hK).weaken (by decide))) ?_ ?_ (pl := _) (by intro _; rfl)
    refine Ev.meth C (cls_Data hK) (A_Data_map_of hK) (T_Data_map_of hK) (P_Data_map_of hK) (Cal.ofFn ((X_Data_map_of C hK).weaken (by decide))) ?_ ?_ (pl := _) (by intro _; rfl)
    exact Lo
    refine EvL.cons ?_ ?_
    exact Lo
    exact EvL.nil
    refine EvL.cons ?_ ?_
    exact Lo
    refine EvL.cons ?_ ?_
    exact Lo
    refine EvL.cons ?_ ?_
    exact Lo
    exact EvL.nil
    exact Exs.nil
  · exact m5 fun _ _ _ _ _ => rfl
  · decide +kernel
  · decide +kernel
noncomputable def F_law_deck : FnF := fnF ["script"] (xCons (xAssign (eTup (lCons (eComp (eSlice (eN "script") pNo (pSo (eC (.int 24))) pNo) [] (aN "cell") tTrue (eCall intF (lCons (eN "cell") lNil)) FU) (lCons (eC (.int 6617)) lNil))) (aRev ["cells", "mixed"])) (xCons (xFor (eN "cells") (aN "cell") (xCons (xAssign (eBin (intB modF) (eBin addF (eBin addF (eBin (intB mulF) (eN "mixed") (eC (.int 48271))) (eBin (intB modF) (eN "cell") (eC (.int 2147483629)))) (eC (.int 6617))) (eC (.int 2147483587))) (aN "mixed")) xNil) FU) (xCons (xRet (eDict (dCons "cells" (eSlice (eN "cells") pNo pNo (pSo (eNeg (eC (.int 1))))) (dCons "mixed" (eN "mixed") (dCons "turn" (eC (.int 0)) dNil))))) xNil)))
set_option maxHeartbeats 400000 in
theorem X_law_deck {c : Cx} (C : c.Ok) (hK : c.K = hd.heap_1 c.w.params) : Fn c 1 (.ref 282) F_law_deck := by
  refine Fn.plain (n := 0) C (by rw [hK]; rfl) (by rw [hK]; kernel_rfl) ?_ ?_ ?_ ?_
  · refine Exs.cons ?_ ?_
    refine Ex.asw (xs := ["cells", "mixed"]) ?_ (by rfl) (by rfl) (by decide +kernel)
    refine Ev.tuple ?_
    refine EvL.cons ?_ ?_
    refine Ev.comp [] FU ⟨by decide +kernel, by rfl, by decide +kernel, by decide +kernel, by decide +kernel⟩ ?_ ?_ ?_ ?_
    refine Ev.slice ?_ ?_ ?_ ?_
    exact Lo
    exact EvP.no
    refine EvP.so ?_
    exact Ev.cint
    exact EvP.no
    exact AsC.name (by decide +kernel)
    exact Te.nil
    refine Ev.call C (G_int C hK (by decide +kernel)) .type int_cal ?_
    refine EvL.cons ?_ ?_
    exact Lo
    exact EvL.nil
    refine EvL.consC ?_ ?_
    exact Ev.cint
    exact EvL.nil
    refine Exs.cons ?_ ?_
    refine Ex.for FU ?_ ?_ ?_
    exact Lo
    exact An
    refine Exs.cons ?_ ?_
    refine Ex.asg ?_ ?_ (by rfl) (by rfl)
    refine Ev.bin mod_rule ?_ ?_
    refine Ev.bin add_rule ?_ ?_
    refine Ev.bin add_rule ?_ ?_
    refine Ev.bin mul_rule ?_ ?_
    exact Lo
    exact Ev.cint
    refine Ev.bin mod_rule ?_ ?_
    exact Lo
    exact Ev.cint
    exact Ev.cint
    exact Ev.cint
    exact An
    exact Exs.nil
    refine Exs.cons ?_ ?_
    refine Ex.ret ?_
    refine Ev.dict' ?_ ?_ ?_ ?_
    refine EvD.cons' ?_ ?_
    refine Ev.slice ?_ ?_ ?_ ?_
    exact Lo
    exact EvP.no
    exact EvP.no
    refine EvP.so ?_
    refine Ev.neg ?_
    exact Ev.cint
    refine EvD.cons' ?_ ?_
    exact Lo
    refine EvD.cons' ?_ ?_
    exact Ev.cint
    exact EvD.nil'
    exact List.cons_ne_nil _ _
    exact Nat.le_of_ble_eq_true rfl
    exact rfl
    exact Exs.nil
  · exact m1 fun _ => rfl
  · decide +kernel
  · decide +kernel
noncomputable def F_law_draw : FnF := fnF ["deck", "below"] (xCons (xAssign (eBin addF (eSub (eN "deck") (eC (.str "turn"))) (eC (.int 1))) (aSub (eN "deck") (eC (.str "turn")))) (xCons (xAssign (eBin addF (eSub (eN "deck") (eC (.str "mixed"))) (eBin (intB mulF) (eBin (intB mulF) (eC (.int 66617)) (eSub (eN "deck") (eC (.str "turn")))) (eSub (eN "deck") (eC (.str "turn"))))) (aN "figure")) (xCons (xIf (tCmp neF (eSub (eN "deck") (eC (.str "cells"))) (eLst lNil)) (xCons (xAssign (eMethL popF (eSub (eN "deck") (eC (.str "cells"))) lNil) (aN "cell")) (xCons (xIf (tCmp geF (eN "cell") (eC (.int 1000000))) (xCons (xExpr (eMethL appendF (eSub (eN "deck") (eC (.str "cells"))) (lCons (eBin (intB divF) (eN "cell") (eN "below")) lNil))) (xCons (xRet (eBin (intB modF) (eN "cell") (eN "below"))) xNil)) xNil) (xCons (xAssign (eBin addF (eN "figure") (eBin (intB modF) (eN "cell") (eC (.int 2147483563)))) (aN "figure")) xNil))) xNil) (xCons (xAssign (eBin (intB modF) (eBin (intB mulF) (eBin (intB modF) (eN "figure") (eC (.int 2147483629))) (eC (.int 40692))) (eC (.int 2147483647))) (aN "figure")) (xCons (xAssign (eBin (intB modF) (eBin addF (eBin (intB mulF) (eN "figure") (eN "figure")) (eC (.int 6619))) (eC (.int 2147483587))) (aN "figure")) (xCons (xRet (eBin (intB modF) (eBin (intB divF) (eBin (intB modF) (eBin (intB mulF) (eN "figure") (eC (.int 39373))) (eC (.int 2147483579))) (eC (.int 64))) (eN "below"))) xNil))))))
set_option maxHeartbeats 400000 in
theorem X_law_draw {c : Cx} (C : c.Ok) (hK : c.K = hd.heap_1 c.w.params) : Fn c 1 (.ref 289) F_law_draw := by
  refine Fn.plain (n := 0) C (by rw [hK]; rfl) (by rw [hK]; kernel_rfl) ?_ ?_ ?_ ?_
  · refine Exs.cons ?_ ?_
    refine Ex.asg ?_ ?_ (by rfl) (by rfl)
    refine Ev.bin add_rule ?_ ?_
    refine Ev.sub C ?_ ?_
    exact Lo
    exact Ev.cstr
    exact Ev.cint
    refine As.sub ?_ ?_
    exact Lo
    exact Ev.cstr
    refine Exs.cons ?_ ?_
    refine Ex.asg ?_ ?_ (by rfl) (by rfl)
    refine Ev.bin add_rule ?_ ?_
    refine Ev.sub C ?_ ?_
    exact Lo
    exact Ev.cstr
    refine Ev.bin mul_rule ?_ ?_
    refine Ev.bin mul_rule ?_ ?_
    exact Ev.cint
    refine Ev.sub C ?_ ?_
    exact Lo
    exact Ev.cstr
    refine Ev.sub C ?_ ?_
    exact Lo
    exact Ev.cstr
    exact An
    refine Exs.cons ?_ ?_
    refine Ex.ite ?_ ?_ ?_
    refine Tr.cmp ne_rule ?_ ?_
    refine Ev.sub C ?_ ?_
    exact Lo
    exact Ev.cstr
    refine Ev.list ?_
    exact EvL.nil
    refine Exs.cons ?_ ?_
    refine Ex.asg ?_ ?_ (by rfl) (by rfl)
    refine Ev.methL C pop_meth ?_ ?_ (pl := _) (by intro _; rfl)
    refine Ev.sub C ?_ ?_
    exact Lo
    exact Ev.cstr
    exact EvL.nil
    exact An
    refine Exs.cons ?_ ?_
    refine Ex.ite ?_ ?_ ?_
    refine Tr.cmp ge_rule ?_ ?_
    exact Lo
    exact Ev.cint
    refine Exs.cons ?_ ?_
    refine Ex.expr ?_
    refine Ev.methL C append_meth ?_ ?_ (pl := _) (by intro _; rfl)
    refine Ev.sub C ?_ ?_
    exact Lo
    exact Ev.cstr
    refine EvL.cons ?_ ?_
    refine Ev.bin div_rule ?_ ?_
    exact Lo
    exact Lo
    exact EvL.nil
    refine Exs.cons ?_ ?_
    refine Ex.ret ?_
    refine Ev.bin mod_rule ?_ ?_
    exact Lo
    exact Lo
    exact Exs.nil
    exact Exs.nil
    refine Exs.cons ?_ ?_
    refine Ex.asg ?_ ?_ (by rfl) (by rfl)
    refine Ev.bin add_rule ?_ ?_
    exact Lo
    refine Ev.bin mod_rule ?_ ?_
    exact Lo
    exact Ev.cint
    exact An
    exact Exs.nil
    exact Exs.nil
    refine Exs.cons ?_ ?_
    refine Ex.asg ?_ ?_ (by rfl) (by rfl)
    refine Ev.bin mod_rule ?_ ?_
    refine Ev.bin mul_rule ?_ ?_
    refine Ev.bin mod_rule ?_ ?_
    exact Lo
    exact Ev.cint
    exact Ev.cint
    exact Ev.cint
    exact An
    refine Exs.cons ?_ ?_
    refine Ex.asg ?_ ?_ (by rfl) (by rfl)
    refine Ev.bin mod_rule ?_ ?_
    refine Ev.bin add_rule ?_ ?_
    refine Ev.bin mul_rule ?_ ?_
    exact Lo
    exact Lo
    exact Ev.cint
    exact Ev.cint
    exact An
    refine Exs.cons ?_ ?_
    refine Ex.ret ?_
    refine Ev.bin mod_rule ?_ ?_
    refine Ev.bin div_rule ?_ ?_
    refine Ev.bin mod_rule ?_ ?_
    refine Ev.bin mul_rule ?_ ?_
    exact Lo
    exact Ev.cint
    exact Ev.cint
    exact Ev.cint
    exact Lo
    exact Exs.nil
  · exact m2 fun _ _ => rfl
  · decide +kernel
  · decide +kernel
noncomputable def F_law_pick : FnF := fnF ["deck", "some"] (xCons (xRet (eSub (eN "some") (eCall F_law_draw (lCons (eN "deck") (lCons (eCall lenF (lCons (eN "some") lNil)) lNil))))) xNil)
set_option maxHeartbeats 400000 in
theorem X_law_pick {c : Cx} (C : c.Ok) (hK : c.K = hd.heap_1 c.w.params) : Fn c 2 (.ref 296) F_law_pick := by
  refine Fn.plain (n := 1) C (by rw [hK]; rfl) (by rw [hK]; kernel_rfl) ?_ ?_ ?_ ?_
  · refine Exs.cons ?_ ?_
    refine Ex.ret ?_
    refine Ev.sub C ?_ ?_
    exact Lo
    refine Ev.call C (G_law_draw C hK (by decide +kernel)) (.ofK (P_law_draw hK)) (Cal.ofFn ((X_law_draw C hK).weaken (by decide))) ?_
    refine EvL.cons ?_ ?_
    exact Lo
    refine EvL.cons ?_ ?_
    refine Ev.call C (G_len C hK (by decide +kernel)) .builtin len_cal ?_
    refine EvL.cons ?_ ?_
    exact Lo
    exact EvL.nil
    exact EvL.nil
    exact Exs.nil
  · exact m2 fun _ _ => rfl
  · decide +kernel
  · decide +kernel
noncomputable def F_law_kinds : FnF := fnF [] (xCons (xRet (eLst (lCons (eC (.str "Other")) (lCons (eC (.str "CR")) (lCons (eC (.str "LF")) (lCons (eC (.str "Sep")) (lCons (eC (.str "Extend")) (lCons (eC (.str "Format")) (lCons (eC (.str "Sp")) (lCons (eC (.str "Lower")) (lCons (eC (.str "Upper")) (lCons (eC (.str "OLetter")) (lCons (eC (.str "Numeric")) (lCons (eC (.str "ATerm")) (lCons (eC (.str "STerm")) (lCons (eC (.str "Close")) (lCons (eC (.str "SContinue")) lNil))))))))))))))))) xNil)
set_option maxHeartbeats 400000 in
theorem X_law_kinds {c : Cx} (C : c.Ok) (hK : c.K = hd.heap_1 c.w.params) : Fn c 1 (.ref 303) F_law_kinds := by
  refine Fn.plain (n := 0) C (by rw [hK]; rfl) (by rw [hK]; kernel_rfl) ?_ ?_ ?_ ?_
  · refine Exs.cons ?_ ?_
    refine Ex.ret ?_
    refine Ev.list ?_
    refine EvL.consC ?_ ?_
    exact Ev.cstr
    refine EvL.consC ?_ ?_
    exact Ev.cstr
    refine EvL.consC ?_ ?_
    exact Ev.cstr
    refine EvL.consC ?_ ?_
    exact Ev.cstr
    refine EvL.consC ?_ ?_
    exact Ev.cstr
    refine EvL.consC ?_ ?_
    exact Ev.cstr
    refine EvL.consC ?_ ?_
    exact Ev.cstr
    refine EvL.consC ?_ ?_
    exact Ev.cstr
    refine EvL.consC ?_ ?_
    exact Ev.cstr
    refine EvL.consC ?_ ?_
    exact Ev.cstr
    refine EvL.consC ?_ ?_
    exact Ev.cstr
    refine EvL.consC ?_ ?_
    exact Ev.cstr
    refine EvL.consC ?_ ?_
    exact Ev.cstr
    refine EvL.consC ?_ ?_
    exact Ev.cstr
    refine EvL.consC ?_ ?_
    exact Ev.cstr
    exact EvL.nil
    exact Exs.nil
  · exact m0 rfl
  · decide +kernel
  · decide +kernel
noncomputable def F_law_plain : FnF := fnF ["kinds"] (xCons (xAssign (eTup (lCons (eLst lNil) (lCons (eC (.str "Sep")) lNil))) (aRev ["found", "last"])) (xCons (xFor (eN "kinds") (aN "kind") (xCons (xIf (tCmp notInF (eN "kind") (eTup (lCons (eC (.str "Extend")) (lCons (eC (.str "Format")) lNil)))) (xCons (xExpr (eMethL appendF (eN "found") (lCons (eN "kind") lNil))) (xCons (xAssign (eN "kind") (aN "last")) xNil)) (xCons (xIf (tCmp inF (eN "last") (eC V_law_ends)) (xCons (xExpr (eMethL appendF (eN "found") (lCons (eC (.str "Other")) lNil))) (xCons (xAssign (eC (.str "Other")) (aN "last")) xNil)) xNil) xNil)) xNil) FU) (xCons (xRet (eN "found")) xNil)))
set_option maxHeartbeats 400000 in
theorem X_law_plain {c : Cx} (C : c.Ok) (hK : c.K = hd.heap_1 c.w.params) : Fn c 1 (.ref 317) F_law_plain := by
  refine Fn.plain (n := 0) C (by rw [hK]; rfl) (by rw [hK]; kernel_rfl) ?_ ?_ ?_ ?_
  · refine Exs.cons ?_ ?_
    refine Ex.asw (xs := ["found", "last"]) ?_ (by rfl) (by rfl) (by decide +kernel)
    refine Ev.tuple ?_
    refine EvL.cons ?_ ?_
    refine Ev.list ?_
    exact EvL.nil
    refine EvL.consC ?_ ?_
    exact Ev.cstr
    exact EvL.nil
    refine Exs.cons ?_ ?_
    refine Ex.for FU ?_ ?_ ?_
    exact Lo
    exact An
    refine Exs.cons ?_ ?_
    refine Ex.ite ?_ ?_ ?_
    refine Tr.cmp (notIn_rule C) ?_ ?_
    exact Lo
    refine Ev.tuple ?_
    refine EvL.consC ?_ ?_
    exact Ev.cstr
    refine EvL.consC ?_ ?_
    exact Ev.cstr
    exact EvL.nil
    refine Exs.cons ?_ ?_
    refine Ex.expr ?_
    refine Ev.methL C append_meth ?_ ?_ (pl := _) (by intro _; rfl)
    exact Lo
    refine EvL.cons ?_ ?_
    exact Lo
    exact EvL.nil
    refine Exs.cons ?_ ?_
    refine Ex.asg ?_ ?_ (by rfl) (by rfl)
    exact Lo
    exact An
    exact Exs.nil
    refine Exs.cons ?_ ?_
    refine Ex.ite ?_ ?_ ?_
    refine Tr.cmp (in_rule C) ?_ ?_
    exact Lo
    exact G_law_ends C hK (by decide +kernel)
    refine Exs.cons ?_ ?_
    refine Ex.expr ?_
    refine Ev.methL C append_meth ?_ ?_ (pl := _) (by intro _; rfl)
    exact Lo
    refine EvL.consC ?_ ?_
    exact Ev.cstr
    exact EvL.nil
    refine Exs.cons ?_ ?_
    refine Ex.asg ?_ ?_ (by rfl) (by rfl)
    exact Ev.cstr
    exact An
    exact Exs.nil
    exact Exs.nil
    exact Exs.nil
    exact Exs.nil
    refine Exs.cons ?_ ?_
    refine Ex.ret ?_
    exact Lo
    exact Exs.nil
  · exact m1 fun _ => rfl
  · decide +kernel
  · decide +kernel
noncomputable def F_law_behind : FnF := fnF ["plain"] (xCons (xAssign (eTup (lCons (eCall lenF (lCons (eN "plain") lNil)) (lCons (eC (.bool false)) (lCons (eC (.bool false)) lNil)))) (aRev ["at", "is_blank", "is_closed"])) (xCons (whileF (tAnd (tCmp gtF (eN "at") (eC (.int 0))) (tAnd (tCmp eqF (eSub (eN "plain") (eBin subF (eN "at") (eC (.int 1)))) (eC (.str "Sp"))) tTrue)) (xCons (xAssign (eTup (lCons (eBin subF (eN "at") (eC (.int 1))) (lCons (eC (.bool true)) lNil))) (aRev ["at", "is_blank"])) xNil) FU) (xCons (whileF (tAnd (tCmp gtF (eN "at") (eC (.int 0))) (tAnd (tCmp eqF (eSub (eN "plain") (eBin subF (eN "at") (eC (.int 1)))) (eC (.str "Close"))) tTrue)) (xCons (xAssign (eTup (lCons (eBin subF (eN "at") (eC (.int 1))) (lCons (eC (.bool true)) lNil))) (aRev ["at", "is_closed"])) xNil) FU) (xCons (xRet (eIf (tAnd (tCmp gtF (eN "at") (eC (.int 0))) (tAnd (tCmp inF (eSub (eN "plain") (eBin subF (eN "at") (eC (.int 1)))) (eTup (lCons (eC (.str "ATerm")) (lCons (eC (.str "STerm")) lNil)))) tTrue)) (eTup (lCons (eSub (eN "plain") (eBin subF (eN "at") (eC (.int 1)))) (lCons (eN "is_closed") (lCons (eN "is_blank") lNil)))) (eC .none))) xNil))))
set_option maxHeartbeats 400000 in
theorem X_law_behind {c : Cx} (C : c.Ok) (hK : c.K = hd.heap_1 c.w.params) : Fn c 1 (.ref 324) F_law_behind := by
  refine Fn.plain (n := 0) C (by rw [hK]; rfl) (by rw [hK]; kernel_rfl) ?_ ?_ ?_ ?_
  · refine Exs.cons ?_ ?_
    refine Ex.asw (xs := ["at", "is_blank", "is_closed"]) ?_ (by rfl) (by rfl) (by decide +kernel)
    refine Ev.tuple ?_
    refine EvL.cons ?_ ?_
    refine Ev.call C (G_len C hK (by decide +kernel)) .builtin len_cal ?_
    refine EvL.cons ?_ ?_
    exact Lo
    exact EvL.nil
    refine EvL.consC ?_ ?_
    exact Ev.cbool
    refine EvL.consC ?_ ?_
    exact Ev.cbool
    exact EvL.nil
    refine Exs.cons ?_ ?_
    refine Ex.while (k := FU) ?_ ?_
    refine Tr.and ?_ ?_
    refine Tr.cmp gt_rule ?_ ?_
    exact Lo
    exact Ev.cint
    refine Tr.and ?_ ?_
    refine Tr.cmp eq_rule ?_ ?_
    refine Ev.sub C ?_ ?_
    exact Lo
    refine Ev.bin sub_rule ?_ ?_
    exact Lo
    exact Ev.cint
    exact Ev.cstr
    exact Tr.and0
    refine Exs.cons ?_ ?_
    refine Ex.asw (xs := ["at", "is_blank"]) ?_ (by rfl) (by rfl) (by decide +kernel)
    refine Ev.tuple ?_
    refine EvL.cons ?_ ?_
    refine Ev.bin sub_rule ?_ ?_
    exact Lo
    exact Ev.cint
    refine EvL.consC ?_ ?_
    exact Ev.cbool
    exact EvL.nil
    exact Exs.nil
    refine Exs.cons ?_ ?_
    refine Ex.while (k := FU) ?_ ?_
    refine Tr.and ?_ ?_
    refine Tr.cmp gt_rule ?_ ?_
    exact Lo
    exact Ev.cint
    refine Tr.and ?_ ?_
    refine Tr.cmp eq_rule ?_ ?_
    refine Ev.sub C ?_ ?_
    exact Lo
    refine Ev.bin sub_rule ?_ ?_
    exact Lo
    exact Ev.cint
    exact Ev.cstr
    exact Tr.and0
    refine Exs.cons ?_ ?_
    refine Ex.asw (xs := ["at", "is_closed"]) ?_ (by rfl) (by rfl) (by decide +kernel)
    refine Ev.tuple ?_
    refine EvL.cons ?_ ?_
    refine Ev.bin sub_rule ?_ ?_
    exact Lo
    exact Ev.cint
    refine EvL.consC ?_ ?_
    exact Ev.cbool
    exact EvL.nil
    exact Exs.nil
    refine Exs.cons ?_ ?_
    refine Ex.ret ?_
    refine Ev.ifExp ?_ ?_ ?_
    refine Tr.and ?_ ?_
    refine Tr.cmp gt_rule ?_ ?_
    exact Lo
    exact Ev.cint
    refine Tr.and ?_ ?_
    refine Tr.cmp (in_rule C) ?_ ?_
    refine Ev.sub C ?_ ?_
    exact Lo
    refine Ev.bin sub_rule ?_ ?_
    exact Lo
    exact Ev.cint
    refine Ev.tuple ?_
    refine EvL.consC ?_ ?_
    exact Ev.cstr
    refine EvL.consC ?_ ?_
    exact Ev.cstr
    exact EvL.nil
    exact Tr.and0
    refine Ev.tuple ?_
    refine EvL.cons ?_ ?_
    refine Ev.sub C ?_ ?_
    exact Lo
    refine Ev.bin sub_rule ?_ ?_
    exact Lo
    exact Ev.cint
    refine EvL.cons ?_ ?_
    exact Lo
    refine EvL.cons ?_ ?_
    exact Lo
    exact EvL.nil
    exact Ev.cnone
    exact Exs.nil
  · exact m1 fun _ => rfl
  · decide +kernel
  · decide +kernel
noncomputable def F_law_is_end : FnF := fnF ["kinds", "at"] (xCons (xIf (tOr (tCmp eqF (eN "at") (eC (.int 0))) (tOr (tCmp eqF (eN "at") (eCall lenF (lCons (eN "kinds") lNil))) tFalse)) (xCons (xRet (eCmp neF (eN "kinds") (eLst lNil))) xNil) xNil) (xCons (xAssign (eTup (lCons (eSub (eN "kinds") (eBin subF (eN "at") (eC (.int 1)))) (lCons (eSub (eN "kinds") (eN "at")) lNil))) (aRev ["near", "far"])) (xCons (xIf (tAnd (tCmp eqF (eN "near") (eC (.str "CR"))) (tAnd (tCmp eqF (eN "far") (eC (.str "LF"))) tTrue)) (xCons (xRet (eC (.bool false))) xNil) xNil) (xCons (xIf (tCmp inF (eN "near") (eC V_law_ends)) (xCons (xRet (eC (.bool true))) xNil) xNil) (xCons (xIf (tCmp inF (eN "far") (eTup (lCons (eC (.str "Extend")) (lCons (eC (.str "Format")) lNil)))) (xCons (xRet (eC (.bool false))) xNil) xNil) (xCons (xAssign (eTup (lCons (eCall F_law_plain (lCons (eSlice (eN "kinds") pNo (pSo (eN "at")) pNo) lNil)) (lCons (eComp (eSlice (eN "kinds") (pSo (eN "at")) pNo pNo) [] (aN "kind") (tCmp notInF (eN "kind") (eTup (lCons (eC (.str "Extend")) (lCons (eC (.str "Format")) lNil)))) (eN "kind") FU) lNil))) (aRev ["plain", "rest"])) (xCons (xIf (tAnd (tCmp eqF (eSub (eN "plain") (eNeg (eC (.int 1)))) (eC (.str "ATerm"))) (tAnd (tCmp eqF (eN "far") (eC (.str "Numeric"))) tTrue)) (xCons (xRet (eC (.bool false))) xNil) xNil) (xCons (xIf (tAnd (tCmp eqF (eSub (eN "plain") (eNeg (eC (.int 1)))) (eC (.str "ATerm"))) (tAnd (tCmp inF (eSlice (eN "plain") (pSo (eNeg (eC (.int 2)))) (pSo (eNeg (eC (.int 1)))) pNo) (eTup (lCons (eLst (lCons (eC (.str "Upper")) lNil)) (lCons (eLst (lCons (eC (.str "Lower")) lNil)) lNil)))) (tAnd (tCmp eqF (eN "far") (eC (.str "Upper"))) tTrue))) (xCons (xRet (eC (.bool false))) xNil) xNil) (xCons (xAssign (eCall F_law_behind (lCons (eN "plain") lNil)) (aN "told")) (xCons (xIf (tCmp isF (eN "told") (eC .none)) (xCons (xRet (eC (.bool false))) xNil) xNil) (xCons (xIf (tCmp eqF (eSub (eN "told") (eC (.int 0))) (eC (.str "ATerm"))) (xCons (xAssign (eComp (eN "rest") [] (aN "kind") (tOr (tCmp inF (eN "kind") (eTup (lCons (eC (.str "OLetter")) (lCons (eC (.str "Upper")) (lCons (eC (.str "Lower")) (lCons (eC (.str "ATerm")) (lCons (eC (.str "STerm")) lNil))))))) (tOr (tCmp inF (eN "kind") (eC V_law_ends)) tFalse)) (eN "kind") FU) (aN "weighty")) (xCons (xIf (tCmp eqF (eSlice (eN "weighty") pNo (pSo (eC (.int 1))) pNo) (eLst (lCons (eC (.str "Lower")) lNil))) (xCons (xRet (eC (.bool false))) xNil) xNil) xNil)) xNil) (xCons (xIf (tCmp inF (eN "far") (eTup (lCons (eC (.str "SContinue")) (lCons (eC (.str "ATerm")) (lCons (eC (.str "STerm")) lNil))))) (xCons (xRet (eC (.bool false))) xNil) xNil) (xCons (xIf (tAnd (tNot (eT (eSub (eN "told") (eC (.int 2))))) (tAnd (tCmp eqF (eN "far") (eC (.str "Close"))) tTrue)) (xCons (xRet (eC (.bool false))) xNil) xNil) (xCons (xRet (eAnd (eCmp neF (eN "far") (eC (.str "Sp"))) (eCmp notInF (eN "far") (eC V_law_ends)))) xNil))))))))))))))
set_option maxHeartbeats 400000 in
theorem X_law_is_end {c : Cx} (C : c.Ok) (hK : c.K = hd.heap_1 c.w.params) : Fn c 2 (.ref 329) F_law_is_end := by
  refine Fn.plain (n := 1) C (by rw [hK]; rfl) (by rw [hK]; kernel_rfl) ?_ ?_ ?_ ?_
  · refine Exs.cons ?_ ?_
    refine Ex.ite ?_ ?_ ?_
    refine Tr.or ?_ ?_
    refine Tr.cmp eq_rule ?_ ?_
    exact Lo
    exact Ev.cint
    refine Tr.or ?_ ?_
    refine Tr.cmp eq_rule ?_ ?_
    exact Lo
    refine Ev.call C (G_len C hK (by decide +kernel)) .builtin len_cal ?_
    refine EvL.cons ?_ ?_
    exact Lo
    exact EvL.nil
    exact Tr.or0
    refine Exs.cons ?_ ?_
    refine Ex.ret ?_
    refine Ev.cmp ne_rule ?_ ?_
    exact Lo
    refine Ev.list ?_
    exact EvL.nil
    exact Exs.nil
    exact Exs.nil
    refine Exs.cons ?_ ?_
    refine Ex.asw (xs := ["near", "far"]) ?_ (by rfl) (by rfl) (by decide +kernel)
    refine Ev.tuple ?_
    refine EvL.cons ?_ ?_
    refine Ev.sub C ?_ ?_
    exact Lo
    refine Ev.bin sub_rule ?_ ?_
    exact Lo
    exact Ev.cint
    refine EvL.cons ?_ ?_
    refine Ev.sub C ?_ ?_
    exact Lo
    exact Lo
    exact EvL.nil
    refine Exs.cons ?_ ?_
    refine Ex.ite ?_ ?_ ?_
    refine Tr.and ?_ ?_
    refine Tr.cmp eq_rule ?_ ?_
    exact Lo
    exact Ev.cstr
    refine Tr.and ?_ ?_
    refine Tr.cmp eq_rule ?_ ?_
    exact Lo
    exact Ev.cstr
    exact Tr.and0
    refine Exs.cons ?_ ?_
    refine Ex.ret ?_
    exact Ev.cbool
    exact Exs.nil
    exact Exs.nil
    refine Exs.cons ?_ ?_
    refine Ex.ite ?_ ?_ ?_
    refine Tr.cmp (in_rule C) ?_ ?_
    exact Lo
    exact G_law_ends C hK (by decide +kernel)
    refine Exs.cons ?_ ?_
    refine Ex.ret ?_
    exact Ev.cbool
    exact Exs.nil
    exact Exs.nil
    refine Exs.cons ?_ ?_
    refine Ex.ite ?_ ?_ ?_
    refine Tr.cmp (in_rule C) ?_ ?_
    exact Lo
    refine Ev.tuple ?_
    refine EvL.consC ?_ ?_
    exact Ev.cstr
    refine EvL.consC ?_ ?_
    exact Ev.cstr
    exact EvL.nil
    refine Exs.cons ?_ ?_
    refine Ex.ret ?_
    exact Ev.cbool
    exact Exs.nil
    exact Exs.nil
    refine Exs.cons ?_ ?_
    refine Ex.asw (xs := ["plain", "rest"]) ?_ (by rfl) (by rfl) (by decide +kernel)
    refine Ev.tuple ?_
    refine EvL.cons ?_ ?_
    refine Ev.call C (G_law_plain C hK (by decide +kernel)) (.ofK (P_law_plain hK)) (Cal.ofFn ((X_law_plain C hK).weaken (by decide))) ?_
    refine EvL.cons ?_ ?_
    refine Ev.slice ?_ ?_ ?_ ?_
    exact Lo
    exact EvP.no
    refine EvP.so ?_
    exact Lo
    exact EvP.no
    exact EvL.nil
    refine EvL.cons ?_ ?_
    refine Ev.comp [] FU ⟨by decide +kernel, by rfl, by decide +kernel, by decide +kernel, by decide +kernel⟩ ?_ ?_ ?_ ?_
    refine Ev.slice ?_ ?_ ?_ ?_
    exact Lo
    refine EvP.so ?_
    exact Lo
    exact EvP.no
    exact EvP.no
    exact AsC.name (by decide +kernel)
    refine Te.one ?_
    refine Tr.cmp (notIn_rule C) ?_ ?_
    exact Lo
    refine Ev.tuple ?_
    refine EvL.consC ?_ ?_
    exact Ev.cstr
    refine EvL.consC ?_ ?_
    exact Ev.cstr
    exact EvL.nil
    exact Lo
    exact EvL.nil
    refine Exs.cons ?_ ?_
    refine Ex.ite ?_ ?_ ?_
    refine Tr.and ?_ ?_
    refine Tr.cmp eq_rule ?_ ?_
    refine Ev.sub C ?_ ?_
    exact Lo
    refine Ev.neg ?_
    exact Ev.cint
    exact Ev.cstr
    refine Tr.and ?_ ?_
    refine Tr.cmp eq_rule ?_ ?_
    exact Lo
    exact Ev.cstr
    exact Tr.and0
    refine Exs.cons ?_ ?_
    refine Ex.ret ?_
    exact Ev.cbool
    exact Exs.nil
    exact Exs.nil
    refine Exs.cons ?_ ?_
    refine Ex.ite ?_ ?_ ?_
    refine Tr.and ?_ ?_
    refine Tr.cmp eq_rule ?_ ?_
    refine Ev.sub C ?_ ?_
    exact Lo
    refine Ev.neg ?_
    exact Ev.cint
    exact Ev.cstr
    refine Tr.and ?_ ?_
    refine Tr.cmp (in_rule C) ?_ ?_
    refine Ev.slice ?_ ?_ ?_ ?_
    exact Lo
    refine EvP.so ?_
    refine Ev.neg ?_
    exact Ev.cint
    refine EvP.so ?_
    refine Ev.neg ?_
    exact Ev.cint
    exact EvP.no
    refine Ev.tuple ?_
    refine EvL.cons ?_ ?_
    refine Ev.list ?_
    refine EvL.consC ?_ ?_
    exact Ev.cstr
    exact EvL.nil
    refine EvL.cons ?_ ?_
    refine Ev.list ?_
    refine EvL.consC ?_ ?_
    exact Ev.cstr
    exact EvL.nil
    exact EvL.nil
    refine Tr.and ?_ ?_
    refine Tr.cmp eq_rule ?_ ?_
    exact Lo
    exact Ev.cstr
    exact Tr.and0
    refine Exs.cons ?_ ?_
    refine Ex.ret ?_
    exact Ev.cbool
    exact Exs.nil
    exact Exs.nil
    refine Exs.cons ?_ ?_
    refine Ex.asg ?_ ?_ (by rfl) (by rfl)
    refine Ev.call C (G_law_behind C hK (by decide +kernel)) (.ofK (P_law_behind hK)) (Cal.ofFn ((X_law_behind C hK).weaken (by decide))) ?_
    refine EvL.cons ?_ ?_
    exact Lo
    exact EvL.nil
    exact An
    refine Exs.cons ?_ ?_
    refine Ex.ite ?_ ?_ ?_
    refine Tr.cmp is_rule ?_ ?_
    exact Lo
    exact Ev.cnone
    refine Exs.cons ?_ ?_
    refine Ex.ret ?_
    exact Ev.cbool
    exact Exs.nil
    exact Exs.nil
    refine Exs.cons ?_ ?_
    refine Ex.ite ?_ ?_ ?_
    refine Tr.cmp eq_rule ?_ ?_
    refine Ev.sub C ?_ ?_
    exact Lo
    exact Ev.cint
    exact Ev.cstr
    refine Exs.cons ?_ ?_
    refine Ex.acomp [] FU ⟨by decide +kernel, by rfl, by decide +kernel, by decide +kernel, by decide +kernel⟩ (by decide +kernel) ?_ ?_ ?_ ?_ (by rfl)
    exact Lo
    exact AsC.name (by decide +kernel)
    refine Te.one ?_
    refine Tr.or ?_ ?_
    refine Tr.cmp (in_rule C) ?_ ?_
    exact Lo
    refine Ev.tuple ?_
    refine EvL.consC ?_ ?_
    exact Ev.cstr
    refine EvL.consC ?_ ?_
    exact Ev.cstr
    refine EvL.consC ?_ ?_
    exact Ev.cstr
    refine EvL.consC ?_ ?_
    exact Ev.cstr
    refine EvL.consC ?_ ?_
    exact Ev.cstr
    exact EvL.nil
    refine Tr.or ?_ ?_
    refine Tr.cmp (in_rule C) ?_ ?_
    exact Lo
    exact G_law_ends C hK (by decide +kernel)
    exact Tr.or0
    exact Lo
    refine Exs.cons ?_ ?_
    refine Ex.ite ?_ ?_ ?_
    refine Tr.cmp eq_rule ?_ ?_
    refine Ev.slice ?_ ?_ ?_ ?_
    exact Lo
    exact EvP.no
    refine EvP.so ?_
    exact Ev.cint
    exact EvP.no
    refine Ev.list ?_
    refine EvL.consC ?_ ?_
    exact Ev.cstr
    exact EvL.nil
    refine Exs.cons ?_ ?_
    refine Ex.ret ?_
    exact Ev.cbool
    exact Exs.nil
    exact Exs.nil
    exact Exs.nil
    exact Exs.nil
    refine Exs.cons ?_ ?_
    refine Ex.ite ?_ ?_ ?_
    refine Tr.cmp (in_rule C) ?_ ?_
    exact Lo
    refine Ev.tuple ?_
    refine EvL.consC ?_ ?_
    exact Ev.cstr
    refine EvL.consC ?_ ?_
    exact Ev.cstr
    refine EvL.consC ?_ ?_
    exact Ev.cstr
    exact EvL.nil
    refine Exs.cons ?_ ?_
    refine Ex.ret ?_
    exact Ev.cbool
    exact Exs.nil
    exact Exs.nil
    refine Exs.cons ?_ ?_
    refine Ex.ite ?_ ?_ ?_
    refine Tr.and ?_ ?_
    refine Tr.not ?_
    refine Tr.val ?_
    refine Ev.sub C ?_ ?_
    exact Lo
    exact Ev.cint
    refine Tr.and ?_ ?_
    refine Tr.cmp eq_rule ?_ ?_
    exact Lo
    exact Ev.cstr
    exact Tr.and0
    refine Exs.cons ?_ ?_
    refine Ex.ret ?_
    exact Ev.cbool
    exact Exs.nil
    exact Exs.nil
    refine Exs.cons ?_ ?_
    refine Ex.ret ?_
    refine Ev.and ?_ ?_
    refine Ev.cmp ne_rule ?_ ?_
    exact Lo
    exact Ev.cstr
    refine Ev.one ?_
    refine Ev.cmp (notIn_rule C) ?_ ?_
    exact Lo
    exact G_law_ends C hK (by decide +kernel)
    exact Exs.nil
  · exact m2 fun _ _ => rfl
  · decide +kernel
  · decide +kernel
noncomputable def F_law : FnF := fnF ["script"] (xCons (xAssign (eCall F_law_deck (lCons (eN "script") lNil)) (aN "deck")) (xCons (xIf (tCmp eqF (eCall F_law_draw (lCons (eN "deck") (lCons (eC (.int 4)) lNil))) (eC (.int 0))) (xCons (xAssign (eCall listF (lCons (eCall F_law_pick (lCons (eN "deck") (lCons (eC V_law_known) lNil))) lNil)) (aN "kinds")) xNil) (xCons (xAssign (eLst lNil) (aN "kinds")) (xCons (xFor (eCall rangeF (lCons (eCall F_law_draw (lCons (eN "deck") (lCons (eC (.int 8)) lNil))) lNil)) (aN "turn") (xCons (xAssign (eIf (tCmp gtF (eCall F_law_draw (lCons (eN "deck") (lCons (eC (.int 3)) lNil))) (eC (.int 0))) (eCall F_law_pick (lCons (eN "deck") (lCons (eC V_law_often) lNil))) (eCall F_law_draw (lCons (eN "deck") (lCons (eC (.int 15)) lNil)))) (aN "number")) (xCons (xExpr (eMethL appendF (eN "kinds") (lCons (eSub (eCall F_law_kinds lNil) (eN "number")) lNil))) xNil)) FU) xNil))) (xCons (xAssign (eTup (lCons (eCall (newF 273 F_Data___init__) lNil) (lCons (eComp (eN "kinds") [] (aN "kind") tTrue (eBin addF (eC (.int 100)) (eMethL indexF (eCall F_law_kinds lNil) (lCons (eN "kind") lNil))) FU) lNil))) (aTup (aCons (aN "data") (aCons (aN "text") aNil)))) (xCons (xEnum (eCall F_law_kinds lNil) (aTup (aCons (aN "number") (aCons (aN "kind") aNil))) (xCons (xIf (tAnd (tCmp inF (eN "kind") (eN "kinds")) (tAnd (tCmp gtF (eN "number") (eC (.int 0))) tTrue)) (xCons (xExpr (eMeth 273 "put" F_Data_put (eN "data") (lCons (eC (.str "sb")) (lCons (eBin addF (eC (.int 100)) (eN "number")) (lCons (eBin addF (eC (.int 100)) (eN "number")) (lCons (eN "kind") lNil)))))) xNil) xNil) xNil) FU) (xCons (xAssign (eComp (eCall rangeF (lCons (eBin addF (eCall lenF (lCons (eN "kinds") lNil)) (eC (.int 1))) lNil)) ["kinds"] (aN "at") (eT (eCall F_law_is_end (lCons (eN "kinds") (lCons (eN "at") lNil)))) (eN "at") FU) (aN "due")) (xCons (xIf (tOr (tCmp neF (eComp (eCall rangeF (lCons (eBin addF (eCall lenF (lCons (eN "kinds") lNil)) (eC (.int 1))) lNil)) ["text", "data"] (aN "at") (eT (eCall F_sentence_break (lCons (eN "text") (lCons (eN "at") (lCons (eN "data") lNil))))) (eN "at") FU) (eN "due")) (tOr (tCmp neF (eCall listF (lCons (eCall F_sentence_places (lCons (eN "text") (lCons (eN "data") lNil))) lNil)) (eN "due")) tFalse)) (xCons (xRet (eC (.bool false))) xNil) xNil) (xCons (xIf (tCmp neF (eComp (eCall F_sentences (lCons (eN "text") (lCons (eN "data") lNil))) [] (aN "pair") tTrue (eCall tupleF (lCons (eN "pair") lNil)) FU) (eZip (eN "due") (eSlice (eN "due") (pSo (eC (.int 1))) pNo pNo))) (xCons (xRet (eC (.bool false))) xNil) xNil) (xCons (xAssign (eBin subF (eCall F_law_draw (lCons (eN "deck") (lCons (eBin addF (eCall lenF (lCons (eN "kinds") lNil)) (eC (.int 3))) lNil))) (eC (.int 1))) (aN "at")) (xCons (xAssign (eTup (lCons (eComp (eN "due") ["at"] (aN "place") (tCmp gtF (eN "place") (eN "at")) (eN "place") FU) (lCons (eComp (eN "due") ["at"] (aN "place") (tCmp ltF (eN "place") (eN "at")) (eN "place") FU) lNil))) (aRev ["later", "sooner"])) (xCons (xIf (tCmp neF (eCall F_sentence_next (lCons (eN "text") (lCons (eN "at") (lCons (eN "data") lNil)))) (eIf (tCmp neF (eN "later") (eLst lNil)) (eSub (eN "later") (eC (.int 0))) (eC .none))) (xCons (xRet (eC (.bool false))) xNil) xNil) (xCons (xRet (eCmp eqF (eCall F_sentence_previous (lCons (eN "text") (lCons (eN "at") (lCons (eN "data") lNil)))) (eIf (tCmp neF (eN "sooner") (eLst lNil)) (eSub (eN "sooner") (eNeg (eC (.int 1)))) (eC .none)))) xNil)))))))))))
set_option maxHeartbeats 400000 in
theorem X_law {c : Cx} (C : c.Ok) (hK : c.K = hd.heap_1 c.w.params) : Fn c 9 (.ref 334) F_law := by
  refine Fn.cells (n := 8) C (by rw [hK]; rfl) (by rw [hK]; kernel_rfl) ?_ ?_ ?_
  · refine Exs.cons ?_ ?_
    refine Ex.asg ?_ ?_ (by rfl) (by rfl)
    refine Ev.call C (G_law_deck C hK (by decide +kernel)) (.ofK (P_law_deck hK)) (Cal.ofFn ((X_law_deck C hK).weaken (by decide))) ?_
    refine EvL.cons ?_ ?_
    exact Lo
    exact EvL.nil
    exact An
    refine Exs.cons ?_ ?_
    refine Ex.ite ?_ ?_ ?_
    refine Tr.cmp eq_rule ?_ ?_
    refine Ev.call C (G_law_draw C hK (by decide +kernel)) (.ofK (P_law_draw hK)) (Cal.ofFn ((X_law_draw C hK).weaken (by decide))) ?_
    refine EvL.cons ?_ ?_
    exact Lo
    refine EvL.consC ?_ ?_
    exact Ev.cint
    exact EvL.nil
    exact Ev.cint
    refine Exs.cons ?_ ?_
    refine Ex.asg ?_ ?_ (by rfl) (by rfl)
    refine Ev.call C (G_list C hK (by decide +kernel)) .type list_cal ?_
    refine EvL.cons ?_ ?_
    refine Ev.call C (G_law_pick C hK (by decide +kernel)) (.ofK (P_law_pick hK)) (Cal.ofFn ((X_law_pick C hK).weaken (by decide))) ?_
    refine EvL.cons ?_ ?_
    exact Lo
    refine EvL.cons ?_ ?_
    exact G_law_known C hK (by decide +kernel)
    exact EvL.nil
    exact EvL.nil
    exact As.name (.inr (by decide +kernel))
    exact Exs.nil
    refine Exs.cons ?_ ?_
    refine Ex.asg ?_ ?_ (by rfl) (by rfl)
    refine Ev.list ?_
    exact EvL.nil
    exact As.name (.inr (by decide +kernel))
    refine Exs.cons ?_ ?_
    refine Ex.for FU ?_ ?_ ?_
    refine Ev.call C (G_range C hK (by decide +kernel)) .type range_cal ?_
    refine EvL.cons ?_ ?_
    refine Ev.call C (G_law_draw C hK (by decide +kernel)) (.ofK (P_law_draw hK)) (Cal.ofFn ((X_law_draw C hK).weaken (by decide))) ?_
    refine EvL.cons ?_ ?_
    exact Lo
    refine EvL.consC ?_ ?_
    exact Ev.cint
    exact EvL.nil
    exact EvL.nil
    exact An
    refine Exs.cons ?_ ?_
    refine Ex.asg ?_ ?_ (by rfl) (by rfl)
    refine Ev.ifExp ?_ ?_ ?_
    refine Tr.cmp gt_rule ?_ ?_
    refine Ev.call C (G_law_draw C hK (by decide +kernel)) (.ofK (P_law_draw hK)) (Cal.ofFn ((X_law_draw C hK).weaken (by decide))) ?_
    refine EvL.cons ?_ ?_
    exact Lo
    refine EvL.consC ?_ ?_
    exact Ev.cint
    exact EvL.nil
    exact Ev.cint
    refine Ev.call C (G_law_pick C hK (by decide +kernel)) (.ofK (P_law_pick hK)) (Cal.ofFn ((X_law_pick C hK).weaken (by decide))) ?_
    refine EvL.cons ?_ ?_
    exact Lo
    refine EvL.cons ?_ ?_
    exact G_law_often C hK (by decide +kernel)
    exact EvL.nil
    refine Ev.call C (G_law_draw C hK (by decide +kernel)) (.ofK (P_law_draw hK)) (Cal.ofFn ((X_law_draw C hK).weaken (by decide))) ?_
    refine EvL.cons ?_ ?_
    exact Lo
    refine EvL.consC ?_ ?_
    exact Ev.cint
    exact EvL.nil
    exact An
    refine Exs.cons ?_ ?_
    refine Ex.expr ?_
    refine Ev.methL C append_meth ?_ ?_ (pl := _) (by intro _; rfl)
    exact Ev.cell (by decide +kernel)
    refine EvL.cons ?_ ?_
    refine Ev.sub C ?_ ?_
    refine Ev.call C (G_law_kinds C hK (by decide +kernel)) (.ofK (P_law_kinds hK)) (Cal.ofFn ((X_law_kinds C hK).weaken (by decide))) ?_
    exact EvL.nil
    exact Lo
    exact EvL.nil
    exact Exs.nil
    exact Exs.nil
    refine Exs.cons ?_ ?_
    refine Ex.asg ?_ ?_ (by rfl) (by rfl)
    refine Ev.tuple ?_
    refine EvL.cons ?_ ?_
    refine Ev.call C (G_Data C hK (by decide +kernel)) (.ofK (P_Data hK)) (Cal.ofFn ((M_Data C hK).weaken (by decide))) ?_
    exact EvL.nil
    refine EvL.cons ?_ ?_
    refine Ev.comp [] FU ⟨by decide +kernel, by rfl, by decide +kernel, by decide +kernel, by decide +kernel⟩ ?_ ?_ ?_ ?_
    exact Ev.cell (by decide +kernel)
    exact AsC.name (by decide +kernel)
    exact Te.nil
    refine Ev.bin add_rule ?_ ?_
    exact Ev.cint
    refine Ev.methL C index_meth ?_ ?_ (pl := _) (by intro _; rfl)
    refine Ev.call C (G_law_kinds C hK (by decide +kernel)) (.ofK (P_law_kinds hK)) (Cal.ofFn ((X_law_kinds C hK).weaken (by decide))) ?_
    exact EvL.nil
    refine EvL.cons ?_ ?_
    exact Lo
    exact EvL.nil
    exact EvL.nil
    refine As.tup ?_
    refine AsL.cons ?_ ?_
    exact As.name (.inr (by decide +kernel))
    refine AsL.cons ?_ ?_
    exact As.name (.inr (by decide +kernel))
    exact AsL.nil
    refine Exs.cons ?_ ?_
    refine Ex.forEnum FU C rfl (G_enumerate C hK (by decide +kernel)) ?_ ?_ ?_
    refine Ev.call C (G_law_kinds C hK (by decide +kernel)) (.ofK (P_law_kinds hK)) (Cal.ofFn ((X_law_kinds C hK).weaken (by decide))) ?_
    exact EvL.nil
    refine As.tup ?_
    refine AsL.cons ?_ ?_
    exact An
    refine AsL.cons ?_ ?_
    exact An
    exact AsL.nil
    refine Exs.cons ?_ ?_
    refine Ex.ite ?_ ?_ ?_
    refine Tr.and ?_ ?_
    refine Tr.cmp (in_rule C) ?_ ?_
    exact Lo
    exact Ev.cell (by decide +kernel)
    refine Tr.and ?_ ?_
    refine Tr.cmp gt_rule ?_ ?_
    exact Lo
    exact Ev.cint
    exact Tr.and0
    refine Exs.cons ?_ ?_
    refine Ex.expr ?_
    refine Ev.meth C (cls_Data hK) (A_Data_put hK) (T_Data_put hK) (P_Data_put hK) (Cal.ofFn ((X_Data_put C hK).weaken (by decide))) ?_ ?_ (pl := _) (by intro _; rfl)
    exact Ev.cell (by decide +kernel)
    refine EvL.consC ?_ ?_
    exact Ev.cstr
    refine EvL.cons ?_ ?_
    refine Ev.bin add_rule ?_ ?_
    exact Ev.cint
    exact Lo
    refine EvL.cons ?_ ?_
    refine Ev.bin add_rule ?_ ?_
    exact Ev.cint
    exact Lo
    refine EvL.cons ?_ ?_
    exact Lo
    exact EvL.nil
    exact Exs.nil
    exact Exs.nil
    exact Exs.nil
    refine Exs.cons ?_ ?_
    refine Ex.acomp ["kinds"] FU ⟨by decide +kernel, by rfl, by decide +kernel, by decide +kernel, by decide +kernel⟩ (by decide +kernel) ?_ ?_ ?_ ?_ (by rfl)
    refine Ev.call C (G_range C hK (by decide +kernel)) .type range_cal ?_
    refine EvL.cons ?_ ?_
    refine Ev.bin add_rule ?_ ?_
    refine Ev.call C (G_len C hK (by decide +kernel)) .builtin len_cal ?_
    refine EvL.cons ?_ ?_
    exact Ev.cell (by decide +kernel)
    exact EvL.nil
    exact Ev.cint
    exact EvL.nil
    exact AsC.name (by decide +kernel)
    refine Te.one ?_
    refine Tr.val ?_
    refine Ev.call C (G_law_is_end C hK (by decide +kernel)) (.ofK (P_law_is_end hK)) (Cal.ofFn ((X_law_is_end C hK).weaken (by decide))) ?_
    refine EvL.cons ?_ ?_
    exact Ev.cell (by decide +kernel)
    refine EvL.cons ?_ ?_
    exact Lo
    exact EvL.nil
    exact Lo
    refine Exs.cons ?_ ?_
    refine Ex.ite ?_ ?_ ?_
    refine Tr.or ?_ ?_
    refine Tr.cmp ne_rule ?_ ?_
    refine Ev.comp ["text", "data"] FU ⟨by decide +kernel, by rfl, by decide +kernel, by decide +kernel, by decide +kernel⟩ ?_ ?_ ?_ ?_
    refine Ev.call C (G_range C hK (by decide +kernel)) .type range_cal ?_
    refine EvL.cons ?_ ?_
    refine Ev.bin add_rule ?_ ?_
    refine Ev.call C (G_len C hK (by decide +kernel)) .builtin len_cal ?_
    refine EvL.cons ?_ ?_
    exact Ev.cell (by decide +kernel)
    exact EvL.nil
    exact Ev.cint
    exact EvL.nil
    exact AsC.name (by decide +kernel)
    refine Te.one ?_
    refine Tr.val ?_
    refine Ev.call C (G_sentence_break C hK (by decide +kernel)) (.ofK (P_sentence_break hK)) (Cal.ofFn ((X_sentence_break C hK).weaken (by decide))) ?_
    refine EvL.cons ?_ ?_
    exact Ev.cell (by decide +kernel)
    refine EvL.cons ?_ ?_
    exact Lo
    refine EvL.cons ?_ ?_
    exact Ev.cell (by decide +kernel)
    exact EvL.nil
    exact Lo
    exact Lo
    refine Tr.or ?_ ?_
    refine Tr.cmp ne_rule ?_ ?_
    refine Ev.call C (G_list C hK (by decide +kernel)) .type list_cal ?_
    refine EvL.cons ?_ ?_
    refine Ev.call C (G_sentence_places C hK (by decide +kernel)) (.ofK (P_sentence_places hK)) (Cal.ofFn ((X_sentence_places C hK).weaken (by decide))) ?_
    refine EvL.cons ?_ ?_
    exact Ev.cell (by decide +kernel)
    refine EvL.cons ?_ ?_
    exact Ev.cell (by decide +kernel)
    exact EvL.nil
    exact EvL.nil
    exact Lo
    exact Tr.or0
    refine Exs.cons ?_ ?_
    refine Ex.ret ?_
    exact Ev.cbool
    exact Exs.nil
    exact Exs.nil
    refine Exs.cons ?_ ?_
    refine Ex.ite ?_ ?_ ?_
    refine Tr.cmp ne_rule ?_ ?_
    refine Ev.comp [] FU ⟨by decide +kernel, by rfl, by decide +kernel, by decide +kernel, by decide +kernel⟩ ?_ ?_ ?_ ?_
    refine Ev.call C (G_sentences C hK (by decide +kernel)) (.ofK (P_sentences hK)) (Cal.ofFn ((X_sentences C hK).weaken (by decide))) ?_
    refine EvL.cons ?_ ?_
    exact Ev.cell (by decide +kernel)
    refine EvL.cons ?_ ?_
    exact Ev.cell (by decide +kernel)
    exact EvL.nil
    exact AsC.name (by decide +kernel)
    exact Te.nil
    refine Ev.call C (G_tuple C hK (by decide +kernel)) .type tuple_cal ?_
    refine EvL.cons ?_ ?_
    exact Lo
    exact EvL.nil
    refine Ev.listZip C (G_list C hK (by decide +kernel)) (G_zip C hK (by decide +kernel)) ?_ ?_
    exact Lo
    refine Ev.slice ?_ ?_ ?_ ?_
    exact Lo
    refine EvP.so ?_
    exact Ev.cint
    exact EvP.no
    exact EvP.no
    refine Exs.cons ?_ ?_
    refine Ex.ret ?_
    exact Ev.cbool
    exact Exs.nil
    exact Exs.nil
    refine Exs.cons ?_ ?_
    refine Ex.asg ?_ ?_ (by rfl) (by rfl)
    refine Ev.bin sub_rule ?_ ?_
    refine Ev.call C (G_law_draw C hK (by decide +kernel)) (.ofK (P_law_draw hK)) (Cal.ofFn ((X_law_draw C hK).weaken (by decide))) ?_
    refine EvL.cons ?_ ?_
    exact Lo
    refine EvL.cons ?_ ?_
    refine Ev.bin add_rule ?_ ?_
    refine Ev.call C (G_len C hK (by decide +kernel)) .builtin len_cal ?_
    refine EvL.cons ?_ ?_
    exact Ev.cell (by decide +kernel)
    exact EvL.nil
    exact Ev.cint
    exact EvL.nil
    exact Ev.cint
    exact As.name (.inr (by decide +kernel))
    refine Exs.cons ?_ ?_
    refine Ex.asw (xs := ["later", "sooner"]) ?_ (by rfl) (by rfl) (by decide +kernel)
    refine Ev.tuple ?_
    refine EvL.cons ?_ ?_
    refine Ev.comp ["at"] FU ⟨by decide +kernel, by rfl, by decide +kernel, by decide +kernel, by decide +kernel⟩ ?_ ?_ ?_ ?_
    exact Lo
    exact AsC.name (by decide +kernel)
    refine Te.one ?_
    refine Tr.cmp gt_rule ?_ ?_
    exact Lo
    exact Ev.cell (by decide +kernel)
    exact Lo
    refine EvL.cons ?_ ?_
    refine Ev.comp ["at"] FU ⟨by decide +kernel, by rfl, by decide +kernel, by decide +kernel, by decide +kernel⟩ ?_ ?_ ?_ ?_
    exact Lo
    exact AsC.name (by decide +kernel)
    refine Te.one ?_
    refine Tr.cmp lt_rule ?_ ?_
    exact Lo
    exact Ev.cell (by decide +kernel)
    exact Lo
    exact EvL.nil
    refine Exs.cons ?_ ?_
    refine Ex.ite ?_ ?_ ?_
    refine Tr.cmp ne_rule ?_ ?_
    refine Ev.call C (G_sentence_next C hK (by decide +kernel)) (.ofK (P_sentence_next hK)) (Cal.ofFn ((X_sentence_next C hK).weaken (by decide))) ?_
    refine EvL.cons ?_ ?_
    exact Ev.cell (by decide +kernel)
    refine EvL.cons ?_ ?_
    exact Ev.cell (by decide +kernel)
    refine EvL.cons ?_ ?_
    exact Ev.cell (by decide +kernel)
    exact EvL.nil
    refine Ev.ifExp ?_ ?_ ?_
    refine Tr.cmp ne_rule ?_ ?_
    exact Lo
    refine Ev.list ?_
    exact EvL.nil
    refine Ev.sub C ?_ ?_
    exact Lo
    exact Ev.cint
    exact Ev.cnone
    refine Exs.cons ?_ ?_
    refine Ex.ret ?_
    exact Ev.cbool
    exact Exs.nil
    exact Exs.nil
    refine Exs.cons ?_ ?_
    refine Ex.ret ?_
    refine Ev.cmp eq_rule ?_ ?_
    refine Ev.call C (G_sentence_previous C hK (by decide +kernel)) (.ofK (P_sentence_previous hK)) (Cal.ofFn ((X_sentence_previous C hK).weaken (by decide))) ?_
    refine EvL.cons ?_ ?_
    exact Ev.cell (by decide +kernel)
    refine EvL.cons ?_ ?_
    exact Ev.cell (by decide +kernel)
    refine EvL.cons ?_ ?_
    exact Ev.cell (by decide +kernel)
    exact EvL.nil
    refine Ev.ifExp ?_ ?_ ?_
    refine Tr.cmp ne_rule ?_ ?_
    exact Lo
    refine Ev.list ?_
    exact EvL.nil
    refine Ev.sub C ?_ ?_
    exact Lo
    refine Ev.neg ?_
    exact Ev.cint
    exact Ev.cnone
    exact Exs.nil
  · exact m1 fun _ => rfl
  · decide +kernel
end Nt
end
section
open PySem PySem.W PySem.Spec PySem.Calls PyProof.Rows PySem.SeqAt
namespace Nt
set_option maxHeartbeats 8000000 in
theorem holds_of (P : ∀ ns : List Int, ns.length ≤ 63 → ∃ H', F_law [.lst (ns.map .int)] [] = some (.bool true, H')) : PySem.Challenge.rw_nt0035_01.Holds := hd (by
  k_fill
  intro w s₀ s₁ mg mb G Y fa o pm cd doc dV kV ho hd' hcd hD hmg hg args vals as hpre hlay hrd hwl hlo
  have KX := kIn_of Y
  have T := G.T
  have TR := topRead_of T
  have hfa : Value.ref fa = .ref 334 := by
    have e : nsIn (hd.heap_1 w.params) mainGlobals (S "law") = some (some (.ref 334)) := by kernel_rfl
    have := mg_of KX TR.g e
    exact (Option.some.inj (hmg.symm.trans this))
  clear ho hd' hcd hD hmg
  cases hfa
  wrow_args hpre hlay hrd hwl hlo
  rename_i ns _ _ _ _ _ _ _ a ws _ hL _ _ _ hI _ hlen _
  obtain ⟨H', hP⟩ := P ns (by omega)
  have Ok : (⟨PySem.Challenge.pw_nt0035_01, w, hd.heap_1 w.params, s₁.heap, mg, mb, vw, looseW vw [Str.ofString "_law_often", Str.ofString "_law_known"]⟩ : Cx).Ok := ⟨KX, TR⟩
  have vr : ∀ (l : List Value) (ns : List Int), IntsAre l ns → VRels s₁.heap [] s₁.heap (ns.map .int) l := by
    intro l ns h
    induction h with
    | nil => rfl
    | cons n t _ ih => exact ⟨_, _, rfl, ⟨t, rfl⟩, ih⟩
  refine Cal.ofFn (X_law Ok rfl) callerA [] [] s₁ [.lst (ns.map .int)] [.ref a] (.bool true) H' _ _ ⟨rfl, by decide, by decide⟩ ⟨Nat.le_refl _, fun _ _ e => e, rfl, .nil, (fun _ h => nomatch h), (fun n o a h => by simp at h)⟩ ⟨.ref a, [], rfl, ⟨a, ws, rfl, hL, vr _ _ hI⟩, rfl⟩ hP fun ad' v' h' tk' x' R' hv' => ?_
  cases (hv' : v' = .bool true)
  refine GoodW.toG ⟨.inl ⟨.bool true, .bool true, [], rfl, fun _ => rfl, ?_, ?_, fun _ => ⟨.nil, fun _ h => nomatch h⟩⟩, R'.keep, rfl, hg⟩
  · exact .bool _
  · kernel_rfl)
end Nt
end
section
namespace Nt
/-! the plain law: kinds alone -/
noncomputable def hang (k : String) : Bool := ["Extend", "Format"].contains k
noncomputable def para (k : String) : Bool := ["Sep", "CR", "LF"].contains k
noncomputable def isTerm (k : String) : Bool := ["ATerm", "STerm"].contains k
noncomputable def cased (k : String) : Bool := ["Upper", "Lower"].contains k
noncomputable def stops (k : String) : Bool := ["OLetter", "Upper", "Lower", "Sep", "CR", "LF", "ATerm", "STerm"].contains k
noncomputable def never (k : String) : Bool := ["Extend", "Format", "SContinue", "ATerm", "STerm", "Sp", "Sep", "CR", "LF"].contains k
noncomputable def row (k : String) : Bool := ["ATerm", "STerm", "Close", "Sp"].contains k
noncomputable def kd (ks : List String) (i : Int) : String := if 0 ≤ i ∧ i < ks.length then (ks[i.toNat]?).getD "" else ""
noncomputable def hg (ks : List String) (i : Int) : Bool := if (!hang (kd ks i)) = true ∨ i = 0 then false else !para (kd ks (i - 1))
/-- the walk back of sentence_base -/
noncomputable def bs (ks : List String) : Nat → Nat
  | 0 => 0
  | m + 1 => if hg ks ((m + 1 : Nat) : Int) = true then bs ks m else m + 1
noncomputable def bz (ks : List String) (i : Int) : Int := if i ≤ 0 then i - 1 else (bs ks (i - 1).toNat : Int)
noncomputable def skip (ks : List String) (w : String) : Nat → Int → Int
  | 0, i => i
  | f + 1, i => if kd ks i = w then skip ks w f (bz ks i) else i
noncomputable def goesOn : List String → Bool
  | [] => false
  | k :: r => if stops k = true then k == "Lower" else goesOn r
/-- the fold: how many, the last kind, the base kinds (latest first) -/
structure PS where
  n : Nat
  last : String
  bl : List String
noncomputable def PS.step (p : PS) (k : String) : PS := if (hang k && decide (0 < p.n) && !para p.last) = true then ⟨p.n + 1, k, p.bl⟩ else ⟨p.n + 1, k, k :: p.bl⟩
noncomputable def pst (ks : List String) : PS := ks.foldl PS.step ⟨0, "", []⟩
theorem pst_snoc (ks : List String) (k : String) : pst (ks ++ [k]) = (pst ks).step k := by unfold pst; rw [List.foldl_append]; rfl
theorem pst_n (ks : List String) : (pst ks).n = ks.length := by
  have : ∀ (ks : List String) (p : PS), (ks.foldl PS.step p).n = p.n + ks.length := by
    intro ks
    induction ks with
    | nil => intro p; simp
    | cons k r ih =>
      intro p
      rw [List.foldl_cons, ih]
      have : (p.step k).n = p.n + 1 := by unfold PS.step; split <;> rfl
      rw [this, List.length_cons]; omega
  rw [pst, this]; simp
theorem take_snoc {ks : List String} {m : Nat} {k : String} (h : ks[m]? = some k) : ks.take (m + 1) = ks.take m ++ [k] := by
  rw [List.take_add_one, h]; rfl
theorem pst_take {ks : List String} {m : Nat} {k : String} (h : ks[m]? = some k) : pst (ks.take (m + 1)) = (pst (ks.take m)).step k := by
  rw [take_snoc h, pst_snoc]
theorem pst_last (ks : List String) : (pst ks).last = (ks.getLast?).getD "" := by
  rcases List.eq_nil_or_concat ks with rfl | ⟨r, k, rfl⟩
  · rfl
  · rw [List.concat_eq_append, pst_snoc]
    have : ((pst r).step k).last = k := by unfold PS.step; split <;> rfl
    rw [this]; simp
theorem kd_at {ks : List String} {m : Nat} {k : String} (h : ks[m]? = some k) : kd ks (m : Int) = k := by
  have hm : m < ks.length := (List.getElem?_eq_some_iff.mp h).1
  unfold kd
  rw [if_pos ⟨by omega, by omega⟩]
  simp [h]
theorem kd_neg (ks : List String) : kd ks (-1) = "" := by unfold kd; rw [if_neg (by omega)]
theorem last_take {ks : List String} {m : Nat} (h0 : 0 < m) (hm : m ≤ ks.length) : (pst (ks.take m)).last = kd ks ((m : Int) - 1) := by
  obtain ⟨j, rfl⟩ : ∃ j, m = j + 1 := ⟨m - 1, by omega⟩
  have hj : ks[j]? = some ks[j] := by simp
  rw [pst_last, take_snoc hj]
  have e : ((j + 1 : Nat) : Int) - 1 = (j : Int) := by omega
  rw [e, kd_at hj, List.getLast?_concat]; rfl
/-- the base kinds below a place -/
noncomputable def W (ks : List String) (i : Nat) : List String := (pst (ks.take i)).bl
theorem W_zero (ks : List String) : W ks 0 = [] := by unfold W; simp [pst]
theorem bz_succ (ks : List String) (m : Nat) : bz ks ((m + 1 : Nat) : Int) = (bs ks m : Int) := by
  unfold bz
  rw [if_neg (by omega)]
  have : (((m + 1 : Nat) : Int) - 1).toNat = m := by omega
  rw [this]
theorem bz_zero (ks : List String) : bz ks 0 = -1 := by unfold bz; rw [if_pos (by omega)]; rfl
theorem W_succ (ks : List String) : ∀ (m : Nat), m + 1 ≤ ks.length → bs ks m ≤ m ∧ W ks (m + 1) = kd ks (bs ks m : Int) :: W ks (bs ks m)
  | 0, h => by
    have h0 : ks[0]? = some ks[0] := by simp
    refine ⟨Nat.le_refl _, ?_⟩
    unfold W bs
    rw [pst_take h0]
    have e : pst (ks.take 0) = ⟨0, "", []⟩ := by simp [pst]
    rw [e]
    have e2 : kd ks ((0 : Nat) : Int) = ks[0] := kd_at h0
    rw [e2]
    simp [PS.step]
  | m + 1, h => by
    have hm : ks[m + 1]? = some ks[m + 1] := by simp
    obtain ⟨h1, h2⟩ := W_succ ks m (by omega)
    have hl := last_take (ks := ks) (m := m + 1) (by omega) (by omega)
    have e3 : (((m + 1 : Nat) : Int) - 1) = ((m + 1 : Nat) : Int) - 1 := rfl
    have hk := kd_at hm
    have hn : (pst (ks.take (m + 1))).n = m + 1 := by rw [pst_n, List.length_take]; omega
    have hcond : hg ks ((m + 1 : Nat) : Int) = (hang ks[m + 1] && decide (0 < (pst (ks.take (m + 1))).n) && !para (pst (ks.take (m + 1))).last) := by
      unfold hg
      rw [hk, hl, hn]
      cases hang ks[m + 1] with
      | false => simp
      | true =>
        have : ¬ (((m + 1 : Nat) : Int) = 0) := by omega
        rw [if_neg (fun h => h.elim (fun h => by cases h) this), decide_eq_true (by omega : 0 < m + 1)]
        simp
    unfold bs
    by_cases hc : hg ks ((m + 1 : Nat) : Int) = true
    · rw [if_pos hc]
      refine ⟨by omega, ?_⟩
      rw [← h2]
      unfold W
      rw [pst_take hm]
      unfold PS.step
      rw [if_pos (by rw [← hcond]; exact hc)]
    · rw [if_neg hc]
      refine ⟨Nat.le_refl _, ?_⟩
      rw [hk]
      unfold W
      rw [pst_take hm]
      unfold PS.step
      rw [if_neg (by rw [← hcond]; exact hc)]
theorem kd_bz (ks : List String) (i : Nat) (h : i ≤ ks.length) : kd ks (bz ks (i : Int)) = (W ks i).headD "" := by
  cases i with
  | zero => rw [W_zero]; show kd ks (bz ks 0) = ""; rw [bz_zero]; exact kd_neg ks
  | succ m => rw [bz_succ, (W_succ ks m h).2]; rfl
/-- a walk over places is a walk over the base kinds -/
theorem skip_spec (ks : List String) (w : String) (hw : w ≠ "") : ∀ (f i : Nat), i ≤ f → i ≤ ks.length → ∃ j, j ≤ i ∧ skip ks w f (bz ks (i : Int)) = bz ks (j : Int) ∧ W ks j = (W ks i).dropWhile (· == w)
  | f, 0, _, _ => by
    refine ⟨0, Nat.le_refl _, ?_, by rw [W_zero]; rfl⟩
    have hk : kd ks (bz ks ((0 : Nat) : Int)) = "" := by rw [show ((0 : Nat) : Int) = 0 from rfl, bz_zero]; exact kd_neg ks
    cases f with
    | zero => rfl
    | succ f => unfold skip; rw [hk, if_neg (fun e => hw e.symm)]
  | 0, i + 1, h, _ => by omega
  | f + 1, i + 1, h, hi => by
    obtain ⟨h1, h2⟩ := W_succ ks i hi
    have hk := kd_bz ks (i + 1) hi
    unfold skip
    rw [hk, h2]
    by_cases he : kd ks (bs ks i : Int) = w
    · rw [if_pos (by simpa using he)]
      obtain ⟨j, q1, q2, q3⟩ := skip_spec ks w hw f (bs ks i) (by omega) (by omega)
      refine ⟨j, by omega, ?_, ?_⟩
      · rw [← q2, bz_succ]
      · rw [q3, List.dropWhile_cons_of_pos (by simpa using he)]
    · rw [if_neg (by simpa using he)]
      refine ⟨i + 1, Nat.le_refl _, rfl, ?_⟩
      rw [h2, List.dropWhile_cons_of_neg (by simpa using he)]
end Nt
end
section
namespace Nt
noncomputable def T (bl : List String) : String := if isTerm (((bl.dropWhile (· == "Sp")).dropWhile (· == "Close")).headD "") = true then ((bl.dropWhile (· == "Sp")).dropWhile (· == "Close")).headD "" else ""
noncomputable def blank (bl : List String) : Bool := bl.headD "" == "Sp"
theorem T_nil : T [] = "" := rfl
theorem T_sp (bl : List String) : T ("Sp" :: bl) = T bl := by unfold T; rw [List.dropWhile_cons_of_pos (by rfl)]
theorem T_close (bl : List String) : T ("Close" :: bl) = if blank bl = true then "" else T bl := by
  have e : ("Close" :: bl).dropWhile (· == "Sp") = "Close" :: bl := List.dropWhile_cons_of_neg (by decide)
  unfold T
  rw [e, List.dropWhile_cons_of_pos (by rfl)]
  unfold blank
  cases bl with
  | nil => rfl
  | cons k r =>
    by_cases hk : k = "Sp"
    · subst hk
      rw [List.dropWhile_cons_of_neg (by decide)]
      rfl
    · have : ((k :: r).headD "" == "Sp") = false := by simpa using hk
      rw [this]
      simp only [Bool.false_eq_true, if_false]
      rw [show List.dropWhile (fun x => x == "Sp") (k :: r) = k :: r from List.dropWhile_cons_of_neg (by simpa using hk)]
theorem T_other {k : String} (bl : List String) (h1 : k ≠ "Sp") (h2 : k ≠ "Close") : T (k :: bl) = if isTerm k = true then k else "" := by
  unfold T
  rw [List.dropWhile_cons_of_neg (by simpa using h1), List.dropWhile_cons_of_neg (by simpa using h2)]
  rfl
theorem isTerm_iff (k : String) : isTerm k = true ↔ k = "ATerm" ∨ k = "STerm" := by simp [isTerm]
theorem T_vals (bl : List String) : T bl = "" ∨ T bl = "ATerm" ∨ T bl = "STerm" := by
  unfold T
  split
  · rename_i h; exact .inr ((isTerm_iff _).mp h)
  · exact .inl rfl
theorem T_row (bl : List String) (h : T bl ≠ "") : row (bl.headD "") = true := by
  cases bl with
  | nil => exact absurd T_nil h
  | cons k r =>
    by_cases h1 : k = "Sp"
    · subst h1; rfl
    · by_cases h2 : k = "Close"
      · subst h2; rfl
      · rw [T_other r h1 h2] at h
        split at h
        · rename_i h3
          rcases (isTerm_iff k).mp h3 with rfl | rfl <;> rfl
        · exact absurd rfl h
theorem T_aterm (bl : List String) (h : bl.headD "" = "ATerm") : T bl = "ATerm" := by
  cases bl with
  | nil => simp at h
  | cons k r =>
    have hk : k = "ATerm" := h
    subst hk
    rw [T_other r (by decide) (by decide)]; rfl
/-- the judgement of a place, as the law's own rule says it -/
noncomputable def D (last : String) (bl : List String) (far : String) (goes : Bool) : Bool :=
  if last = "CR" ∧ far = "LF" then false else if para last = true then true else if hang far = true then false
  else if bl.headD "" = "ATerm" ∧ far = "Numeric" then false
  else if bl.headD "" = "ATerm" ∧ cased (bl.tail.headD "") = true ∧ far = "Upper" then false
  else if T bl = "" then false
  else if T bl = "ATerm" ∧ goes = true then false
  else if ["SContinue", "ATerm", "STerm"].contains far = true then false
  else if blank bl = false ∧ far = "Close" then false
  else far != "Sp" && !para far
/-- as sentence_break says it -/
noncomputable def D2 (last : String) (bl : List String) (far : String) (goes : Bool) : Bool :=
  if para last = true then last != "CR" || far != "LF"
  else if never far = true then false
  else if row (bl.headD "") = false ∨ (far = "Close" ∧ bl.headD "" ≠ "Sp") ∨ (bl.headD "" = "ATerm" ∧ ((far = "Upper" ∧ cased (bl.tail.headD "") = true) ∨ far = "Numeric")) then false
  else T bl == "STerm" || (T bl == "ATerm" && !goes)
theorem never_iff (k : String) : never k = true ↔ k = "Extend" ∨ k = "Format" ∨ k = "SContinue" ∨ k = "ATerm" ∨ k = "STerm" ∨ k = "Sp" ∨ k = "Sep" ∨ k = "CR" ∨ k = "LF" := by simp [never]
theorem blank_iff (bl : List String) : blank bl = false ↔ bl.headD "" ≠ "Sp" := by simp [blank]
theorem if_ff (c : Prop) [Decidable c] (b : Bool) : (if c then false else b) = (!decide c && b) := by by_cases h : c <;> simp [h]
theorem if_tt (c : Prop) [Decidable c] (b : Bool) : (if c then true else b) = (decide c || b) := by by_cases h : c <;> simp [h]
theorem dec_bool (b : Bool) : decide (b = true) = b := by cases b <;> rfl
theorem dec_false (b : Bool) : decide (b = false) = !b := by cases b <;> rfl
theorem dec_str (a b : String) : decide (a = b) = (a == b) := rfl
theorem never_or (k : String) : never k = (hang k || ["SContinue", "ATerm", "STerm"].contains k || k == "Sp" || para k) := by
  unfold never hang para
  simp only [List.contains_cons, List.contains_nil, Bool.or_false, Bool.or_assoc]
theorem core1 : ∀ cr lf pl hg A num cs up t0 tA tS go ct bl cl sp pf rw : Bool, (cr = true → pl = true) → (lf = true → pf = true) → (t0 = true → tA = false ∧ tS = false) → (t0 = false → tS = !tA) → (t0 = false → rw = true) →
    (!(cr && lf) && (pl || (!hg && (!(A && num) && (!(A && (cs && up)) && (!t0 && (!(tA && go) && (!ct && (!(!bl && cl) && (!sp && !pf))))))))))
    = if pl = true then !cr || !lf else (!(hg || ct || sp || pf) && (!(!rw || ((cl && !bl) || (A && ((up && cs) || num)))) && (tS || (tA && !go)))) := by
  intro cr lf pl hg A num cs up t0 tA tS go ct bl cl sp pf rw h1 h2 h3 h4 h5
  cases pl with
  | true => cases cr <;> cases lf <;> rfl
  | false =>
    have : cr = false := by cases cr with | false => rfl | true => exact (h1 rfl).symm
    subst this
    cases t0 with
    | true =>
      obtain ⟨rfl, rfl⟩ := h3 rfl
      simp
    | false =>
      obtain rfl := h4 rfl
      obtain rfl := h5 rfl
      clear h1 h2 h3 h4 h5
      revert lf hg A num cs up tA go ct bl cl sp pf
      decide +kernel
theorem D_eq (last : String) (bl : List String) (far : String) (goes : Bool) : D last bl far goes = D2 last bl far goes := by
  have h := core1 (last == "CR") (far == "LF") (para last) (hang far) (bl.headD "" == "ATerm") (far == "Numeric") (cased (bl.tail.headD "")) (far == "Upper") (T bl == "") (T bl == "ATerm") (T bl == "STerm") goes (["SContinue", "ATerm", "STerm"].contains far) (blank bl) (far == "Close") (far == "Sp") (para far) (row (bl.headD ""))
    (fun e => by rw [eq_of_beq e]; rfl) (fun e => by rw [eq_of_beq e]; rfl)
    (fun e => by rw [eq_of_beq e]; exact ⟨rfl, rfl⟩)
    (fun e => by rcases T_vals bl with h | h | h <;> rw [h] at e ⊢ <;> first | rfl | cases e)
    (fun e => T_row bl (by intro h; rw [h] at e; cases e))
  unfold D D2
  rw [never_or]
  simp only [if_ff, if_tt, Bool.decide_and, Bool.decide_or, dec_bool, dec_false, dec_str, bne, decide_not]
  exact h
end Nt
end
section
namespace Nt
/-! the stream -/
structure SS where
  at_ : Nat
  last : String
  base : String
  prior : String
  term : String
  spaced : Bool
noncomputable def SS.init : SS := ⟨0, "", "", "", "", false⟩
noncomputable def SS.ts (s : SS) (k : String) : String × Bool := if isTerm k = true then (k, false) else if k = "Sp" ∧ s.term ≠ "" then (s.term, true) else if k ≠ "Close" ∨ s.spaced = true then ("", false) else (s.term, s.spaced)
noncomputable def SS.take (s : SS) (k : String) : SS := if (hang k && decide (0 < s.at_) && !para s.last) = true then { s with last := k, at_ := s.at_ + 1 } else ⟨s.at_ + 1, k, k, s.base, (s.ts k).1, (s.ts k).2⟩
noncomputable def SS.verdict (s : SS) (k : String) : String :=
  if s.at_ = 0 then "break"
  else if para s.last = true then (if s.last = "CR" ∧ k = "LF" then "none" else "break")
  else if hang k = true then "none"
  else if s.base = "ATerm" ∧ (k = "Numeric" ∨ (k = "Upper" ∧ cased s.prior = true)) then "none"
  else if s.term = "" ∨ k = "SContinue" ∨ isTerm k = true ∨ k = "Sp" ∨ para k = true then "none"
  else if k = "Close" ∧ s.spaced = false then "none"
  else if s.term = "STerm" ∨ k = "OLetter" ∨ k = "Upper" then "break"
  else if k = "Lower" then "none" else "wait"
structure Inv (s : SS) (p : PS) : Prop where
  n : s.at_ = p.n
  last : s.last = p.last
  base : s.base = p.bl.headD ""
  prior : s.prior = p.bl.tail.headD ""
  term : s.term = T p.bl
  spaced : s.spaced = (T p.bl != "" && blank p.bl)
theorem Inv.init : Inv SS.init ⟨0, "", []⟩ := ⟨rfl, rfl, rfl, rfl, rfl, rfl⟩
theorem Inv.take {s : SS} {p : PS} (I : Inv s p) (k : String) : Inv (s.take k) (p.step k) := by
  unfold SS.take PS.step
  rw [I.n, I.last]
  by_cases hc : (hang k && decide (0 < p.n) && !para p.last) = true
  · rw [if_pos hc, if_pos hc]
    exact ⟨rfl, rfl, I.base, I.prior, I.term, I.spaced⟩
  · rw [if_neg hc, if_neg hc]
    have key : (s.ts k).1 = T (k :: p.bl) ∧ (s.ts k).2 = (T (k :: p.bl) != "" && blank (k :: p.bl)) := by
      unfold SS.ts
      rw [I.term, I.spaced]
      by_cases h1 : isTerm k = true
      · have : k ≠ "Sp" ∧ k ≠ "Close" := by rcases (isTerm_iff k).mp h1 with rfl | rfl <;> decide
        rw [if_pos h1, T_other p.bl this.1 this.2, if_pos h1]
        refine ⟨rfl, ?_⟩
        have hb : blank (k :: p.bl) = false := (blank_iff _).mpr this.1
        rw [hb]; simp
      · rw [if_neg h1]
        by_cases h2 : k = "Sp"
        · subst h2
          have hb : blank ("Sp" :: p.bl) = true := rfl
          rw [T_sp, hb]
          by_cases h3 : T p.bl = ""
          · simp [h3]
          · simp [h3]
        · by_cases h4 : k = "Close"
          · subst h4
            have hb : blank ("Close" :: p.bl) = false := rfl
            rw [T_close, hb]
            by_cases h3 : T p.bl = ""
            · cases blank p.bl <;> simp [h3]
            · cases blank p.bl <;> simp [h3]
          · rw [T_other p.bl h2 h4, if_neg h1]
            simp [h2, h4]
    exact ⟨rfl, rfl, rfl, I.base, key.1, key.2⟩
theorem Inv.fold : ∀ (ks : List String) {s : SS} {p : PS}, Inv s p → Inv (ks.foldl SS.take s) (ks.foldl PS.step p)
  | [], _, _, I => I
  | k :: ks, _, _, I => Inv.fold ks (I.take k)
theorem stops_iff (k : String) : stops k = true ↔ k = "OLetter" ∨ k = "Upper" ∨ k = "Lower" ∨ k = "Sep" ∨ k = "CR" ∨ k = "LF" ∨ k = "ATerm" ∨ k = "STerm" := by simp [stops]
theorem para_iff (k : String) : para k = true ↔ k = "Sep" ∨ k = "CR" ∨ k = "LF" := by simp [para]
theorem hang_iff (k : String) : hang k = true ↔ k = "Extend" ∨ k = "Format" := by simp [hang]
theorem core2 : ∀ hg a1 a2 t0 tA tS sc it sp pf cl bl ol up low go : Bool, (t0 = false → tS = !tA) → (ol = true → go = false) → (up = true → go = false) → (low = true → go = true) →
    (!hg && (!a1 && (!a2 && (!t0 && (!(tA && go) && (!(sc || it) && (!(!bl && cl) && (!sp && !pf))))))))
    = (!hg && (!(a1 || a2) && (!(t0 || (sc || (it || (sp || pf)))) && (!(cl && !(!t0 && bl)) && ((tS || (ol || up)) || (!low && !go)))))) := by
  intro hg a1 a2 t0 tA tS sc it sp pf cl bl ol up low go h1 h2 h3 h4
  cases t0 with
  | true => simp
  | false =>
    obtain rfl := h1 rfl
    cases ol <;> cases up <;> cases low <;> cases go <;> first | exact absurd (h2 rfl) (by decide) | exact absurd (h3 rfl) (by decide) | exact absurd (h4 rfl) (by decide) | (clear h1 h2 h3 h4; revert hg a1 a2 tA sc it sp pf cl bl; decide +kernel)
theorem f_if (go : Bool) (c : Prop) [Decidable c] (a b : String) : ((if c then a else b) == "break" || ((if c then a else b) == "wait" && !go)) = if c then (a == "break" || (a == "wait" && !go)) else (b == "break" || (b == "wait" && !go)) := by split <;> rfl
theorem f_none (go : Bool) : (("none" == "break") || ("none" == "wait" && !go)) = false := by cases go <;> rfl
theorem f_break (go : Bool) : (("break" == "break") || ("break" == "wait" && !go)) = true := by cases go <;> rfl
theorem f_wait (go : Bool) : (("wait" == "break") || ("wait" == "wait" && !go)) = !go := by cases go <;> rfl
theorem cont_or (k : String) : ["SContinue", "ATerm", "STerm"].contains k = (k == "SContinue" || isTerm k) := by unfold isTerm; simp only [List.contains_cons, List.contains_nil, Bool.or_false]
theorem dist_A (A num cs up : Bool) : (A && (num || (up && cs))) = ((A && num) || (A && (cs && up))) := by revert A num cs up; decide
/-- the verdict and the rule -/
theorem verdict_D {s : SS} {p : PS} (I : Inv s p) (h0 : 0 < p.n) (k : String) (r : List String) : D p.last p.bl k (goesOn (k :: r)) = (s.verdict k == "break" || (s.verdict k == "wait" && !goesOn (k :: r))) := by
  have hgo : stops k = true → goesOn (k :: r) = (k == "Lower") := fun h => by unfold goesOn; rw [if_pos h]
  have g1 : (k == "OLetter") = true → goesOn (k :: r) = false := fun h => by rw [hgo (by rw [eq_of_beq h]; rfl), eq_of_beq h]; rfl
  have g2 : (k == "Upper") = true → goesOn (k :: r) = false := fun h => by rw [hgo (by rw [eq_of_beq h]; rfl), eq_of_beq h]; rfl
  have g3 : (k == "Lower") = true → goesOn (k :: r) = true := fun h => by rw [hgo (by rw [eq_of_beq h]; rfl), eq_of_beq h]; rfl
  generalize goesOn (k :: r) = go at *
  have h := core2 (hang k) (p.bl.headD "" == "ATerm" && k == "Numeric") (p.bl.headD "" == "ATerm" && (cased (p.bl.tail.headD "") && k == "Upper")) (T p.bl == "") (T p.bl == "ATerm") (T p.bl == "STerm") (k == "SContinue") (isTerm k) (k == "Sp") (para k) (k == "Close") (blank p.bl) (k == "OLetter") (k == "Upper") (k == "Lower") go
    (fun e => by rcases T_vals p.bl with h | h | h <;> rw [h] at e ⊢ <;> first | rfl | cases e) g1 g2 g3
  rw [← dist_A] at h
  unfold SS.verdict D
  have hn : ¬ s.at_ = 0 := by rw [I.n]; exact Nat.ne_of_gt h0
  rw [if_neg hn, I.last, I.base, I.prior, I.term, I.spaced]
  simp only [f_if, f_none, f_break, f_wait]
  by_cases hp : para p.last = true
  · rw [if_pos hp, if_pos hp]
  · have hcr : ¬ (p.last = "CR" ∧ k = "LF") := by rintro ⟨h, _⟩; rw [h] at hp; exact hp rfl
    rw [if_neg hcr, if_neg hp, if_neg hp, cont_or]
    simp only [if_ff, if_tt, Bool.decide_and, Bool.decide_or, dec_bool, dec_false, dec_str, bne]
    exact h
end Nt
end
section
namespace Nt
noncomputable def settledP (held at_ : Int) (b : Bool) : List (Int × Bool) := if 0 ≤ held then (held, b) :: (List.range (at_ - held - 1).toNat).map (fun (j : Nat) => (held + 1 + (j : Int), false)) else []
noncomputable def putP (s : SS) (held : Int) (k : String) : List (Int × Bool) × SS × Int :=
  if 0 ≤ held ∧ stops k = true then
    (if s.verdict k = "wait" then (settledP held s.at_ (k != "Lower"), s.take k, (s.at_ : Int)) else (settledP held s.at_ (k != "Lower") ++ [((s.at_ : Int), s.verdict k == "break")], s.take k, -1))
  else if held < 0 then (if s.verdict k = "wait" then ([], s.take k, (s.at_ : Int)) else ([((s.at_ : Int), s.verdict k == "break")], s.take k, held))
  else ([], s.take k, held)
noncomputable def finP (s : SS) (held : Int) : List (Int × Bool) := settledP held s.at_ true ++ (if 0 < s.at_ then [((s.at_ : Int), true)] else [])
/-- is there a break at i? -/
noncomputable def B (ks : List String) (i : Nat) : Bool := if i = 0 ∨ i = ks.length then decide (0 < ks.length) else D (pst (ks.take i)).last (pst (ks.take i)).bl ((ks[i]?).getD "") (goesOn (ks.drop i))
noncomputable def tl (ks : List String) (h : Nat) : List (Int × Bool) := (List.range h).map fun (i : Nat) => ((i : Int), B ks i)
theorem drop_cons {ks : List String} {m : Nat} {k : String} (h : ks[m]? = some k) : ks.drop m = k :: ks.drop (m + 1) := by
  obtain ⟨hm, rfl⟩ := List.getElem?_eq_some_iff.mp h
  exact List.drop_eq_getElem_cons hm
theorem verdict_B {ks : List String} {m : Nat} {k : String} {s : SS} (I : Inv s (pst (ks.take m))) (h : ks[m]? = some k) : B ks m = (s.verdict k == "break" || (s.verdict k == "wait" && !goesOn (ks.drop m))) := by
  have hm : m < ks.length := (List.getElem?_eq_some_iff.mp h).1
  have hn : (pst (ks.take m)).n = m := by rw [pst_n, List.length_take]; omega
  unfold B
  by_cases h0 : m = 0
  · have e : s.verdict k = "break" := by
      unfold SS.verdict
      rw [if_pos (by rw [I.n, hn]; exact h0)]
    rw [if_pos (.inl h0), e, decide_eq_true (by omega : 0 < ks.length)]
    rfl
  · rw [if_neg (by rintro (q | q) <;> omega), h]
    have := verdict_D I (by rw [hn]; omega) k (ks.drop (m + 1))
    rw [drop_cons h]
    exact this
theorem SS.take_last (s : SS) (k : String) : (s.take k).last = k := by unfold SS.take; split <;> rfl
theorem SS.take_at (s : SS) (k : String) : (s.take k).at_ = s.at_ + 1 := by unfold SS.take; split <;> rfl
theorem wait_facts {s : SS} {k : String} (h : s.verdict k = "wait") : stops k = false ∧ (s.take k).term = "" ∧ para k = false ∧ 0 < s.at_ := by
  unfold SS.verdict at h
  split at h
  · exact absurd h (by decide)
  rename_i h0
  split at h
  · split at h <;> exact absurd h (by decide)
  split at h
  · exact absurd h (by decide)
  rename_i hh
  split at h
  · exact absurd h (by decide)
  split at h
  · exact absurd h (by decide)
  rename_i h1
  split at h
  · exact absurd h (by decide)
  rename_i h2
  split at h
  · exact absurd h (by decide)
  rename_i h3
  split at h
  · exact absurd h (by decide)
  rename_i h4
  have n1 : isTerm k = false := by
    cases e : isTerm k with
    | false => rfl
    | true => exact absurd (.inr (.inr (.inl e))) h1
  have n2 : para k = false := by
    cases e : para k with
    | false => rfl
    | true => exact absurd (.inr (.inr (.inr (.inr e)))) h1
  have n3 : k ≠ "Sp" := fun e => h1 (.inr (.inr (.inr (.inl e))))
  refine ⟨?_, ?_, n2, by omega⟩
  · cases e : stops k with
    | false => rfl
    | true =>
      rcases (stops_iff k).mp e with q | q | q | q | q | q | q | q
      · exact absurd (.inr (.inl q)) h3
      · exact absurd (.inr (.inr q)) h3
      · exact absurd q h4
      · rw [q] at n2; cases n2
      · rw [q] at n2; cases n2
      · rw [q] at n2; cases n2
      · rw [q] at n1; cases n1
      · rw [q] at n1; cases n1
  · have hh' : hang k = false := by simpa using hh
    unfold SS.take
    rw [if_neg (by rw [hh']; simp)]
    show (s.ts k).1 = ""
    unfold SS.ts
    rw [if_neg (by rw [n1]; decide), if_neg (by rintro ⟨q, _⟩; exact n3 q)]
    by_cases h5 : k = "Close"
    · have : s.spaced = true := by
        cases e : s.spaced with
        | true => rfl
        | false => exact absurd ⟨h5, e⟩ h2
      rw [if_pos (.inr this)]
    · rw [if_pos (.inl h5)]
theorem none_when {s : SS} {k : String} (h1 : s.term = "") (h2 : para s.last = false) (h3 : 0 < s.at_) : s.verdict k = "none" := by
  unfold SS.verdict
  rw [if_neg (by omega), if_neg (by rw [h2]; decide)]
  split
  · rfl
  split
  · rfl
  rw [if_pos (.inl h1)]
theorem take_empty {s : SS} {k : String} (h1 : s.term = "") (h2 : isTerm k = false) : (s.take k).term = "" := by
  unfold SS.take
  split
  · exact h1
  · show (s.ts k).1 = ""
    unfold SS.ts
    rw [if_neg (by rw [h2]; decide), if_neg (by rintro ⟨_, q⟩; exact q h1)]
    split
    · rfl
    · exact h1
structure Told (ks : List String) (m : Nat) (s : SS) (held : Int) (told : List (Int × Bool)) : Prop where
  le : m ≤ ks.length
  inv : Inv s (pst (ks.take m))
  free : held < 0 → held = -1 ∧ told = tl ks m
  wait : 0 ≤ held → told = tl ks held.toNat ∧ held.toNat < m ∧ B ks held.toNat = !goesOn (ks.drop m) ∧ (∀ i, held.toNat < i → i < m → B ks i = false) ∧ s.term = "" ∧ para s.last = false
theorem tl_succ (ks : List String) (m : Nat) : tl ks (m + 1) = tl ks m ++ [((m : Int), B ks m)] := by
  unfold tl; rw [List.range_succ, List.map_append]; rfl
theorem tl_settled (ks : List String) (h m : Nat) (hm : h < m) (b : Bool) (hb : B ks h = b) (hf : ∀ i, h < i → i < m → B ks i = false) : tl ks m = tl ks h ++ settledP (h : Int) (m : Int) b := by
  unfold settledP
  rw [if_pos (by omega)]
  have e : ((m : Int) - (h : Int) - 1).toNat = m - h - 1 := by omega
  rw [e]
  obtain ⟨j, rfl⟩ : ∃ j, m = h + 1 + j := ⟨m - h - 1, by omega⟩
  have e2 : h + 1 + j - h - 1 = j := by omega
  rw [e2]
  clear e e2 hm
  induction j with
  | zero => rw [Nat.add_zero, tl_succ, hb]; rfl
  | succ j ih =>
    have := ih (fun i h1 h2 => hf i h1 (by omega))
    rw [show h + 1 + (j + 1) = (h + 1 + j) + 1 from rfl, tl_succ, this, List.range_succ, List.map_append, hf (h + 1 + j) (by omega) (by omega)]
    simp
theorem Told.init (ks : List String) : Told ks 0 SS.init (-1) [] := by
  refine ⟨Nat.zero_le _, ?_, fun _ => ⟨rfl, rfl⟩, fun h => absurd h (by decide)⟩
  have : pst (ks.take 0) = ⟨0, "", []⟩ := by simp [pst]
  rw [this]; exact Inv.init
theorem Told.n {ks : List String} {m : Nat} {s : SS} {held : Int} {told : List (Int × Bool)} (X : Told ks m s held told) : s.at_ = m := by
  rw [X.inv.n, pst_n, List.length_take]
  have := X.le
  omega
theorem Told.put {ks : List String} {m : Nat} {s : SS} {held : Int} {told : List (Int × Bool)} {k : String} (X : Told ks m s held told) (h : ks[m]? = some k) :
    Told ks (m + 1) (putP s held k).2.1 (putP s held k).2.2 (told ++ (putP s held k).1) := by
  have hm : m < ks.length := (List.getElem?_eq_some_iff.mp h).1
  have hn := X.n
  have hI : Inv (s.take k) (pst (ks.take (m + 1))) := by rw [pst_take h]; exact X.inv.take k
  have hV := verdict_B X.inv h
  have hd := drop_cons h
  have hgo : stops k = false → goesOn (ks.drop m) = goesOn (ks.drop (m + 1)) := fun q => by
    rw [hd]
    conv => lhs; unfold goesOn
    rw [if_neg (by rw [q]; decide)]
  have hgs : stops k = true → goesOn (ks.drop m) = (k == "Lower") := fun q => by
    rw [hd]
    conv => lhs; unfold goesOn
    rw [if_pos q]
  by_cases h0 : 0 ≤ held
  · obtain ⟨w1, w2, w3, w4, w5, w6⟩ := X.wait h0
    have hv : s.verdict k = "none" := none_when w5 w6 (by omega)
    have hBm : B ks m = false := by rw [hV, hv]; rfl
    have hh : (held.toNat : Int) = held := by omega
    by_cases hs : stops k = true
    · have e : putP s held k = (settledP held s.at_ (k != "Lower") ++ [((s.at_ : Int), false)], s.take k, -1) := by
        unfold putP
        rw [if_pos ⟨h0, hs⟩, hv, if_neg (by decide)]
        rfl
      rw [e]
      refine ⟨by omega, hI, fun _ => ⟨rfl, ?_⟩, fun q => absurd (show (0 : Int) ≤ -1 from q) (by decide)⟩
      dsimp only
      rw [tl_succ, tl_settled ks held.toNat m w2 (k != "Lower") (by rw [w3, hgs hs]; rfl) w4, w1, hBm, hn, hh, List.append_assoc]
    · have hs' : stops k = false := by simpa using hs
      have e : putP s held k = ([], s.take k, held) := by
        unfold putP
        rw [if_neg (by rintro ⟨_, q⟩; exact hs q), if_neg (by omega)]
      rw [e]
      have hk1 : isTerm k = false := by
        cases q : isTerm k with
        | false => rfl
        | true => exact absurd ((stops_iff k).mpr (by rcases (isTerm_iff k).mp q with h | h <;> simp [h])) hs
      have hk2 : para k = false := by
        cases q : para k with
        | false => rfl
        | true => exact absurd ((stops_iff k).mpr (by rcases (para_iff k).mp q with h | h | h <;> simp [h])) hs
      refine ⟨by omega, hI, fun q => absurd q (by dsimp only; omega), fun _ => ⟨by dsimp only; rw [List.append_nil]; exact w1, by dsimp only; omega, by dsimp only; rw [w3, hgo hs'], fun i q1 q2 => ?_, take_empty w5 hk1, by rw [SS.take_last]; exact hk2⟩⟩
      dsimp only at q1
      by_cases hi : i = m
      · rw [hi]; exact hBm
      · exact w4 i q1 (by omega)
  · obtain ⟨f1, f2⟩ := X.free (by omega)
    by_cases hw : s.verdict k = "wait"
    · obtain ⟨a1, a2, a3, a4⟩ := wait_facts hw
      have e : putP s held k = ([], s.take k, (s.at_ : Int)) := by
        unfold putP
        rw [if_neg (by rintro ⟨q, _⟩; exact h0 q), if_pos (by omega), if_pos hw]
      rw [e]
      refine ⟨by omega, hI, fun q => absurd q (by dsimp only; omega), fun _ => ?_⟩
      dsimp only
      have e2 : (s.at_ : Int).toNat = m := by omega
      rw [e2, List.append_nil]
      refine ⟨f2, by omega, ?_, fun i q1 q2 => by omega, a2, by rw [SS.take_last]; exact a3⟩
      rw [hV, hw, ← hgo a1]; rfl
    · have e : putP s held k = ([((s.at_ : Int), s.verdict k == "break")], s.take k, held) := by
        unfold putP
        rw [if_neg (by rintro ⟨q, _⟩; exact h0 q), if_pos (by omega), if_neg hw]
      rw [e]
      refine ⟨by omega, hI, fun _ => ⟨f1, ?_⟩, fun q => absurd q h0⟩
      have hw' : (s.verdict k == "wait") = false := by simpa using hw
      dsimp only
      rw [tl_succ, f2, hV, hw', hn]
      simp
theorem Told.fin {ks : List String} {s : SS} {held : Int} {told : List (Int × Bool)} (X : Told ks ks.length s held told) : told ++ finP s held = if 0 < ks.length then tl ks (ks.length + 1) else [] := by
  have hn := X.n
  have hB : B ks ks.length = decide (0 < ks.length) := by unfold B; rw [if_pos (.inr rfl)]
  by_cases hl : 0 < ks.length
  · rw [if_pos hl, tl_succ, hB, decide_eq_true hl]
    unfold finP
    rw [hn, if_pos hl, ← List.append_assoc]
    congr 1
    by_cases h0 : 0 ≤ held
    · obtain ⟨w1, w2, w3, w4, w5, w6⟩ := X.wait h0
      have hh : (held.toNat : Int) = held := by omega
      rw [tl_settled ks held.toNat ks.length w2 true (by rw [w3]; simp [goesOn]) w4, w1, hh]
    · obtain ⟨f1, f2⟩ := X.free (by omega)
      unfold settledP
      rw [if_neg h0, List.append_nil, f2]
  · rw [if_neg hl]
    have h1 : ks.length = 0 := by omega
    have h2 : held < 0 := by
      by_cases h0 : 0 ≤ held
      · obtain ⟨_, w2, _⟩ := X.wait h0; omega
      · omega
    obtain ⟨f1, f2⟩ := X.free h2
    unfold finP settledP
    rw [if_neg (by omega), f2, hn, h1]
    simp [tl]
end Nt
end
section
namespace Nt
/-! a stream begun behind a paragraph's end -/
theorem T_append (br : List String) (h : br.headD "" ≠ "Sp" ∧ br.headD "" ≠ "Close" ∧ isTerm (br.headD "") = false) : ∀ bq : List String, bq ≠ [] → T (bq ++ br) = T bq := by
  have hbr : T br = "" := by
    cases br with
    | nil => rfl
    | cons k r =>
      have h1 : k ≠ "Sp" := h.1
      have h2 : k ≠ "Close" := h.2.1
      rw [T_other r h1 h2, if_neg (by rw [show isTerm k = false from h.2.2]; decide)]
  have hb : blank br = false := (blank_iff br).mpr h.1
  have main : ∀ bq : List String, T (bq ++ br) = T bq := by
    intro bq
    induction bq with
    | nil => rw [List.nil_append, hbr]; rfl
    | cons k r ih =>
      rw [List.cons_append]
      by_cases h1 : k = "Sp"
      · subst h1; rw [T_sp, T_sp, ih]
      · by_cases h2 : k = "Close"
        · subst h2
          rw [T_close, T_close, ih]
          have : blank (r ++ br) = blank r := by
            cases r with
            | nil => rw [List.nil_append, hb]; rfl
            | cons _ _ => rfl
          rw [this]
        · rw [T_other _ h1 h2, T_other _ h1 h2]
  exact fun bq _ => main bq
theorem D_append (last far : String) (goes : Bool) (bq br : List String) (hq : bq ≠ []) (h : br.headD "" ≠ "Sp" ∧ br.headD "" ≠ "Close" ∧ isTerm (br.headD "") = false) (hc : cased (br.headD "") = false) : D last (bq ++ br) far goes = D last bq far goes := by
  have e1 : (bq ++ br).headD "" = bq.headD "" := by cases bq with | nil => exact absurd rfl hq | cons _ _ => rfl
  have e2 : cased ((bq ++ br).tail.headD "") = cased (bq.tail.headD "") := by
    cases bq with
    | nil => exact absurd rfl hq
    | cons x r =>
      cases r with
      | nil => show cased (br.headD "") = cased ""; rw [hc]; rfl
      | cons _ _ => rfl
  have e3 : blank (bq ++ br) = blank bq := by unfold blank; rw [e1]
  unfold D
  rw [e1, e2, e3, T_append br h bq hq]
structure Safe (ks : List String) (a : Nat) : Prop where
  lt : a < ks.length
  ok : a = 0 ∨ (∃ p c, ks[a - 1]? = some p ∧ ks[a]? = some c ∧ para p = true ∧ ¬ (p = "CR" ∧ c = "LF"))
/-- the base kinds after a para's end: those of the text begun there, ahead of the old ones -/
theorem pst_suffix (ks : List String) (a : Nat) (S : Safe ks a) : ∀ (i : Nat), a + i + 1 ≤ ks.length → (pst (ks.take (a + i + 1))).last = (pst ((ks.drop a).take (i + 1))).last ∧ (pst (ks.take (a + i + 1))).bl = (pst ((ks.drop a).take (i + 1))).bl ++ (pst (ks.take a)).bl ∧ (pst ((ks.drop a).take (i + 1))).bl ≠ []
  | 0, h => by
    have ha : ks[a]? = some ks[a] := by simp
    have hq : (ks.drop a)[0]? = some ks[a] := by rw [List.getElem?_drop]; simp
    rw [pst_take (ks := ks) (m := a) ha, pst_take (ks := ks.drop a) (m := 0) hq]
    have e0 : pst ((ks.drop a).take 0) = ⟨0, "", []⟩ := by simp [pst]
    rw [e0]
    have e1 : (hang ks[a] && decide (0 < (pst (ks.take a)).n) && !para (pst (ks.take a)).last) = false := by
      rcases S.ok with rfl | ⟨p, c, h1, h2, h3, h4⟩
      · simp [pst]
      · by_cases h0 : a = 0
        · subst h0; simp [pst]
        · have : (pst (ks.take a)).last = p := by
            rw [last_take (by omega) (by omega)]
            have e : ((a : Nat) : Int) - 1 = ((a - 1 : Nat) : Int) := by omega
            rw [e, kd_at h1]
          rw [this, h3]; simp
    refine ⟨?_, ?_, ?_⟩
    · unfold PS.step; rw [e1]; simp
    · unfold PS.step; rw [e1]; simp
    · unfold PS.step; simp
  | i + 1, h => by
    obtain ⟨h1, h2, h3⟩ := pst_suffix ks a S i (by omega)
    have ha : ks[a + i + 1]? = some ks[a + i + 1] := by simp
    have hq : (ks.drop a)[i + 1]? = some ks[a + i + 1] := by rw [List.getElem?_drop]; rw [← ha]; congr 1
    rw [show a + (i + 1) + 1 = (a + i + 1) + 1 from rfl, pst_take ha, pst_take hq]
    have n1 : 0 < (pst (ks.take (a + i + 1))).n := by rw [pst_n, List.length_take]; omega
    have n2 : 0 < (pst ((ks.drop a).take (i + 1))).n := by rw [pst_n, List.length_take, List.length_drop]; omega
    unfold PS.step
    rw [h1, decide_eq_true n1, decide_eq_true n2]
    by_cases hc : (hang ks[a + i + 1] && true && !para (pst ((ks.drop a).take (i + 1))).last) = true
    · rw [if_pos hc, if_pos hc]; exact ⟨rfl, h2, h3⟩
    · rw [if_neg hc, if_neg hc]
      refine ⟨rfl, ?_, by simp⟩
      show _ :: _ = (_ :: _) ++ _
      rw [h2, List.cons_append]
theorem bl_para {ks : List String} {a : Nat} (S : Safe ks a) : ∃ k, (pst (ks.take a)).bl.headD "" = k ∧ (k = "" ∨ para k = true) := by
  rcases S.ok with rfl | ⟨p, c, h1, h2, h3, h4⟩
  · exact ⟨"", by simp [pst], .inl rfl⟩
  · by_cases h0 : a = 0
    · subst h0; exact ⟨"", by simp [pst], .inl rfl⟩
    · obtain ⟨j, rfl⟩ : ∃ j, a = j + 1 := ⟨a - 1, by omega⟩
      rw [Nat.add_sub_cancel] at h1
      refine ⟨p, ?_, .inr h3⟩
      rw [pst_take h1]
      have : hang p = false := by
        cases e : hang p with
        | false => rfl
        | true =>
          rcases (hang_iff p).mp e with rfl | rfl <;> simp [para] at h3
      unfold PS.step
      rw [this]
      rfl
theorem B_suffix (ks : List String) (a : Nat) (S : Safe ks a) (i : Nat) (hi : a + i ≤ ks.length) : B (ks.drop a) i = B ks (a + i) := by
  have hlt := S.lt
  have hl : (ks.drop a).length = ks.length - a := List.length_drop
  obtain ⟨k, hk, hkp⟩ := bl_para S
  by_cases h0 : i = 0
  · subst h0
    unfold B
    rw [if_pos (.inl rfl), hl, decide_eq_true (by omega)]
    rw [Nat.add_zero]
    rcases S.ok with rfl | ⟨p, c, h1, h2, h3, h4⟩
    · rw [if_pos (.inl rfl), decide_eq_true (by omega)]
    · by_cases h00 : a = 0
      · subst h00; rw [if_pos (.inl rfl), decide_eq_true (by omega)]
      · rw [if_neg (by omega)]
        have hlast : (pst (ks.take a)).last = p := by
          rw [last_take (by omega) (by omega)]
          have e : ((a : Nat) : Int) - 1 = ((a - 1 : Nat) : Int) := by omega
          rw [e, kd_at h1]
        rw [hlast, h2]
        unfold D
        rw [if_neg (by simpa using h4), if_pos h3]
  · by_cases hn : a + i = ks.length
    · unfold B
      rw [if_pos (.inr (by omega)), if_pos (.inr hn), hl, decide_eq_true (by omega), decide_eq_true (by omega)]
    · obtain ⟨j, rfl⟩ : ∃ j, i = j + 1 := ⟨i - 1, by omega⟩
      obtain ⟨q1, q2, q3⟩ := pst_suffix ks a S j (by omega)
      unfold B
      rw [if_neg (by omega), if_neg (by omega)]
      have e1 : (ks.drop a)[j + 1]? = ks[a + (j + 1)]? := by rw [List.getElem?_drop]
      have e2 : (ks.drop a).drop (j + 1) = ks.drop (a + (j + 1)) := by rw [List.drop_drop]
      rw [e1, e2, show a + (j + 1) = a + j + 1 from rfl, q1, q2]
      symm
      refine D_append _ _ _ _ _ q3 ?_ ?_
      · rw [hk]
        rcases hkp with rfl | hp
        · exact ⟨by decide, by decide, by decide⟩
        · rcases (para_iff k).mp hp with rfl | rfl | rfl <;> exact ⟨by decide, by decide, by decide⟩
      · rw [hk]
        rcases hkp with rfl | hp
        · decide
        · rcases (para_iff k).mp hp with rfl | rfl | rfl <;> decide
/-- sentence_safe -/
noncomputable def safeP (ks : List String) : Nat → Nat
  | 0 => 0
  | m + 1 => if para (kd ks (m : Int)) = true ∧ (kd ks (m : Int) ≠ "CR" ∨ kd ks ((m + 1 : Nat) : Int) ≠ "LF") then m + 1 else safeP ks m
theorem safe_spec (ks : List String) : ∀ m : Nat, m < ks.length → Safe ks (safeP ks m) ∧ safeP ks m ≤ m
  | 0, h => ⟨⟨h, .inl rfl⟩, Nat.le_refl _⟩
  | m + 1, h => by
    unfold safeP
    have h1 : ks[m]? = some ks[m] := by simp
    have h2 : ks[m + 1]? = some ks[m + 1] := by simp
    rw [kd_at h1, kd_at h2]
    split
    · rename_i hc
      refine ⟨⟨h, .inr ⟨_, _, h1, h2, hc.1, ?_⟩⟩, Nat.le_refl _⟩
      rintro ⟨q1, q2⟩
      rcases hc.2 with q | q
      · exact q q1
      · exact q q2
    · obtain ⟨q1, q2⟩ := safe_spec ks m (by omega)
      exact ⟨q1, by omega⟩
/-! the law's own rule -/
theorem goesOn_eq : ∀ l : List String, goesOn l = (((l.filter fun k => !hang k).filter stops).take 1 == ["Lower"])
  | [] => rfl
  | k :: r => by
    have ih := goesOn_eq r
    unfold goesOn
    by_cases hs : stops k = true
    · have hh : hang k = false := by
        cases e : hang k with
        | false => rfl
        | true => rcases (hang_iff k).mp e with rfl | rfl <;> simp [stops] at hs
      rw [if_pos hs, List.filter_cons_of_pos (by rw [hh]; rfl), List.filter_cons_of_pos hs]
      simp
    · rw [if_neg hs, ih]
      by_cases hh : hang k = true
      · rw [List.filter_cons_of_neg (by rw [hh]; decide)]
      · rw [List.filter_cons_of_pos (by simpa using hh), List.filter_cons_of_neg hs]
noncomputable def nz (k : String) : String := if hang k = true then "Other" else k
noncomputable def plainStep (p : List String × String) (k : String) : List String × String := if hang k = false then (p.1 ++ [k], k) else if para p.2 = true then (p.1 ++ ["Other"], "Other") else p
noncomputable def plainP (ks : List String) : List String × String := ks.foldl plainStep ([], "Sep")
theorem plain_spec (ks : List String) : (plainP ks).1 = ((pst ks).bl.map nz).reverse := by
  have main : ∀ (ks : List String) (p : List String × String) (q : PS), p.1 = (q.bl.map nz).reverse → (para p.2 = true ↔ (q.n = 0 ∨ para q.last = true)) → (ks.foldl plainStep p).1 = ((ks.foldl PS.step q).bl.map nz).reverse := by
    intro ks
    induction ks with
    | nil => intro p q h _; exact h
    | cons k r ih =>
      intro p q h1 h2
      rw [List.foldl_cons, List.foldl_cons]
      refine ih _ _ ?_ ?_
      · unfold plainStep PS.step
        by_cases hh : hang k = true
        · rw [if_neg (by rw [hh]; decide)]
          by_cases hp : para p.2 = true
          · rw [if_pos hp, if_neg (by rcases h2.mp hp with q1 | q1 <;> simp [q1])]
            simp [h1, nz, hh]
          · rw [if_neg hp]
            have h3 : ¬ (q.n = 0 ∨ para q.last = true) := fun x => hp (h2.mpr x)
            have h4 : 0 < q.n := by omega
            have h5 : para q.last = false := by
              cases e : para q.last with
              | false => rfl
              | true => exact absurd (.inr e) h3
            rw [if_pos (by rw [hh, h5, decide_eq_true h4]; rfl)]
            exact h1
        · have hh' : hang k = false := by simpa using hh
          rw [if_pos hh', if_neg (by rw [hh']; simp)]
          simp [h1, nz, hh']
      · unfold plainStep PS.step
        have hpk : hang k = true → para k = false := fun e => by rcases (hang_iff k).mp e with rfl | rfl <;> decide
        by_cases hh : hang k = true
        · rw [if_neg (by rw [hh]; decide)]
          by_cases hp : para p.2 = true
          · rw [if_pos hp, if_neg (by rcases h2.mp hp with q1 | q1 <;> simp [q1])]
            show para "Other" = true ↔ (q.n + 1 = 0 ∨ para k = true)
            rw [hpk hh]
            simp
            decide
          · rw [if_neg hp]
            have h3 : ¬ (q.n = 0 ∨ para q.last = true) := fun x => hp (h2.mpr x)
            have h4 : 0 < q.n := by omega
            have h5 : para q.last = false := by
              cases e : para q.last with
              | false => rfl
              | true => exact absurd (.inr e) h3
            rw [if_pos (by rw [hh, h5, decide_eq_true h4]; rfl)]
            simp [hp, hpk hh]
        · have hh' : hang k = false := by simpa using hh
          rw [if_pos hh', if_neg (by rw [hh']; simp)]
          simp
  exact main ks _ _ rfl (by simp [para])
end Nt
end
section
open PySem PySem.SeqAt
namespace Nt
/-! the plain law: how the Lean functions run -/
theorem S_beq (a b : String) : (S a == S b) = (a == b) := by
  by_cases h : a = b
  · subst h; simp
  · have h1 : (a == b) = false := by simpa using h
    have h2 : (S a == S b) = false := beq_eq_false_iff_ne.mpr fun e => h (S_inj e)
    rw [h1, h2]
theorem mapO_map {α β γ : Type} {f : β → Option γ} {g : α → β} {h : α → γ} (e : ∀ x, f (g x) = some (h x)) : ∀ l : List α, mapO f (l.map g) = some (l.map h)
  | [] => rfl
  | x :: l => by
    show (f (g x)).bind _ = _
    rw [e, Option.bind_some, mapO_map e l]; rfl
theorem any_strs (k : String) : ∀ xs : List String, ((xs.map fun x => PyData.str (S x)).any fun y => PyData.eqv y (.str (S k))) = xs.contains k
  | [] => rfl
  | x :: xs => by
    rw [List.map_cons, List.any_cons, any_strs k xs, List.contains_cons]
    have : PyData.eqv (.str (S x)) (.str (S k)) = (S x == S k) := by simp [PyData.eqv]
    rw [this, S_beq, Bool.beq_comm]
theorem all_strs (k : String) (xs : List String) : ((xs.map fun x => PyData.str (S x)).all fun y => noMix y (.str (S k))) = true := by
  rw [List.all_eq_true]
  intro y hy
  obtain ⟨x, _, rfl⟩ := List.mem_map.mp hy
  simp [noMix]
theorem among_strs (k : String) (xs : List String) : among (.str (S k)) (xs.map fun x => PyData.str (S x)) = some (xs.contains k) := by
  unfold among
  rw [if_pos (all_strs k xs), any_strs]
theorem in_strs (xs : List String) (k : String) (H : MH) : inF (.str k) (.tup (xs.map .str)) H = some (xs.contains k) := by
  unfold inF
  have h1 : pyH H (.str k) = some (.str (S k)) := rfl
  have h2 : mapO (pyH H) (xs.map .str) = some (xs.map fun x => PyData.str (S x)) := mapO_map (f := pyH H) (g := MV.str) (h := fun x => PyData.str (S x)) (fun x => rfl) xs
  rw [h1]
  dsimp only [Option.bind_some]
  rw [h2]
  exact among_strs k xs
theorem in_list (xs : List String) (k : String) {H : MH} {m : Nat} (h : H[m]? = some (.list (xs.map .str))) : inF (.str k) (.ref m) H = some (xs.contains k) := by
  unfold inF
  have h1 : pyH H (.str k) = some (.str (S k)) := rfl
  have h2 : mapO pyT (xs.map .str) = some (xs.map fun x => PyData.str (S x)) := mapO_map (f := pyT) (g := MV.str) (h := fun x => PyData.str (S x)) (fun x => rfl) xs
  dsimp only
  rw [h]
  dsimp only
  rw [h1]
  dsimp only [Option.bind_some]
  rw [h2]
  exact among_strs k xs
theorem in_HANGERS (k : String) (H : MH) : inF (.str k) V_SENTENCE_HANGERS H = some (hang k) := in_strs ["Extend", "Format"] k H
theorem in_PARAS (k : String) (H : MH) : inF (.str k) V_SENTENCE_PARAS H = some (para k) := in_strs ["Sep", "CR", "LF"] k H
theorem in_TERMS (k : String) (H : MH) : inF (.str k) V_SENTENCE_TERMS H = some (isTerm k) := in_strs ["ATerm", "STerm"] k H
theorem in_CASED (k : String) (H : MH) : inF (.str k) V_SENTENCE_CASED H = some (cased k) := in_strs ["Upper", "Lower"] k H
theorem in_STOPS (k : String) (H : MH) : inF (.str k) V_SENTENCE_STOPS H = some (stops k) := in_strs ["OLetter", "Upper", "Lower", "Sep", "CR", "LF", "ATerm", "STerm"] k H
theorem in_NEVER (k : String) (H : MH) : inF (.str k) V_SENTENCE_NEVER H = some (never k) := in_strs ["Extend", "Format", "SContinue", "ATerm", "STerm", "Sp", "Sep", "CR", "LF"] k H
theorem in_ROW (k : String) (H : MH) : inF (.str k) V_SENTENCE_ROW H = some (row k) := in_strs ["ATerm", "STerm", "Close", "Sp"] k H
theorem in_ENDS (k : String) (H : MH) : inF (.str k) V_law_ends H = some (para k) := in_strs ["Sep", "CR", "LF"] k H
theorem notIn_eq (a b : MV) (H : MH) : notInF a b H = (inF a b H).map fun r => !r := rfl
theorem eq_str (a b : String) (H : MH) : eqF (.str a) (.str b) H = some (a == b) := by
  have : PyData.eqv (.str (S a)) (.str (S b)) = (S a == S b) := by simp [PyData.eqv]
  show some (PyData.eqv (.str (S a)) (.str (S b))) = _
  rw [this, S_beq]
theorem eq_int (a b : Int) (H : MH) : eqF (.int a) (.int b) H = some (a == b) := by
  have : PyData.eqv (.int a) (.int b) = (a == b) := by simp [PyData.eqv]
  show some (PyData.eqv (.int a) (.int b)) = _
  rw [this]
theorem ne_eq' (a b : MV) (H : MH) : neF a b H = (eqF a b H).map fun r => !r := rfl
/-! steps -/
theorem n_run {x : String} {l : Loc} {H : MH} {v : MV} (h : l.lookup x = some v) : eN x l H = some (v, H) := by unfold eN; rw [h]; rfl
theorem fn_ret {ps : List String} {fb : ExF} {args : List MV} {H H' : MH} {v : MV} (h : args.length = ps.length) (e : ∃ l, fb (ps.zip args).reverse H = some (.ret v, l, H')) : fnF ps fb args H = some (v, H') := by
  obtain ⟨l, e⟩ := e
  unfold fnF; rw [if_pos h, e]; rfl
theorem fn_end {ps : List String} {fb : ExF} {args : List MV} {H H' : MH} (h : args.length = ps.length) (e : ∃ l, fb (ps.zip args).reverse H = some (.next, l, H')) : fnF ps fb args H = some (.none, H') := by
  obtain ⟨l, e⟩ := e
  unfold fnF; rw [if_pos h, e]; rfl
theorem x_next {f g : ExF} {l l1 : Loc} {H H1 : MH} {r : Option (Fl × Loc × MH)} (h : f l H = some (.next, l1, H1)) (e : g l1 H1 = r) : xCons f g l H = r := by
  unfold xCons; rw [h]; exact e
theorem x_ret {f g : ExF} {l l1 : Loc} {H H1 : MH} {v : MV} (h : f l H = some (.ret v, l1, H1)) : xCons f g l H = some (.ret v, l1, H1) := by
  unfold xCons; rw [h]; rfl
theorem x_if {t : TrF} {f g : ExF} {l : Loc} {H H1 : MH} {b : Bool} {r : Option (Fl × Loc × MH)} (h : t l H = some (b, H1)) (e : (if b = true then f l H1 else g l H1) = r) : xIf t f g l H = r := by
  unfold xIf; rw [h]; exact e
theorem x_asg {f : EvF} {a : AsF} {l l1 : Loc} {H H1 H2 : MH} {v : MV} (h : f l H = some (v, H1)) (e : a v l H1 = some (l1, H2)) : xAssign f a l H = some (.next, l1, H2) := by
  unfold xAssign; rw [h, Option.bind_some]; dsimp only; rw [e]; rfl
theorem x_retv {f : EvF} {l : Loc} {H H1 : MH} {v : MV} (h : f l H = some (v, H1)) : xRet f l H = some (.ret v, l, H1) := by
  unfold xRet; rw [h]; rfl
theorem x_exp {f : EvF} {l : Loc} {H H1 : MH} {v : MV} (h : f l H = some (v, H1)) : xExpr f l H = some (.next, l, H1) := by
  unfold xExpr; rw [h]; rfl
theorem w_true {t : TrF} {b : ExF} {k : Nat} {l l2 : Loc} {H H1 H2 : MH} (h : t l H = some (true, H1)) (e : b l H1 = some (.next, l2, H2)) : whileF t b (k + 1) l H = whileF t b k l2 H2 := by
  conv => lhs; unfold whileF
  rw [h, Option.bind_some]; dsimp only; rw [if_pos rfl, e]; rfl
theorem w_ret {t : TrF} {b : ExF} {k : Nat} {l l2 : Loc} {H H1 H2 : MH} {v : MV} (h : t l H = some (true, H1)) (e : b l H1 = some (.ret v, l2, H2)) : whileF t b (k + 1) l H = some (.ret v, l2, H2) := by
  conv => lhs; unfold whileF
  rw [h, Option.bind_some]; dsimp only; rw [if_pos rfl, e]; rfl
theorem w_false {t : TrF} {b : ExF} {k : Nat} {l : Loc} {H H1 : MH} (h : t l H = some (false, H1)) : whileF t b (k + 1) l H = some (.next, l, H1) := by
  conv => lhs; unfold whileF
  rw [h, Option.bind_some]; dsimp only; rw [if_neg (by decide)]
/-- what the sentence functions see: a text of codes, a table of kinds -/
structure View (text data : MV) (ks : List String) (H : MH) : Prop where
  codes : ∃ (t : Nat) (cs : List Int), text = .ref t ∧ H[t]? = some (.list (cs.map .int)) ∧ cs.length = ks.length ∧ ∀ (i : Nat) (c : Int) (k : String), cs[i]? = some c → ks[i]? = some k → F_Data_get [data, .str "sb", .int c] H = some (.str k, H)
  small : ks.length ≤ 60
  inst : ∃ a fs, instD 273 data H = some (a, fs) ∧ fs.lookup "get" = none
theorem E_kind {text data : MV} {ks : List String} {H : MH} (V : View text data ks H) (i : Int) : F_sentence_kind [text, .int i, data] H = some (.str (kd ks i), H) := by
  obtain ⟨t, cs, rfl, ht, hl, hg⟩ := V.codes
  obtain ⟨a, fs, hi, hn⟩ := V.inst
  have hs := V.small
  have hs2 : ks.length ≤ 1000 := by omega
  unfold F_sentence_kind kd
  by_cases h0 : 0 ≤ i
  · by_cases h1 : i < ks.length
    · have e1 : i.toNat < cs.length := by omega
      have e2 : i.toNat < ks.length := by omega
      have h3 : i < 9223372036854775808 := by omega
      have := hg i.toNat cs[i.toNat] ks[i.toNat] (by simp [e1]) (by simp [e2])
      simp [fnF, xCons, xNil, xRet, xRet0, xIf, xExpr, xAssign, eIf, eC, eN, eCmp, tCmp, tCmp2, eT, tNot, tAnd, tOr, tTrue, tFalse, eNot, eNeg, eAnd, eOr, eBin, intB, subF, addF, modF, divF, intC, ltF, leF, gtF, geF, eCall, lCons, lNil, eTup, eLst, eSub, itemF, pickI, eMeth, eAttr, aN, aTup, aCons, aNil, aRev, setKV, aAttr, aSub, putAttr, isData, lenF, anyL, listD, dictD, List.lookup_cons, ht, h0, h1, hl, hs2, hi, hn, this, e1, e2, h3]
    · simp [fnF, xCons, xNil, xRet, xRet0, xIf, xExpr, xAssign, eIf, eC, eN, eCmp, tCmp, tCmp2, eT, tNot, tAnd, tOr, tTrue, tFalse, eNot, eNeg, eAnd, eOr, eBin, intB, subF, addF, modF, divF, intC, ltF, leF, gtF, geF, eCall, lCons, lNil, eTup, eLst, eSub, itemF, pickI, eMeth, eAttr, aN, aTup, aCons, aNil, aRev, setKV, aAttr, aSub, putAttr, isData, lenF, anyL, listD, dictD, List.lookup_cons, ht, h0, h1, hl, hs2]
  · simp [fnF, xCons, xNil, xRet, xRet0, xIf, xExpr, xAssign, eIf, eC, eN, eCmp, tCmp, tCmp2, eT, tNot, tAnd, tOr, tTrue, tFalse, eNot, eNeg, eAnd, eOr, eBin, intB, subF, addF, modF, divF, intC, ltF, leF, gtF, geF, eCall, lCons, lNil, eTup, eLst, eSub, itemF, pickI, eMeth, eAttr, aN, aTup, aCons, aNil, aRev, setKV, aAttr, aSub, putAttr, isData, lenF, anyL, listD, dictD, List.lookup_cons, h0]
theorem E_len {text data : MV} {ks : List String} {H : MH} (V : View text data ks H) : lenF [text] H = some (.int ks.length, H) := by
  obtain ⟨t, cs, rfl, ht, hl, hg⟩ := V.codes
  have hs := V.small
  have hs2 : ks.length ≤ 1000 := by omega
  simp [lenF, anyL, ht, hl, hs2]
theorem E_hangs {text data : MV} {ks : List String} {H : MH} (V : View text data ks H) (i : Int) : F_sentence_hangs [text, .int i, data] H = some (.bool (hg ks i), H) := by
  have K := E_kind V
  unfold F_sentence_hangs hg
  cases h1 : hang (kd ks i) with
  | false => simp [fnF, xCons, xNil, xRet, xRet0, xIf, xExpr, xAssign, eIf, eC, eN, eCmp, tCmp, tCmp2, eT, tNot, tAnd, tOr, tTrue, tFalse, eNot, eNeg, eAnd, eOr, eBin, intB, subF, addF, modF, divF, intC, ltF, leF, gtF, geF, eCall, lCons, lNil, eTup, eLst, eSub, itemF, pickI, eMeth, eAttr, aN, aTup, aCons, aNil, aRev, setKV, aAttr, aSub, putAttr, isData, lenF, anyL, listD, dictD, List.lookup_cons, K, notIn_eq, in_HANGERS, h1]
  | true =>
    by_cases h2 : i = 0
    · simp [fnF, xCons, xNil, xRet, xRet0, xIf, xExpr, xAssign, eIf, eC, eN, eCmp, tCmp, tCmp2, eT, tNot, tAnd, tOr, tTrue, tFalse, eNot, eNeg, eAnd, eOr, eBin, intB, subF, addF, modF, divF, intC, ltF, leF, gtF, geF, eCall, lCons, lNil, eTup, eLst, eSub, itemF, pickI, eMeth, eAttr, aN, aTup, aCons, aNil, aRev, setKV, aAttr, aSub, putAttr, isData, lenF, anyL, listD, dictD, List.lookup_cons, K, notIn_eq, in_HANGERS, h1, h2, eq_int]
    · simp [fnF, xCons, xNil, xRet, xRet0, xIf, xExpr, xAssign, eIf, eC, eN, eCmp, tCmp, tCmp2, eT, tNot, tAnd, tOr, tTrue, tFalse, eNot, eNeg, eAnd, eOr, eBin, intB, subF, addF, modF, divF, intC, ltF, leF, gtF, geF, eCall, lCons, lNil, eTup, eLst, eSub, itemF, pickI, eMeth, eAttr, aN, aTup, aCons, aNil, aRev, setKV, aAttr, aSub, putAttr, isData, lenF, anyL, listD, dictD, List.lookup_cons, K, notIn_eq, in_HANGERS, in_PARAS, h1, h2, eq_int]
/-- a walk down -/
noncomputable def downTo (g : Nat → Bool) : Nat → Nat
  | 0 => 0
  | m + 1 => if g (m + 1) = true then downTo g m else m + 1
theorem while_down {t : TrF} {b : ExF} {l : Nat → Loc} {H : MH} {g : Nat → Bool} {N : Nat} (ht : ∀ m, m ≤ N → t (l m) H = some (g m, H)) (hb : ∀ m, m < N → g (m + 1) = true → b (l (m + 1)) H = some (.next, l m, H)) (h0 : g 0 = false) :
    ∀ (m k : Nat), m ≤ N → m < k → whileF t b k (l m) H = some (.next, l (downTo g m), H)
  | 0, k + 1, h, _ => by rw [w_false (by rw [ht 0 h, h0])]; rfl
  | m + 1, k + 1, h, hk => by
    unfold downTo
    cases hg : g (m + 1) with
    | true => rw [if_pos rfl, w_true (by rw [ht _ h, hg]) (hb m (by omega) hg), while_down ht hb h0 m k (by omega) (by omega)]
    | false => rw [if_neg (by decide), w_false (by rw [ht _ h, hg])]
theorem bs_down (ks : List String) : ∀ m, bs ks m = downTo (fun m => hg ks (m : Int)) m
  | 0 => rfl
  | m + 1 => by unfold bs downTo; rw [bs_down ks m]
theorem E_base {text data : MV} {ks : List String} {H : MH} (V : View text data ks H) (i : Int) (h1 : i ≤ 60) : F_sentence_base [text, .int i, data] H = some (.int (bz ks i), H) := by
  have K := E_hangs V
  unfold F_sentence_base
  refine fn_ret rfl ?_
  by_cases h0 : i ≤ 0
  · apply Exists.intro
    refine x_next (l1 := [("data", data), ("at", .int (i - 1)), ("text", text)]) (H1 := H) (by simp [fnF, xCons, xNil, xRet, xRet0, xIf, xExpr, xAssign, eIf, eC, eN, eCmp, tCmp, tCmp2, eT, tNot, tAnd, tOr, tTrue, tFalse, eNot, eNeg, eAnd, eOr, eBin, intB, subF, addF, modF, divF, intC, ltF, leF, gtF, geF, eCall, lCons, lNil, eTup, eLst, eSub, itemF, pickI, eMeth, eAttr, aN, aTup, aCons, aNil, aRev, setKV, aAttr, aSub, putAttr, isData, lenF, anyL, listD, dictD, List.lookup_cons]) ?_
    refine x_next (l1 := [("data", data), ("at", .int (i - 1)), ("text", text)]) (H1 := H) (w_false (k := 63) ?_) ?_
    · have : ¬ (0 < i - 1) := by omega
      have this2 : ¬ (1 < i) := by omega
      simp [fnF, xCons, xNil, xRet, xRet0, xIf, xExpr, xAssign, eIf, eC, eN, eCmp, tCmp, tCmp2, eT, tNot, tAnd, tOr, tTrue, tFalse, eNot, eNeg, eAnd, eOr, eBin, intB, subF, addF, modF, divF, intC, ltF, leF, gtF, geF, eCall, lCons, lNil, eTup, eLst, eSub, itemF, pickI, eMeth, eAttr, aN, aTup, aCons, aNil, aRev, setKV, aAttr, aSub, putAttr, isData, lenF, anyL, listD, dictD, List.lookup_cons, this, this2]
    · have : bz ks i = i - 1 := by unfold bz; rw [if_pos h0]
      exact x_ret (x_retv (by simp [fnF, xCons, xNil, xRet, xRet0, xIf, xExpr, xAssign, eIf, eC, eN, eCmp, tCmp, tCmp2, eT, tNot, tAnd, tOr, tTrue, tFalse, eNot, eNeg, eAnd, eOr, eBin, intB, subF, addF, modF, divF, intC, ltF, leF, gtF, geF, eCall, lCons, lNil, eTup, eLst, eSub, itemF, pickI, eMeth, eAttr, aN, aTup, aCons, aNil, aRev, setKV, aAttr, aSub, putAttr, isData, lenF, anyL, listD, dictD, List.lookup_cons, this]))
  · obtain ⟨m, rfl⟩ : ∃ m : Nat, i = ((m + 1 : Nat) : Int) := ⟨(i - 1).toNat, by omega⟩
    have e : ((m + 1 : Nat) : Int) - 1 = (m : Int) := by omega
    apply Exists.intro
    refine x_next (l1 := [("data", data), ("at", .int (m : Int)), ("text", text)]) (H1 := H) (by simp [fnF, xCons, xNil, xRet, xRet0, xIf, xExpr, xAssign, eIf, eC, eN, eCmp, tCmp, tCmp2, eT, tNot, tAnd, tOr, tTrue, tFalse, eNot, eNeg, eAnd, eOr, eBin, intB, subF, addF, modF, divF, intC, ltF, leF, gtF, geF, eCall, lCons, lNil, eTup, eLst, eSub, itemF, pickI, eMeth, eAttr, aN, aTup, aCons, aNil, aRev, setKV, aAttr, aSub, putAttr, isData, lenF, anyL, listD, dictD, List.lookup_cons]) ?_
    refine x_next (while_down (l := fun m => [("data", data), ("at", .int (m : Int)), ("text", text)]) (g := fun m => hg ks (m : Int)) (N := m) ?_ ?_ ?_ m FU (Nat.le_refl _) (by unfold FU; omega)) ?_
    · intro j hj
      by_cases hj0 : j = 0
      · subst hj0
        have : hg ks 0 = false := by unfold hg; simp
        show _ = some (hg ks 0, H)
        rw [this]
        simp [fnF, xCons, xNil, xRet, xRet0, xIf, xExpr, xAssign, eIf, eC, eN, eCmp, tCmp, tCmp2, eT, tNot, tAnd, tOr, tTrue, tFalse, eNot, eNeg, eAnd, eOr, eBin, intB, subF, addF, modF, divF, intC, ltF, leF, gtF, geF, eCall, lCons, lNil, eTup, eLst, eSub, itemF, pickI, eMeth, eAttr, aN, aTup, aCons, aNil, aRev, setKV, aAttr, aSub, putAttr, isData, lenF, anyL, listD, dictD, List.lookup_cons]
      · have : 0 < j := by omega
        cases hh : hg ks (j : Int) <;> simp [fnF, xCons, xNil, xRet, xRet0, xIf, xExpr, xAssign, eIf, eC, eN, eCmp, tCmp, tCmp2, eT, tNot, tAnd, tOr, tTrue, tFalse, eNot, eNeg, eAnd, eOr, eBin, intB, subF, addF, modF, divF, intC, ltF, leF, gtF, geF, eCall, lCons, lNil, eTup, eLst, eSub, itemF, pickI, eMeth, eAttr, aN, aTup, aCons, aNil, aRev, setKV, aAttr, aSub, putAttr, isData, lenF, anyL, listD, dictD, List.lookup_cons, this, K, hh]
    · intro j hj hgj
      have : ((j : Int) + 1) - 1 = (j : Int) := by omega
      simp [fnF, xCons, xNil, xRet, xRet0, xIf, xExpr, xAssign, eIf, eC, eN, eCmp, tCmp, tCmp2, eT, tNot, tAnd, tOr, tTrue, tFalse, eNot, eNeg, eAnd, eOr, eBin, intB, subF, addF, modF, divF, intC, ltF, leF, gtF, geF, eCall, lCons, lNil, eTup, eLst, eSub, itemF, pickI, eMeth, eAttr, aN, aTup, aCons, aNil, aRev, setKV, aAttr, aSub, putAttr, isData, lenF, anyL, listD, dictD, List.lookup_cons, this]
    · show hg ks 0 = false
      unfold hg; rw [if_pos (.inr rfl)]
    · rw [bz_succ, bs_down]
      exact x_ret (x_retv (by simp [fnF, xCons, xNil, xRet, xRet0, xIf, xExpr, xAssign, eIf, eC, eN, eCmp, tCmp, tCmp2, eT, tNot, tAnd, tOr, tTrue, tFalse, eNot, eNeg, eAnd, eOr, eBin, intB, subF, addF, modF, divF, intC, ltF, leF, gtF, geF, eCall, lCons, lNil, eTup, eLst, eSub, itemF, pickI, eMeth, eAttr, aN, aTup, aCons, aNil, aRev, setKV, aAttr, aSub, putAttr, isData, lenF, anyL, listD, dictD, List.lookup_cons]))
end Nt
end
section
open PySem PySem.SeqAt
namespace Nt
theorem W_bz (ks : List String) (i : Nat) (h : i ≤ ks.length) (h0 : 0 < i) : ∃ p : Nat, p < i ∧ bz ks (i : Int) = (p : Int) ∧ W ks i = kd ks (p : Int) :: W ks p := by
  obtain ⟨m, rfl⟩ : ∃ m, i = m + 1 := ⟨i - 1, by omega⟩
  obtain ⟨h1, h2⟩ := W_succ ks m h
  exact ⟨bs ks m, by omega, bz_succ ks m, h2⟩
theorem while_skip {t : TrF} {b : ExF} {L : Int → Loc} {H : MH} {ks : List String} {w : String} (hw : w ≠ "") (ht : ∀ x : Int, t (L x) H = some (kd ks x == w, H)) (hb : ∀ x : Int, x ≤ 60 → b (L x) H = some (.next, L (bz ks x), H)) (hn : ks.length ≤ 60) :
    ∀ (i k : Nat), i ≤ ks.length → i < k → ∃ j : Nat, j ≤ i ∧ whileF t b k (L (bz ks (i : Int))) H = some (.next, L (bz ks (j : Int)), H) ∧ W ks j = (W ks i).dropWhile (· == w) := by
  intro i
  induction i using Nat.strongRecOn with
  | ind i ih =>
    intro k hi hk
    obtain ⟨k, rfl⟩ : ∃ m, k = m + 1 := ⟨k - 1, by omega⟩
    by_cases h0 : i = 0
    · subst h0
      refine ⟨0, Nat.le_refl _, ?_, by rw [W_zero]; rfl⟩
      refine w_false ?_
      rw [ht, show ((0 : Nat) : Int) = 0 from rfl, bz_zero, kd_neg]
      have : ("" == w) = false := beq_eq_false_iff_ne.mpr fun e => hw e.symm
      rw [this]
    · obtain ⟨p, hp, e1, e2⟩ := W_bz ks i hi (by omega)
      rw [e1, e2]
      by_cases he : kd ks (p : Int) = w
      · rw [w_true (by rw [ht, he]; simp) (hb (p : Int) (by omega))]
        obtain ⟨j, q1, q2, q3⟩ := ih p hp k (by omega) (by omega)
        exact ⟨j, by omega, q2, by rw [q3, List.dropWhile_cons_of_pos (by simpa using he)]⟩
      · refine ⟨i, Nat.le_refl _, ?_, ?_⟩
        · rw [e1]
          refine w_false ?_
          rw [ht]
          have : (kd ks (p : Int) == w) = false := by simpa using he
          rw [this]
        · rw [e2, List.dropWhile_cons_of_neg (by simpa using he)]
theorem E_tail {text data : MV} {ks : List String} {H : MH} (V : View text data ks H) (i : Nat) (hi : i ≤ ks.length) : ∃ p s, F_sentence_tail [text, .int (i : Int), data] H = some (.tup [.str (T (W ks i)), .int p, .bool s], H) := by
  have K := E_kind V
  have Bs := E_base V
  have hn := V.small
  obtain ⟨j1, a1, a2, a3⟩ := while_skip (t := tCmp eqF (eCall F_sentence_kind (lCons (eN "text") (lCons (eN "there") (lCons (eN "data") lNil)))) (eC (.str "Sp"))) (b := xCons (xAssign (eCall F_sentence_base (lCons (eN "text") (lCons (eN "there") (lCons (eN "data") lNil)))) (aN "there")) xNil)
    (L := fun x => [("data", data), ("at", .int (i : Int)), ("text", text), ("there", .int x), ("is_spaced", .bool (kd ks (bz ks (i : Int)) == "Sp"))]) (H := H) (ks := ks) (w := "Sp") (by decide) (fun x => by simp [fnF, xCons, xNil, xRet, xRet0, xIf, xExpr, xAssign, eIf, eC, eN, eCmp, tCmp, tCmp2, eT, tNot, tAnd, tOr, tTrue, tFalse, eNot, eNeg, eAnd, eOr, eBin, intB, subF, addF, modF, divF, intC, ltF, leF, gtF, geF, eCall, lCons, lNil, eTup, eLst, eSub, itemF, pickI, eMeth, eAttr, aN, aTup, aCons, aNil, aRev, setKV, aAttr, aSub, putAttr, isData, lenF, anyL, listD, dictD, List.lookup_cons, K, eq_str]) (fun x hx => by simp [fnF, xCons, xNil, xRet, xRet0, xIf, xExpr, xAssign, eIf, eC, eN, eCmp, tCmp, tCmp2, eT, tNot, tAnd, tOr, tTrue, tFalse, eNot, eNeg, eAnd, eOr, eBin, intB, subF, addF, modF, divF, intC, ltF, leF, gtF, geF, eCall, lCons, lNil, eTup, eLst, eSub, itemF, pickI, eMeth, eAttr, aN, aTup, aCons, aNil, aRev, setKV, aAttr, aSub, putAttr, isData, lenF, anyL, listD, dictD, List.lookup_cons, Bs, hx]) hn i FU hi (by unfold FU; omega)
  obtain ⟨j2, b1, b2, b3⟩ := while_skip (t := tCmp eqF (eCall F_sentence_kind (lCons (eN "text") (lCons (eN "there") (lCons (eN "data") lNil)))) (eC (.str "Close"))) (b := xCons (xAssign (eCall F_sentence_base (lCons (eN "text") (lCons (eN "there") (lCons (eN "data") lNil)))) (aN "there")) xNil)
    (L := fun x => [("data", data), ("at", .int (i : Int)), ("text", text), ("there", .int x), ("is_spaced", .bool (kd ks (bz ks (i : Int)) == "Sp"))]) (H := H) (ks := ks) (w := "Close") (by decide) (fun x => by simp [fnF, xCons, xNil, xRet, xRet0, xIf, xExpr, xAssign, eIf, eC, eN, eCmp, tCmp, tCmp2, eT, tNot, tAnd, tOr, tTrue, tFalse, eNot, eNeg, eAnd, eOr, eBin, intB, subF, addF, modF, divF, intC, ltF, leF, gtF, geF, eCall, lCons, lNil, eTup, eLst, eSub, itemF, pickI, eMeth, eAttr, aN, aTup, aCons, aNil, aRev, setKV, aAttr, aSub, putAttr, isData, lenF, anyL, listD, dictD, List.lookup_cons, K, eq_str]) (fun x hx => by simp [fnF, xCons, xNil, xRet, xRet0, xIf, xExpr, xAssign, eIf, eC, eN, eCmp, tCmp, tCmp2, eT, tNot, tAnd, tOr, tTrue, tFalse, eNot, eNeg, eAnd, eOr, eBin, intB, subF, addF, modF, divF, intC, ltF, leF, gtF, geF, eCall, lCons, lNil, eTup, eLst, eSub, itemF, pickI, eMeth, eAttr, aN, aTup, aCons, aNil, aRev, setKV, aAttr, aSub, putAttr, isData, lenF, anyL, listD, dictD, List.lookup_cons, Bs, hx]) hn j1 FU (by omega) (by unfold FU; omega)
  have hk : kd ks (bz ks (j2 : Int)) = (((W ks i).dropWhile (· == "Sp")).dropWhile (· == "Close")).headD "" := by rw [kd_bz ks j2 (by omega), b3, a3]
  have hi60 : (i : Int) ≤ 60 := by omega
  have fin : F_sentence_tail [text, .int (i : Int), data] H = some (if isTerm (kd ks (bz ks (j2 : Int))) = true then .tup [.str (kd ks (bz ks (j2 : Int))), .int (bz ks (j2 : Int)), .bool (kd ks (bz ks (i : Int)) == "Sp")] else .tup [.str "", .int (-1), .bool false], H) := by
    unfold F_sentence_tail
    refine fn_ret rfl ?_
    apply Exists.intro
    refine x_next (l1 := [("data", data), ("at", .int (i : Int)), ("text", text), ("there", .int (bz ks (i : Int)))]) (H1 := H) (by simp [fnF, xCons, xNil, xRet, xRet0, xIf, xExpr, xAssign, eIf, eC, eN, eCmp, tCmp, tCmp2, eT, tNot, tAnd, tOr, tTrue, tFalse, eNot, eNeg, eAnd, eOr, eBin, intB, subF, addF, modF, divF, intC, ltF, leF, gtF, geF, eCall, lCons, lNil, eTup, eLst, eSub, itemF, pickI, eMeth, eAttr, aN, aTup, aCons, aNil, aRev, setKV, aAttr, aSub, putAttr, isData, lenF, anyL, listD, dictD, List.lookup_cons, Bs, hi60]) ?_
    refine x_next (l1 := [("data", data), ("at", .int (i : Int)), ("text", text), ("there", .int (bz ks (i : Int))), ("is_spaced", .bool (kd ks (bz ks (i : Int)) == "Sp"))]) (H1 := H) (by simp [fnF, xCons, xNil, xRet, xRet0, xIf, xExpr, xAssign, eIf, eC, eN, eCmp, tCmp, tCmp2, eT, tNot, tAnd, tOr, tTrue, tFalse, eNot, eNeg, eAnd, eOr, eBin, intB, subF, addF, modF, divF, intC, ltF, leF, gtF, geF, eCall, lCons, lNil, eTup, eLst, eSub, itemF, pickI, eMeth, eAttr, aN, aTup, aCons, aNil, aRev, setKV, aAttr, aSub, putAttr, isData, lenF, anyL, listD, dictD, List.lookup_cons, K, eq_str]) ?_
    refine x_next a2 ?_
    refine x_next b2 ?_
    refine x_next (l1 := [("data", data), ("at", .int (i : Int)), ("text", text), ("there", .int (bz ks (j2 : Int))), ("is_spaced", .bool (kd ks (bz ks (i : Int)) == "Sp")), ("kind", .str (kd ks (bz ks (j2 : Int))))]) (H1 := H) (by simp [fnF, xCons, xNil, xRet, xRet0, xIf, xExpr, xAssign, eIf, eC, eN, eCmp, tCmp, tCmp2, eT, tNot, tAnd, tOr, tTrue, tFalse, eNot, eNeg, eAnd, eOr, eBin, intB, subF, addF, modF, divF, intC, ltF, leF, gtF, geF, eCall, lCons, lNil, eTup, eLst, eSub, itemF, pickI, eMeth, eAttr, aN, aTup, aCons, aNil, aRev, setKV, aAttr, aSub, putAttr, isData, lenF, anyL, listD, dictD, List.lookup_cons, K]) ?_
    refine x_ret (x_retv ?_)
    cases hc : isTerm (kd ks (bz ks (j2 : Int))) <;> simp [fnF, xCons, xNil, xRet, xRet0, xIf, xExpr, xAssign, eIf, eC, eN, eCmp, tCmp, tCmp2, eT, tNot, tAnd, tOr, tTrue, tFalse, eNot, eNeg, eAnd, eOr, eBin, intB, subF, addF, modF, divF, intC, ltF, leF, gtF, geF, eCall, lCons, lNil, eTup, eLst, eSub, itemF, pickI, eMeth, eAttr, aN, aTup, aCons, aNil, aRev, setKV, aAttr, aSub, putAttr, isData, lenF, anyL, listD, dictD, List.lookup_cons, in_TERMS, hc]
  rw [fin]
  cases hc : isTerm (kd ks (bz ks (j2 : Int))) with
  | true =>
    have e : T (W ks i) = kd ks (bz ks (j2 : Int)) := by unfold T; rw [← hk, if_pos hc]
    exact ⟨_, _, by rw [if_pos rfl, e]⟩
  | false =>
    have e : T (W ks i) = "" := by unfold T; rw [← hk, if_neg (by rw [hc]; decide)]
    exact ⟨_, _, by rw [if_neg (by decide), e]⟩
noncomputable def stopOf : List String → Option Bool
  | [] => none
  | k :: r => if stops k = true then some (k == "Lower") else stopOf r
theorem goesOn_stop : ∀ l, goesOn l = (stopOf l).getD false
  | [] => rfl
  | k :: r => by
    unfold goesOn stopOf
    split
    · rfl
    · exact goesOn_stop r
theorem E_goes {text data : MV} {ks : List String} {H : MH} (V : View text data ks H) (i : Nat) (hi : i ≤ ks.length) : F_sentence_goes_on [text, .int (i : Int), data] H = some (.bool (goesOn (ks.drop i)), H) := by
  have K := E_kind V
  have Ln := E_len V
  have hn := V.small
  have loop : ∀ (d i k : Nat) (l : Loc), ks.length - i = d → i ≤ ks.length → d < k → l.lookup "text" = some text → l.lookup "at" = some (.int (i : Int)) → l.lookup "data" = some data →
      ∃ l', whileF (tCmp ltF (eN "at") (eCall lenF (lCons (eN "text") lNil))) (xCons (xAssign (eCall F_sentence_kind (lCons (eN "text") (lCons (eN "at") (lCons (eN "data") lNil)))) (aN "kind")) (xCons (xIf (tCmp inF (eN "kind") (eC V_SENTENCE_STOPS)) (xCons (xRet (eCmp eqF (eN "kind") (eC (.str "Lower")))) xNil) xNil) (xCons (xAssign (eBin addF (eN "at") (eC (.int 1))) (aN "at")) xNil))) k l H
        = some (match stopOf (ks.drop i) with | some b => .ret (.bool b) | none => .next, l', H) := by
    intro d
    induction d with
    | zero =>
      intro i k l hd hi hk h1 h2 h3
      obtain ⟨k, rfl⟩ : ∃ m, k = m + 1 := ⟨k - 1, by omega⟩
      have e : i = ks.length := by omega
      subst e
      refine ⟨l, ?_⟩
      rw [w_false (H1 := H) (by simp [tCmp, eN, h1, h2, h3, ltF, intC, eCall, lCons, lNil, Ln])]
      simp [stopOf]
    | succ d ih =>
      intro i k l hd hi hk h1 h2 h3
      obtain ⟨k, rfl⟩ : ∃ m, k = m + 1 := ⟨k - 1, by omega⟩
      have hlt : i < ks.length := by omega
      have hk' : ks[i]? = some ks[i] := by simp
      have ht : tCmp ltF (eN "at") (eCall lenF (lCons (eN "text") lNil)) l H = some (true, H) := by simp [tCmp, eN, h1, h2, h3, ltF, intC, eCall, lCons, lNil, Ln, hlt]
      rw [drop_cons hk']
      unfold stopOf
      cases hs : stops ks[i] with
      | true =>
        refine ⟨setKV "kind" (.str ks[i]) l, ?_⟩
        rw [w_ret ht (v := .bool (ks[i] == "Lower")) (l2 := setKV "kind" (.str ks[i]) l) (H2 := H) (by simp [xCons, xAssign, eCall, lCons, lNil, eN, h1, h2, h3, K, kd_at hk', aN, xIf, tCmp, eC, lookup_setKV, in_STOPS, hs, xRet, eCmp, eq_str])]
        simp
      | false =>
        obtain ⟨l', q⟩ := ih (i + 1) k (setKV "at" (.int ((i + 1 : Nat) : Int)) (setKV "kind" (.str ks[i]) l)) (by omega) (by omega) (by omega) (by first | exact lkn (by decide) h1 | exact lkn (by decide) (lkn (by decide) h1) | simp [lookup_setKV, h1]) (by first | exact lke | exact lkn (by decide) lke | simp [lookup_setKV]) (by first | exact lkn (by decide) h3 | exact lkn (by decide) (lkn (by decide) h3) | simp [lookup_setKV, h3])
        refine ⟨l', ?_⟩
        rw [w_true ht (l2 := setKV "at" (.int ((i + 1 : Nat) : Int)) (setKV "kind" (.str ks[i]) l)) (H2 := H) (by simp [xCons, xNil, xAssign, eCall, lCons, lNil, eN, h1, h2, h3, K, kd_at hk', aN, xIf, tCmp, eC, lookup_setKV, in_STOPS, hs, eBin, addF]), q]
        simp
  obtain ⟨l', q⟩ := loop (ks.length - i) i FU [("data", data), ("at", .int (i : Int)), ("text", text)] rfl hi (by unfold FU; omega) (by simp [List.lookup_cons]) (by simp [List.lookup_cons]) (by simp [List.lookup_cons])
  rw [goesOn_stop]
  unfold F_sentence_goes_on
  refine fn_ret rfl ?_
  cases hs : stopOf (ks.drop i) with
  | some b =>
    rw [hs] at q
    exact ⟨l', x_ret q⟩
  | none =>
    rw [hs] at q
    apply Exists.intro
    refine x_next q ?_
    exact x_ret (x_retv (by simp [eC]))
noncomputable def abbrP (ks : List String) (i : Nat) (far : String) : Bool := if (W ks i).headD "" ≠ "ATerm" then false else if far = "Upper" then cased ((W ks i).tail.headD "") else far == "Numeric"
theorem E_abbr {text data : MV} {ks : List String} {H : MH} (V : View text data ks H) (i : Nat) (hi : i ≤ ks.length) (h0 : 0 < i) : F_sentence_is_abbreviated [text, .int (i : Int), data] H = some (.bool (abbrP ks i (kd ks (i : Int))), H) := by
  have K := E_kind V
  have Bs := E_base V
  have hn := V.small
  obtain ⟨p, hp, e1, e2⟩ := W_bz ks i hi h0
  have b1 := Bs (i : Int) (by omega)
  have b2 := Bs (p : Int) (by omega)
  have k2 := kd_bz ks p (by omega)
  rw [e1] at b1
  by_cases h1 : kd ks (p : Int) = "ATerm"
  · by_cases h2 : kd ks (i : Int) = "Upper"
    · have hv : abbrP ks i (kd ks (i : Int)) = cased ((W ks p).headD "") := by unfold abbrP; rw [e2]; simp [h1, h2]
      rw [hv]
      unfold F_sentence_is_abbreviated
      refine fn_ret rfl ?_
      apply Exists.intro
      refine x_next (l1 := [("data", data), ("at", .int (i : Int)), ("text", text), ("there", .int (p : Int))]) (H1 := H) (by simp [fnF, xCons, xNil, xRet, xRet0, xIf, xExpr, xAssign, eIf, eC, eN, eCmp, tCmp, tCmp2, eT, tNot, tAnd, tOr, tTrue, tFalse, eNot, eNeg, eAnd, eOr, eBin, intB, subF, addF, modF, divF, intC, ltF, leF, gtF, geF, eCall, lCons, lNil, eTup, eLst, eSub, itemF, pickI, eMeth, eAttr, aN, aTup, aCons, aNil, aRev, setKV, aAttr, aSub, putAttr, isData, lenF, anyL, listD, dictD, List.lookup_cons, b1]) ?_
      refine x_next (l1 := [("data", data), ("at", .int (i : Int)), ("text", text), ("there", .int (p : Int))]) (H1 := H) (by simp [fnF, xCons, xNil, xRet, xRet0, xIf, xExpr, xAssign, eIf, eC, eN, eCmp, tCmp, tCmp2, eT, tNot, tAnd, tOr, tTrue, tFalse, eNot, eNeg, eAnd, eOr, eBin, intB, subF, addF, modF, divF, intC, ltF, leF, gtF, geF, eCall, lCons, lNil, eTup, eLst, eSub, itemF, pickI, eMeth, eAttr, aN, aTup, aCons, aNil, aRev, setKV, aAttr, aSub, putAttr, isData, lenF, anyL, listD, dictD, List.lookup_cons, K, ne_eq', eq_str, h1]) ?_
      refine x_next (l1 := [("data", data), ("at", .int (i : Int)), ("text", text), ("there", .int (p : Int)), ("kind", .str "Upper")]) (H1 := H) (by simp [fnF, xCons, xNil, xRet, xRet0, xIf, xExpr, xAssign, eIf, eC, eN, eCmp, tCmp, tCmp2, eT, tNot, tAnd, tOr, tTrue, tFalse, eNot, eNeg, eAnd, eOr, eBin, intB, subF, addF, modF, divF, intC, ltF, leF, gtF, geF, eCall, lCons, lNil, eTup, eLst, eSub, itemF, pickI, eMeth, eAttr, aN, aTup, aCons, aNil, aRev, setKV, aAttr, aSub, putAttr, isData, lenF, anyL, listD, dictD, List.lookup_cons, K, h2]) ?_
      exact x_ret (l1 := [("data", data), ("at", .int (i : Int)), ("text", text), ("there", .int (p : Int)), ("kind", .str "Upper")]) (by simp [fnF, xCons, xNil, xRet, xRet0, xIf, xExpr, xAssign, eIf, eC, eN, eCmp, tCmp, tCmp2, eT, tNot, tAnd, tOr, tTrue, tFalse, eNot, eNeg, eAnd, eOr, eBin, intB, subF, addF, modF, divF, intC, ltF, leF, gtF, geF, eCall, lCons, lNil, eTup, eLst, eSub, itemF, pickI, eMeth, eAttr, aN, aTup, aCons, aNil, aRev, setKV, aAttr, aSub, putAttr, isData, lenF, anyL, listD, dictD, List.lookup_cons, K, eq_str, b2, k2, in_CASED])
    · have hv : abbrP ks i (kd ks (i : Int)) = (kd ks (i : Int) == "Numeric") := by unfold abbrP; rw [e2]; simp [h1, h2]
      rw [hv]
      unfold F_sentence_is_abbreviated
      refine fn_ret rfl ?_
      apply Exists.intro
      refine x_next (l1 := [("data", data), ("at", .int (i : Int)), ("text", text), ("there", .int (p : Int))]) (H1 := H) (by simp [fnF, xCons, xNil, xRet, xRet0, xIf, xExpr, xAssign, eIf, eC, eN, eCmp, tCmp, tCmp2, eT, tNot, tAnd, tOr, tTrue, tFalse, eNot, eNeg, eAnd, eOr, eBin, intB, subF, addF, modF, divF, intC, ltF, leF, gtF, geF, eCall, lCons, lNil, eTup, eLst, eSub, itemF, pickI, eMeth, eAttr, aN, aTup, aCons, aNil, aRev, setKV, aAttr, aSub, putAttr, isData, lenF, anyL, listD, dictD, List.lookup_cons, b1]) ?_
      refine x_next (l1 := [("data", data), ("at", .int (i : Int)), ("text", text), ("there", .int (p : Int))]) (H1 := H) (by simp [fnF, xCons, xNil, xRet, xRet0, xIf, xExpr, xAssign, eIf, eC, eN, eCmp, tCmp, tCmp2, eT, tNot, tAnd, tOr, tTrue, tFalse, eNot, eNeg, eAnd, eOr, eBin, intB, subF, addF, modF, divF, intC, ltF, leF, gtF, geF, eCall, lCons, lNil, eTup, eLst, eSub, itemF, pickI, eMeth, eAttr, aN, aTup, aCons, aNil, aRev, setKV, aAttr, aSub, putAttr, isData, lenF, anyL, listD, dictD, List.lookup_cons, K, ne_eq', eq_str, h1]) ?_
      refine x_next (l1 := [("data", data), ("at", .int (i : Int)), ("text", text), ("there", .int (p : Int)), ("kind", .str (kd ks (i : Int)))]) (H1 := H) (by simp [fnF, xCons, xNil, xRet, xRet0, xIf, xExpr, xAssign, eIf, eC, eN, eCmp, tCmp, tCmp2, eT, tNot, tAnd, tOr, tTrue, tFalse, eNot, eNeg, eAnd, eOr, eBin, intB, subF, addF, modF, divF, intC, ltF, leF, gtF, geF, eCall, lCons, lNil, eTup, eLst, eSub, itemF, pickI, eMeth, eAttr, aN, aTup, aCons, aNil, aRev, setKV, aAttr, aSub, putAttr, isData, lenF, anyL, listD, dictD, List.lookup_cons, K]) ?_
      refine x_next (l1 := [("data", data), ("at", .int (i : Int)), ("text", text), ("there", .int (p : Int)), ("kind", .str (kd ks (i : Int)))]) (H1 := H) (by simp [fnF, xCons, xNil, xRet, xRet0, xIf, xExpr, xAssign, eIf, eC, eN, eCmp, tCmp, tCmp2, eT, tNot, tAnd, tOr, tTrue, tFalse, eNot, eNeg, eAnd, eOr, eBin, intB, subF, addF, modF, divF, intC, ltF, leF, gtF, geF, eCall, lCons, lNil, eTup, eLst, eSub, itemF, pickI, eMeth, eAttr, aN, aTup, aCons, aNil, aRev, setKV, aAttr, aSub, putAttr, isData, lenF, anyL, listD, dictD, List.lookup_cons, K, eq_str, h2]) ?_
      exact x_ret (x_retv (by simp [fnF, xCons, xNil, xRet, xRet0, xIf, xExpr, xAssign, eIf, eC, eN, eCmp, tCmp, tCmp2, eT, tNot, tAnd, tOr, tTrue, tFalse, eNot, eNeg, eAnd, eOr, eBin, intB, subF, addF, modF, divF, intC, ltF, leF, gtF, geF, eCall, lCons, lNil, eTup, eLst, eSub, itemF, pickI, eMeth, eAttr, aN, aTup, aCons, aNil, aRev, setKV, aAttr, aSub, putAttr, isData, lenF, anyL, listD, dictD, List.lookup_cons, eq_str, h1, h2]))
  · have hv : abbrP ks i (kd ks (i : Int)) = false := by unfold abbrP; rw [e2]; simp [h1]
    rw [hv]
    unfold F_sentence_is_abbreviated
    refine fn_ret rfl ?_
    apply Exists.intro
    refine x_next (l1 := [("data", data), ("at", .int (i : Int)), ("text", text), ("there", .int (p : Int))]) (H1 := H) (by simp [fnF, xCons, xNil, xRet, xRet0, xIf, xExpr, xAssign, eIf, eC, eN, eCmp, tCmp, tCmp2, eT, tNot, tAnd, tOr, tTrue, tFalse, eNot, eNeg, eAnd, eOr, eBin, intB, subF, addF, modF, divF, intC, ltF, leF, gtF, geF, eCall, lCons, lNil, eTup, eLst, eSub, itemF, pickI, eMeth, eAttr, aN, aTup, aCons, aNil, aRev, setKV, aAttr, aSub, putAttr, isData, lenF, anyL, listD, dictD, List.lookup_cons, b1]) ?_
    exact x_ret (l1 := [("data", data), ("at", .int (i : Int)), ("text", text), ("there", .int (p : Int))]) (by simp [fnF, xCons, xNil, xRet, xRet0, xIf, xExpr, xAssign, eIf, eC, eN, eCmp, tCmp, tCmp2, eT, tNot, tAnd, tOr, tTrue, tFalse, eNot, eNeg, eAnd, eOr, eBin, intB, subF, addF, modF, divF, intC, ltF, leF, gtF, geF, eCall, lCons, lNil, eTup, eLst, eSub, itemF, pickI, eMeth, eAttr, aN, aTup, aCons, aNil, aRev, setKV, aAttr, aSub, putAttr, isData, lenF, anyL, listD, dictD, List.lookup_cons, K, ne_eq', eq_str, h1])
end Nt
end
section
open PySem PySem.SeqAt
namespace Nt
end Nt
end
section
open PySem PySem.SeqAt
namespace Nt
theorem in_EF (k : String) (H : MH) : inF (.str k) (.tup [.str "Extend", .str "Format"]) H = some (hang k) := in_strs ["Extend", "Format"] k H
theorem in_AS (k : String) (H : MH) : inF (.str k) (.tup [.str "ATerm", .str "STerm"]) H = some (isTerm k) := in_strs ["ATerm", "STerm"] k H
/-- a loop over a list -/
theorem for_list {src : MV} {a : AsF} {g : ExF} (items : List MV) (C : Nat → Loc → MH → Prop) (hit : ∀ i l H, C i l H → iterAt src i H = some items[i]?)
    (hstep : ∀ i v l H, items[i]? = some v → C i l H → ∃ l1 H1 l2 H2, a v l H = some (l1, H1) ∧ g l1 H1 = some (.next, l2, H2) ∧ C (i + 1) l2 H2) :
    ∀ (d i k : Nat) (l : Loc) (H : MH), items.length - i = d → i ≤ items.length → d < k → C i l H → ∃ l' H', forF src a g k i l H = some (.next, l', H') ∧ C items.length l' H'
  | 0, i, k + 1, l, H, hd, hi, hk, hC => by
    have e : i = items.length := by omega
    subst e
    refine ⟨l, H, ?_, hC⟩
    unfold forF
    rw [hit _ _ _ hC, Option.bind_some, List.getElem?_eq_none (Nat.le_refl _)]
  | d + 1, i, k + 1, l, H, hd, hi, hk, hC => by
    have hlt : i < items.length := by omega
    have e : items[i]? = some items[i] := by simp
    obtain ⟨l1, H1, l2, H2, q1, q2, q3⟩ := hstep i _ l H e hC
    obtain ⟨l', H', p1, p2⟩ := for_list items C hit hstep d (i + 1) k l2 H2 (by omega) (by omega) (by omega) q3
    refine ⟨l', H', ?_, p2⟩
    unfold forF
    rw [hit _ _ _ hC, Option.bind_some, e]
    dsimp only
    rw [q1, Option.bind_some]
    dsimp only
    rw [q2, Option.bind_some]
    exact p1
theorem append_last (H : MH) (xs : List MV) (v : MV) (h : xs.length ≤ 1000) : appendF [.ref H.length, v] (H ++ [.list xs]) = some (.none, H ++ [.list (xs ++ [v])]) := by
  have e1 : (H ++ [MO.list xs])[H.length]? = some (.list xs) := by simp
  have e2 : (H ++ [MO.list xs]).set H.length (.list (xs ++ [v])) = H ++ [.list (xs ++ [v])] := by simp
  simp [appendF, listD, e1, h, e2]
theorem methL_last {f : EvF} {fa : EvLF} {l : Loc} {H : MH} {xs : List MV} {v : MV} (hf : f l (H ++ [.list xs]) = some (.ref H.length, H ++ [.list xs])) (ha : fa l (H ++ [.list xs]) = some ([v], H ++ [.list xs])) (h : xs.length ≤ 1000) :
    eMethL appendF f fa l (H ++ [.list xs]) = some (.none, H ++ [.list (xs ++ [v])]) := by
  have e1 : (H ++ [MO.list xs])[H.length]? = some (.list xs) := by simp
  unfold eMethL
  rw [hf, Option.bind_some]
  have e2 : listD (.ref H.length) (H ++ [MO.list xs]) = some (H.length, xs) := by unfold listD; dsimp only; rw [e1]
  dsimp only
  rw [e2, Option.bind_some, ha, Option.bind_some]
  exact append_last H xs v h
theorem plain_snoc {ks : List String} {i : Nat} {k : String} (h : ks[i]? = some k) : plainP (ks.take (i + 1)) = plainStep (plainP (ks.take i)) k := by
  unfold plainP; rw [take_snoc h, List.foldl_append]; rfl
theorem plain_len (ks : List String) : (plainP ks).1.length ≤ ks.length := by
  rw [plain_spec, List.length_reverse, List.length_map]
  have : ∀ (ks : List String) (q : PS), (ks.foldl PS.step q).bl.length ≤ q.bl.length + ks.length := by
    intro ks
    induction ks with
    | nil => intro q; simp
    | cons k r ih =>
      intro q
      rw [List.foldl_cons]
      have h1 := ih (q.step k)
      have h2 : (q.step k).bl.length ≤ q.bl.length + 1 := by unfold PS.step; split <;> simp
      rw [List.length_cons]; omega
  have := this ks ⟨0, "", []⟩
  simpa [pst] using this
theorem E_plain {ks : List String} {H : MH} {m : Nat} (h : H[m]? = some (.list (ks.map .str))) (hn : ks.length ≤ 60) : F_law_plain [.ref m] H = some (.ref H.length, H ++ [.list ((plainP ks).1.map .str)]) := by
  have hm : m < H.length := (List.getElem?_eq_some_iff.mp h).1
  have hup : ∀ x : MO, (H ++ [x])[m]? = some (.list (ks.map .str)) := fun x => by rw [List.getElem?_append_left hm]; exact h
  unfold F_law_plain
  refine fn_ret rfl ?_
  obtain ⟨l', H', q1, q2, q3⟩ := for_list (src := .ref m) (a := aN "kind")
    (g := xCons (xIf (tCmp notInF (eN "kind") (eTup (lCons (eC (.str "Extend")) (lCons (eC (.str "Format")) lNil)))) (xCons (xExpr (eMethL appendF (eN "found") (lCons (eN "kind") lNil))) (xCons (xAssign (eN "kind") (aN "last")) xNil)) (xCons (xIf (tCmp inF (eN "last") (eC V_law_ends)) (xCons (xExpr (eMethL appendF (eN "found") (lCons (eC (.str "Other")) lNil))) (xCons (xAssign (eC (.str "Other")) (aN "last")) xNil)) xNil) xNil)) xNil)
    (ks.map .str) (fun i l H1 => H1 = H ++ [.list ((plainP (ks.take i)).1.map .str)] ∧ l.lookup "found" = some (.ref H.length) ∧ l.lookup "last" = some (.str (plainP (ks.take i)).2))
    (fun i l H1 hC => by obtain ⟨rfl, _⟩ := hC; unfold iterAt; dsimp only; rw [hup])
    (fun i v l H1 hv hC => by
      obtain ⟨rfl, h1, h2⟩ := hC
      rw [List.getElem?_map] at hv
      obtain ⟨k, hk, rfl⟩ := Option.map_eq_some_iff.mp hv
      have hlen := plain_len (ks.take i)
      have hlen2 : ((plainP (ks.take i)).1.map MV.str).length ≤ 1000 := by rw [List.length_map]; rw [List.length_take] at hlen; omega
      rw [plain_snoc hk]
      unfold plainStep
      cases hh : hang k with
      | false =>
        rw [if_pos rfl]
        have ap := methL_last (H := H) (xs := (plainP (ks.take i)).1.map .str) (v := .str k) (f := eN "found") (fa := lCons (eN "kind") lNil) (l := setKV "kind" (.str k) l) (by simp [eN, lookup_setKV, h1]) (by simp [lCons, lNil, eN, lookup_setKV]) hlen2
        have em : ((plainP (ks.take i)).1 ++ [k]).map MV.str = (plainP (ks.take i)).1.map MV.str ++ [.str k] := by simp
        refine ⟨_, _, setKV "last" (.str k) (setKV "kind" (.str k) l), H ++ [.list ((plainP (ks.take i)).1.map .str ++ [.str k])], rfl, ?_, by rw [em], by first | exact lkn (by decide) h1 | exact lkn (by decide) (lkn (by decide) h1) | simp [lookup_setKV, h1], by first | exact lke | exact lkn (by decide) lke | simp [lookup_setKV]⟩
        refine x_next (l1 := setKV "last" (.str k) (setKV "kind" (.str k) l)) (H1 := H ++ [.list ((plainP (ks.take i)).1.map .str ++ [.str k])]) (x_if (b := true) (H1 := H ++ [.list ((plainP (ks.take i)).1.map .str)]) (by simp [tCmp, eN, lookup_setKV, eTup, lCons, lNil, eC, notIn_eq, in_EF, hh]) ?_) (by simp [xNil])
        rw [if_pos rfl]
        refine x_next (x_exp ap) ?_
        simp [xCons, xNil, xAssign, eN, aN, lookup_setKV]
      | true =>
        rw [if_neg (by decide)]
        cases hp : para (plainP (ks.take i)).2 with
        | true =>
          rw [if_pos rfl]
          have ap := methL_last (H := H) (xs := (plainP (ks.take i)).1.map .str) (v := .str "Other") (f := eN "found") (fa := lCons (eC (.str "Other")) lNil) (l := setKV "kind" (.str k) l) (by simp [eN, lookup_setKV, h1]) (by simp [lCons, lNil, eC]) hlen2
          have em : ((plainP (ks.take i)).1 ++ ["Other"]).map MV.str = (plainP (ks.take i)).1.map MV.str ++ [.str "Other"] := by simp
          refine ⟨_, _, setKV "last" (.str "Other") (setKV "kind" (.str k) l), H ++ [.list ((plainP (ks.take i)).1.map .str ++ [.str "Other"])], rfl, ?_, by rw [em], by first | exact lkn (by decide) h1 | exact lkn (by decide) (lkn (by decide) h1) | simp [lookup_setKV, h1], by first | exact lke | exact lkn (by decide) lke | simp [lookup_setKV]⟩
          refine x_next (l1 := setKV "last" (.str "Other") (setKV "kind" (.str k) l)) (H1 := H ++ [.list ((plainP (ks.take i)).1.map .str ++ [.str "Other"])]) (x_if (b := false) (H1 := H ++ [.list ((plainP (ks.take i)).1.map .str)]) (by simp [tCmp, eN, lookup_setKV, eTup, lCons, lNil, eC, notIn_eq, in_EF, hh]) ?_) (by simp [xNil])
          rw [if_neg (by decide)]
          refine x_next (l1 := setKV "last" (.str "Other") (setKV "kind" (.str k) l)) (H1 := H ++ [.list ((plainP (ks.take i)).1.map .str ++ [.str "Other"])]) (x_if (b := true) (H1 := H ++ [.list ((plainP (ks.take i)).1.map .str)]) (by simp [tCmp, eN, lookup_setKV, h2, eC, in_ENDS, hp]) ?_) (by simp [xNil])
          rw [if_pos rfl]
          refine x_next (x_exp ap) ?_
          simp [xCons, xNil, xAssign, eC, aN, lookup_setKV]
        | false =>
          rw [if_neg (by decide)]
          refine ⟨_, _, setKV "kind" (.str k) l, H ++ [.list ((plainP (ks.take i)).1.map .str)], rfl, ?_, rfl, by first | exact lkn (by decide) h1 | exact lkn (by decide) (lkn (by decide) h1) | simp [lookup_setKV, h1], by first | exact lkn (by decide) h2 | exact lkn (by decide) (lkn (by decide) h2) | simp [lookup_setKV, h2]⟩
          refine x_next (l1 := setKV "kind" (.str k) l) (H1 := H ++ [.list ((plainP (ks.take i)).1.map .str)]) (x_if (b := false) (H1 := H ++ [.list ((plainP (ks.take i)).1.map .str)]) (by simp [tCmp, eN, lookup_setKV, eTup, lCons, lNil, eC, notIn_eq, in_EF, hh]) ?_) (by simp [xNil])
          rw [if_neg (by decide)]
          refine x_next (l1 := setKV "kind" (.str k) l) (H1 := H ++ [.list ((plainP (ks.take i)).1.map .str)]) (x_if (b := false) (H1 := H ++ [.list ((plainP (ks.take i)).1.map .str)]) (by simp [tCmp, eN, lookup_setKV, h2, eC, in_ENDS, hp]) ?_) (by simp [xNil])
          rw [if_neg (by decide)]; rfl)
    ks.length 0 FU [("kinds", .ref m), ("last", .str "Sep"), ("found", .ref H.length)] (H ++ [.list []]) (by simp) (by simp) (by unfold FU; omega) ⟨rfl, by simp [List.lookup_cons], by simp [List.lookup_cons, plainP]⟩
  rw [List.length_map, List.take_length] at q2 q3
  subst q2
  refine ⟨l', x_next (l1 := [("kinds", .ref m), ("last", .str "Sep"), ("found", .ref H.length)]) (H1 := H ++ [.list []]) (by simp [fnF, xCons, xNil, xRet, xRet0, xIf, xExpr, xAssign, eIf, eC, eN, eCmp, tCmp, tCmp2, eT, tNot, tAnd, tOr, tTrue, tFalse, eNot, eNeg, eAnd, eOr, eBin, intB, subF, addF, modF, divF, intC, ltF, leF, gtF, geF, eCall, lCons, lNil, eTup, eLst, eSub, itemF, pickI, eMeth, eAttr, aN, aTup, aCons, aNil, aRev, setKV, aAttr, aSub, putAttr, isData, listD, dictD, List.lookup_cons]) (x_next (l1 := l') (H1 := H ++ [.list ((plainP ks).1.map .str)]) ?_ (x_ret (x_retv (by simp [eN, q3]))))⟩
  unfold xFor
  have e : eN "kinds" [("kinds", .ref m), ("last", .str "Sep"), ("found", .ref H.length)] (H ++ [MO.list []]) = some (.ref m, H ++ [.list []]) := by simp [eN, List.lookup_cons]
  rw [e, Option.bind_some]
  dsimp only
  rw [if_pos (by unfold iterOk; dsimp only; rw [hup])]
  exact q1
end Nt
end
section
open PySem PySem.SeqAt
namespace Nt
theorem nz_iff {w : String} (hw : hang w = false) (h2 : w ≠ "Other") (k : String) : (nz k == w) = (k == w) := by
  unfold nz
  cases h : hang k with
  | true =>
    rw [if_pos rfl]
    have h1 : ("Other" == w) = false := beq_eq_false_iff_ne.mpr (Ne.symm h2)
    have h3 : (k == w) = false := beq_eq_false_iff_ne.mpr fun e => by rw [e, hw] at h; cases h
    rw [h1, h3]
  | false => rw [if_neg (by decide)]
/-- a place of the plain list, from its end -/
theorem plain_at (pre r : List String) (k : String) : (((pre ++ k :: r).map nz).reverse.map MV.str)[r.length]? = some (.str (nz k)) := by
  rw [List.getElem?_map, List.map_append, List.reverse_append, List.map_cons, List.reverse_cons]
  have : ((r.map nz).reverse ++ [nz k] ++ (pre.map nz).reverse)[r.length]? = some (nz k) := by
    rw [List.append_assoc, List.getElem?_append_right (by simp)]
    simp
  rw [this]; rfl
theorem behind_loop {m : Nat} {H : MH} (bl : List String) (hl : bl.length ≤ 60) (hH : H[m]? = some (.list ((bl.map nz).reverse.map .str))) (w flag : String) (hw : hang w = false) (hw2 : w ≠ "Other") (hw3 : w ≠ "") (hf : flag ≠ "at") (hf2 : flag ≠ "plain") :
    ∀ (r pre : List String) (k : Nat) (l : Loc) (b : Bool), bl = pre ++ r → r.length < k → l.lookup "plain" = some (.ref m) → l.lookup "at" = some (.int r.length) → l.lookup flag = some (.bool b) →
      ∃ l', whileF (tAnd (tCmp gtF (eN "at") (eC (.int 0))) (tAnd (tCmp eqF (eSub (eN "plain") (eBin subF (eN "at") (eC (.int 1)))) (eC (.str w))) tTrue)) (xCons (xAssign (eTup (lCons (eBin subF (eN "at") (eC (.int 1))) (lCons (eC (.bool true)) lNil))) (aRev ["at", flag])) xNil) k l H = some (.next, l', H) ∧
        l'.lookup "plain" = some (.ref m) ∧ l'.lookup "at" = some (.int (r.dropWhile (· == w)).length) ∧ l'.lookup flag = some (.bool (b || r.headD "" == w)) ∧ ∀ x, x ≠ "at" → x ≠ flag → l'.lookup x = l.lookup x
  | [], pre, k + 1, l, b, hb, hk, h1, h2, h3 => by
    refine ⟨l, w_false (H1 := H) ?_, h1, by rw [h2]; rfl, ?_, fun _ _ _ => rfl⟩
    · simp [tAnd, tCmp, eN, h2, eC, gtF, intC]
    · rw [h3]
      have q : (([] : List String).headD "" == w) = false := beq_eq_false_iff_ne.mpr fun q => hw3 q.symm
      rw [q, Bool.or_false]
  | x :: r, pre, k + 1, l, b, hb, hk, h1, h2, h3 => by
    have hlen : (x :: r).length ≤ 60 := by rw [hb, List.length_append] at hl; omega
    have hat : (((bl.map nz).reverse.map MV.str))[r.length]? = some (.str (nz x)) := by rw [hb]; exact plain_at pre r x
    have ei : (((x :: r).length : Nat) : Int) - 1 = (r.length : Int) := by simp
    have hitem : itemF (.ref m) (.int (r.length : Int)) H = some (.str (nz x)) := by
      unfold itemF
      dsimp only
      rw [hH]
      dsimp only
      unfold pickI
      have hr60 : r.length ≤ 60 := by
        rw [List.length_cons] at hlen
        omega
      rw [if_pos (by omega), if_pos (by omega)]
      simpa using hat
    have hT : tAnd (tCmp gtF (eN "at") (eC (.int 0))) (tAnd (tCmp eqF (eSub (eN "plain") (eBin subF (eN "at") (eC (.int 1)))) (eC (.str w))) tTrue) l H = some (x == w, H) := by
      have hpos : (0 : Int) < (r.length : Int) + 1 := by omega
      have e2 : ((r.length : Int) + 1) - 1 = (r.length : Int) := by omega
      have := nz_iff hw hw2 x
      cases hc : (x == w) <;> rw [hc] at this <;> simp [tAnd, tCmp, eN, h1, h2, eC, gtF, intC, hpos, eSub, eBin, subF, intB, e2, hitem, eq_str, this, tTrue]
    cases hc : (x == w) with
    | false =>
      rw [hc] at hT
      refine ⟨l, w_false hT, h1, ?_, ?_, fun _ _ _ => rfl⟩
      · rw [h2, List.dropWhile_cons_of_neg (by rw [hc]; decide)]
      · rw [h3]
        show _ = some (MV.bool (b || x == w))
        rw [hc, Bool.or_false]
    | true =>
      rw [hc] at hT
      have e2 : ((r.length : Int) + 1) - 1 = (r.length : Int) := by omega
      obtain ⟨l', q1, q2, q3, q4, q5⟩ := behind_loop bl hl hH w flag hw hw2 hw3 hf hf2 r (pre ++ [x]) k (setKV "at" (.int r.length) (setKV flag (.bool true) l)) true (by rw [hb]; simp) (by simp at hk; omega) (by simp [lookup_setKV, h1, Ne.symm hf2]) (by first | exact lke | exact lkn (by decide) lke | simp [lookup_setKV]) (by first | exact lkn (by decide) hf | exact lkn (by decide) (lkn (by decide) hf) | simp [lookup_setKV, hf])
      refine ⟨l', ?_, q2, ?_, ?_, fun y y1 y2 => by rw [q5 y y1 y2]; simp [lookup_setKV, y1, y2]⟩
      · rw [w_true hT (l2 := setKV "at" (.int r.length) (setKV flag (.bool true) l)) (H2 := H) (by simp [xCons, xNil, xAssign, eTup, lCons, lNil, eBin, subF, intB, eN, h2, eC, aRev, e2])]
        exact q1
      · rw [q3, List.dropWhile_cons_of_pos (p := (· == w)) hc]
      · rw [q4]
        show some (MV.bool (true || _)) = some (MV.bool (b || x == w))
        rw [hc]; simp
theorem E_behind {m : Nat} {H : MH} (bl : List String) (hl : bl.length ≤ 60) (hH : H[m]? = some (.list ((bl.map nz).reverse.map .str))) : ∃ cl, F_law_behind [.ref m] H = some (if T bl = "" then .none else .tup [.str (T bl), .bool cl, .bool (blank bl)], H) := by
  have hlen : ((bl.map nz).reverse.map MV.str).length ≤ 1000 := by simp; omega
  have Ln : lenF [.ref m] H = some (.int bl.length, H) := by
    unfold lenF anyL
    dsimp only
    rw [hH]
    dsimp only [Option.bind_some]
    rw [if_pos hlen]
    simp
  obtain ⟨l1, a1, a2, a3, a4, a5⟩ := behind_loop bl hl hH "Sp" "is_blank" (by decide) (by decide) (by decide) (by decide) (by decide) bl [] FU [("plain", .ref m), ("is_closed", .bool false), ("is_blank", .bool false), ("at", .int bl.length)] false rfl (by unfold FU; omega) (by simp [List.lookup_cons]) (by simp [List.lookup_cons]) (by simp [List.lookup_cons])
  obtain ⟨pre, hpre⟩ : ∃ pre, bl = pre ++ bl.dropWhile (· == "Sp") := ⟨bl.takeWhile (· == "Sp"), List.takeWhile_append_dropWhile.symm⟩
  have hdw : (bl.dropWhile (· == "Sp")).length < FU := by
    have := congrArg List.length hpre
    rw [List.length_append] at this
    unfold FU
    omega
  obtain ⟨l2, b1, b2, b3, b4, b5⟩ := behind_loop bl hl hH "Close" "is_closed" (by decide) (by decide) (by decide) (by decide) (by decide) (bl.dropWhile (· == "Sp")) pre FU l1 false hpre hdw a2 a3 (by rw [a5 _ (by decide) (by decide)]; simp [List.lookup_cons])
  have hblank : l2.lookup "is_blank" = some (.bool (blank bl)) := by rw [b5 _ (by decide) (by decide), a4]; rfl
  obtain ⟨pre2, hpre2⟩ : ∃ pre2, bl = pre2 ++ (bl.dropWhile (· == "Sp")).dropWhile (· == "Close") := ⟨pre ++ (bl.dropWhile (· == "Sp")).takeWhile (· == "Close"), by rw [List.append_assoc, List.takeWhile_append_dropWhile]; exact hpre⟩
  unfold F_law_behind T
  generalize hr : (bl.dropWhile (· == "Sp")).dropWhile (· == "Close") = r at *
  generalize ((bl.dropWhile (· == "Sp")).headD "" == "Close") = cl at *
  refine ⟨false || cl, fn_ret rfl ⟨_, x_next (l1 := [("plain", .ref m), ("is_closed", .bool false), ("is_blank", .bool false), ("at", .int bl.length)]) (H1 := H) (by simp [fnF, xCons, xNil, xRet, xRet0, xIf, xExpr, xAssign, eIf, eC, eN, eCmp, tCmp, tCmp2, eT, tNot, tAnd, tOr, tTrue, tFalse, eNot, eNeg, eAnd, eOr, eBin, intB, subF, addF, modF, divF, intC, ltF, leF, gtF, geF, eCall, lCons, lNil, eTup, eLst, eSub, itemF, pickI, eMeth, eAttr, aN, aTup, aCons, aNil, aRev, setKV, aAttr, aSub, putAttr, isData, listD, dictD, List.lookup_cons, Ln]) (x_next a1 (x_next b1 (x_ret (x_retv ?_))))⟩⟩
  cases r with
  | nil =>
    have : ¬ isTerm (([] : List String).headD "") = true := by decide
    rw [if_neg this]
    simp [fnF, xCons, xNil, xRet, xRet0, xIf, xExpr, xAssign, eIf, eC, eN, eCmp, tCmp, tCmp2, eT, tNot, tAnd, tOr, tTrue, tFalse, eNot, eNeg, eAnd, eOr, eBin, intB, subF, addF, modF, divF, intC, ltF, leF, gtF, geF, eCall, lCons, lNil, eTup, eLst, eSub, itemF, pickI, eMeth, eAttr, aN, aTup, aCons, aNil, aRev, setKV, aAttr, aSub, putAttr, isData, listD, dictD, List.lookup_cons, b3]
  | cons k r =>
    have hat := plain_at pre2 r k
    rw [← hpre2] at hat
    have hrl : (k :: r).length ≤ 60 := by rw [hpre2, List.length_append] at hl; omega
    have hr60 : r.length ≤ 60 := by rw [List.length_cons] at hrl; omega
    have hitem : itemF (.ref m) (.int (r.length : Int)) H = some (.str (nz k)) := by
      unfold itemF
      dsimp only
      rw [hH]
      dsimp only
      unfold pickI
      rw [if_pos (by omega), if_pos (by omega)]
      simpa using hat
    have hpos : (0 : Int) < (r.length : Int) + 1 := by omega
    have e2 : ((r.length : Int) + 1) - 1 = (r.length : Int) := by omega
    have hterm : isTerm (nz k) = isTerm k := by
      unfold nz
      cases h : hang k with
      | true => rcases (hang_iff k).mp h with rfl | rfl <;> rfl
      | false => rfl
    have ehd : (k :: r).headD "" = k := rfl
    rw [ehd]
    cases hk : isTerm k with
    | true =>
      have hn : nz k = k := by rcases (isTerm_iff k).mp hk with rfl | rfl <;> rfl
      have hke : k ≠ "" := by rcases (isTerm_iff k).mp hk with rfl | rfl <;> decide
      rw [if_pos rfl, if_neg hke]
      rw [hn] at hitem
      simp [eIf, tAnd, tTrue, tCmp, eN, b2, b3, b4, hblank, eC, gtF, intC, hpos, eSub, eBin, subF, intB, e2, hitem, in_AS, hk, eTup, lCons, lNil]
    | false =>
      simp only [Bool.false_eq_true, if_false, if_true]
      have hk2 : isTerm (nz k) = false := by rw [hterm]; exact hk
      simp [eIf, tAnd, tTrue, tCmp, eN, b2, b3, b4, hblank, eC, gtF, intC, hpos, eSub, eBin, subF, intB, e2, hitem, in_AS, hk2, eTup, lCons, lNil]
end Nt
end
section
open PySem PySem.SeqAt
namespace Nt
/-- nothing old is turned -/
structure Ex' (H H' : MH) : Prop where
  len : H.length ≤ H'.length
  old : ∀ j, j < H.length → H'[j]? = H[j]?
theorem Ex'.refl (H : MH) : Ex' H H := ⟨Nat.le_refl _, fun _ _ => rfl⟩
theorem Ex'.trans {H1 H2 H3 : MH} (a : Ex' H1 H2) (b : Ex' H2 H3) : Ex' H1 H3 := ⟨Nat.le_trans a.len b.len, fun j hj => (b.old j (Nat.lt_of_lt_of_le hj a.len)).trans (a.old j hj)⟩
theorem Ex'.app (H X : MH) : Ex' H (H ++ X) := ⟨by simp, fun j hj => List.getElem?_append_left hj⟩
theorem Ex'.get {H H' : MH} (a : Ex' H H') {j : Nat} {o : MO} (h : H[j]? = some o) : H'[j]? = some o := (a.old j (List.getElem?_eq_some_iff.mp h).1).trans h
theorem comp_loop' {src : MV} {x : String} {t : TrF} {g : EvF} {H1 : MH} {items : List MV} {l0 : Loc} (p : MV → Bool) (e : MV → MV) (hlen : items.length ≤ 60)
    (hit : ∀ (Hx : MH) (i : Nat), Ex' H1 Hx → iterAt src i Hx = some items[i]?)
    (ht : ∀ (i : Nat) (v : MV) (Hx : MH) (lx : Loc), items[i]? = some v → Ex' H1 Hx → (∀ y, y ≠ x → lx.lookup y = l0.lookup y) → ∃ H2, t (setKV x v lx) Hx = some (p v, H2) ∧ Ex' Hx H2)
    (hg : ∀ (i : Nat) (v : MV) (Hx : MH) (lx : Loc), items[i]? = some v → p v = true → Ex' H1 Hx → (∀ y, y ≠ x → lx.lookup y = l0.lookup y) → ∃ H2, g (setKV x v lx) Hx = some (e v, H2) ∧ Ex' Hx H2) :
    ∀ (d i k : Nat) (l : Loc) (Hx : MH), items.length - i = d → i ≤ items.length → d < k → Ex' H1 Hx → Hx[H1.length]? = some (.list (((items.take i).filter p).map e)) → (∀ y, y ≠ x → l.lookup y = l0.lookup y) →
      ∃ l' H', compF src (aN x) t g H1.length k i l Hx = some (l', H') ∧ Ex' H1 H' ∧ H'[H1.length]? = some (.list ((items.filter p).map e))
  | 0, i, k + 1, l, Hx, hd, hi, hk, hE, hA, hl => by
    have q : i = items.length := by omega
    subst q
    refine ⟨l, Hx, ?_, hE, by rw [List.take_length] at hA; exact hA⟩
    unfold compF
    rw [hit Hx _ hE, Option.bind_some, List.getElem?_eq_none (Nat.le_refl _)]
  | d + 1, i, k + 1, l, Hx, hd, hi, hk, hE, hA, hl => by
    have hlt : i < items.length := by omega
    have q : items[i]? = some items[i] := by simp
    have hts : items.take (i + 1) = items.take i ++ [items[i]] := by rw [List.take_add_one, q]; rfl
    obtain ⟨H2, t1, t2⟩ := ht i _ Hx l q hE hl
    have hl2 : ∀ y, y ≠ x → (setKV x items[i] l).lookup y = l0.lookup y := fun y hy => by rw [lookup_setKV, if_neg hy]; exact hl y hy
    unfold compF
    rw [hit Hx _ hE, Option.bind_some, q]
    dsimp only
    unfold aN
    rw [Option.bind_some]
    dsimp only
    rw [t1, Option.bind_some]
    dsimp only
    cases hp : p items[i] with
    | false =>
      simp only [Bool.false_eq_true, if_false]
      refine comp_loop' p e hlen hit ht hg d (i + 1) k _ H2 (by omega) (by omega) (by omega) (hE.trans t2) ?_ hl2
      rw [t2.get hA, hts, List.filter_append]
      simp [hp]
    | true =>
      simp only [if_true]
      obtain ⟨H3, g1, g2⟩ := hg i _ H2 l q hp (hE.trans t2) hl
      rw [g1, Option.bind_some]
      dsimp only
      have hA3 := g2.get (t2.get hA)
      have hal : (((items.take i).filter p).map e).length ≤ 1000 := by
        rw [List.length_map]
        have := List.length_filter_le p (items.take i)
        rw [List.length_take] at this
        omega
      have hap : appendF [.ref H1.length, e items[i]] H3 = some (.none, H3.set H1.length (.list (((items.take i).filter p).map e ++ [e items[i]]))) := by
        simp only [appendF, listD, hA3, Option.bind_some]
        rw [if_pos hal]
      rw [hap, Option.bind_some]
      dsimp only
      have hl3 : H1.length < H3.length := (List.getElem?_eq_some_iff.mp hA3).1
      have hE3 := (hE.trans t2).trans g2
      refine comp_loop' p e hlen hit ht hg d (i + 1) k _ _ (by omega) (by omega) (by omega) ⟨by rw [List.length_set]; exact hE3.len, fun j hj => by rw [List.getElem?_set_ne (by omega)]; exact hE3.old j hj⟩ ?_ hl2
      rw [List.getElem?_set_self hl3, hts, List.filter_append]
      simp [hp]
theorem comp_run {f : EvF} {fs : List String} {x : String} {t : TrF} {g : EvF} {l : Loc} {H H1 : MH} {src : MV} {items : List MV} (p : MV → Bool) (e : MV → MV) (hf : f l H = some (src, H1)) (hok : iterOk src H1 = true) (hlen : items.length ≤ 60)
    (hit : ∀ (Hx : MH) (i : Nat), Ex' H1 Hx → iterAt src i Hx = some items[i]?)
    (ht : ∀ (i : Nat) (v : MV) (Hx : MH) (lx : Loc), items[i]? = some v → Ex' H1 Hx → (∀ y, y ≠ x → lx.lookup y = (capt fs l).lookup y) → ∃ H2, t (setKV x v lx) Hx = some (p v, H2) ∧ Ex' Hx H2)
    (hg : ∀ (i : Nat) (v : MV) (Hx : MH) (lx : Loc), items[i]? = some v → p v = true → Ex' H1 Hx → (∀ y, y ≠ x → lx.lookup y = (capt fs l).lookup y) → ∃ H2, g (setKV x v lx) Hx = some (e v, H2) ∧ Ex' Hx H2) :
    ∃ H', eComp f fs (aN x) t g FU l H = some (.ref H1.length, H') ∧ Ex' H1 H' ∧ H'[H1.length]? = some (.list ((items.filter p).map e)) := by
  obtain ⟨l', H', q1, q2, q3⟩ := comp_loop' p e hlen hit ht hg items.length 0 FU (capt fs l) (H1 ++ [.list []]) rfl (Nat.zero_le _) (by unfold FU; omega) (Ex'.app _ _) (by simp) (fun _ _ => rfl)
  refine ⟨H', ?_, q2, q3⟩
  unfold eComp
  rw [hf, Option.bind_some]
  dsimp only
  rw [if_pos hok, q1]
  rfl
theorem iter_list {H Hx : MH} {m : Nat} {items : List MV} (h : H[m]? = some (.list items)) (E : Ex' H Hx) (i : Nat) : iterAt (.ref m) i Hx = some items[i]? := by
  unfold iterAt; dsimp only; rw [E.get h]
theorem iterOk_list {H : MH} {m : Nat} {items : List MV} (h : H[m]? = some (.list items)) : iterOk (.ref m) H = true := by
  unfold iterOk; dsimp only; rw [h]
/-! slices -/
theorem pick_from (l : List MV) (a : Nat) (ha : a ≤ l.length) : pickS l (some (a : Int)) none none = l.drop a := by
  have e : sliceBounds (some (a : Int)) none none l.length = ((a : Int), (l.length : Int), 1) := by
    simp only [sliceBounds, Option.getD_none]
    have h1 : ¬ ((a : Int) < 0) := by omega
    simp only [h1, if_false, show (1 : Int) > 0 by decide, if_true]
    congr 1
    omega
  unfold pickS
  rw [e]
  simp only [sliceRange_one]
  have := pick_run l.toArray a (l.length - a)
  have h2 : (fun x : Nat => l.toArray[x]?) = fun x : Nat => l[x]? := by funext x; simp
  rw [h2] at this
  rw [this]
  show (l.drop a).take (l.length - a) = l.drop a
  rw [List.take_of_length_le (by simp)]
theorem pick_upto (l : List MV) (b : Nat) (hb : b ≤ l.length) : pickS l none (some (b : Int)) none = l.take b := by
  have e : sliceBounds none (some (b : Int)) none l.length = (((0 : Nat) : Int), (b : Int), 1) := by
    simp only [sliceBounds, Option.getD_none]
    have h2 : ¬ ((b : Int) < 0) := by omega
    simp only [h2, if_false, show (1 : Int) > 0 by decide, if_true]
    congr 1
    congr 1; omega
  unfold pickS
  rw [e]
  simp only [sliceRange_one]
  have := pick_run l.toArray 0 (b - 0)
  have h2 : (fun x : Nat => l.toArray[x]?) = fun x : Nat => l[x]? := by funext x; simp
  rw [h2] at this
  rw [this]
  simp
end Nt
end
section
open PySem PySem.SeqAt
namespace Nt
theorem fn_ret2 {ps : List String} {fb : ExF} {args : List MV} {H : MH} {v : MV} (h : args.length = ps.length) (e : ∃ l H', fb (ps.zip args).reverse H = some (.ret v, l, H') ∧ Ex' H H') : ∃ H', fnF ps fb args H = some (v, H') ∧ Ex' H H' := by
  obtain ⟨l, H', e, E⟩ := e
  exact ⟨H', by unfold fnF; rw [if_pos h, e]; rfl, E⟩
theorem xx_next {f g : ExF} {l l1 : Loc} {H H1 : MH} {v : MV} (h : f l H = some (.next, l1, H1)) (E : Ex' H H1) (e : ∃ l' H', g l1 H1 = some (.ret v, l', H') ∧ Ex' H1 H') : ∃ l' H', xCons f g l H = some (.ret v, l', H') ∧ Ex' H H' := by
  obtain ⟨l', H', e, E2⟩ := e
  exact ⟨l', H', x_next h e, E.trans E2⟩
theorem xx_ret {f g : ExF} {l l1 : Loc} {H H1 : MH} {v : MV} (h : f l H = some (.ret v, l1, H1)) (E : Ex' H H1) : ∃ l' H', xCons f g l H = some (.ret v, l', H') ∧ Ex' H H' := ⟨l1, H1, x_ret h, E⟩
theorem xx_stop {t : TrF} {A B rest : ExF} {l l2 : Loc} {H H1 H2 : MH} {v : MV} (h : t l H = some (true, H1)) (E : Ex' H H1) (hA : A l H1 = some (.ret v, l2, H2)) (E2 : Ex' H1 H2) : ∃ l' H', xCons (xIf t A B) rest l H = some (.ret v, l', H') ∧ Ex' H H' :=
  ⟨l2, H2, x_ret (x_if h (by rw [if_pos rfl]; exact hA)), E.trans E2⟩
theorem xx_pass {t : TrF} {A rest : ExF} {l : Loc} {H H1 : MH} {v : MV} (h : t l H = some (false, H1)) (E : Ex' H H1) (e : ∃ l' H', rest l H1 = some (.ret v, l', H') ∧ Ex' H1 H') : ∃ l' H', xCons (xIf t A xNil) rest l H = some (.ret v, l', H') ∧ Ex' H H' :=
  xx_next (x_if h (by rw [if_neg (by decide)]; rfl)) E e
theorem xx_false {l : Loc} {H : MH} : xCons (xRet (eC (.bool false))) xNil l H = some (.ret (.bool false), l, H) := rfl
theorem item_ref {H : MH} {m : Nat} {items : List MV} (h : H[m]? = some (.list items)) (j : Nat) (hj : j ≤ 1000) : itemF (.ref m) (.int (j : Int)) H = items[j]? := by
  unfold itemF
  dsimp only
  rw [h]
  dsimp only
  unfold pickI
  rw [if_pos (by omega), if_pos (by omega)]
  simp
theorem item_last {H : MH} {m : Nat} {items : List MV} (h : H[m]? = some (.list items)) (h0 : 0 < items.length) (h1 : items.length ≤ 1000) : itemF (.ref m) (.int (-1)) H = items[items.length - 1]? := by
  unfold itemF
  dsimp only
  rw [h]
  dsimp only
  unfold pickI
  rw [if_neg (by omega), if_pos ⟨by omega, by omega⟩]
  congr 1
  omega
/-- the second last alone -/
theorem pick_two (l : List MV) (x y : MV) : pickS (l ++ [x, y]) (some (-2)) (some (-1)) none = [x] := by
  have e : sliceBounds (some (-2)) (some (-1)) none (l ++ [x, y]).length = ((l.length : Int), (l.length : Int) + 1, 1) := by
    simp only [sliceBounds, Option.getD_none, List.length_append, List.length_cons, List.length_nil]
    simp only [show (1 : Int) > 0 by decide, if_true, show ((-2 : Int) < 0) by decide, show ((-1 : Int) < 0) by decide]
    congr 1
    · omega
    · congr 1; omega
  unfold pickS
  rw [e]
  have : sliceRange (l.length : Int) ((l.length : Int) + 1) 1 = [l.length] := by
    have := sliceRange_one l.length (l.length + 1)
    push_cast at this
    rw [this]
    have : l.length + 1 - l.length = 1 := by omega
    rw [this]
    rfl
  rw [this]
  simp
theorem pick_one (x : MV) : pickS [x] (some (-2)) (some (-1)) none = [] := by
  have e : sliceBounds (some (-2)) (some (-1)) none [x].length = (((0 : Nat) : Int), ((0 : Nat) : Int), 1) := by
    simp [sliceBounds]
    omega
  unfold pickS
  rw [e]
  have := sliceRange_one 0 0
  simp only [this]
  rfl
noncomputable def D3 (bl : List String) (far : String) (goes : Bool) : Bool :=
  if bl.headD "" = "ATerm" ∧ far = "Numeric" then false
  else if bl.headD "" = "ATerm" ∧ cased (bl.tail.headD "") = true ∧ far = "Upper" then false
  else if T bl = "" then false
  else if T bl = "ATerm" ∧ goes = true then false
  else if ["SContinue", "ATerm", "STerm"].contains far = true then false
  else if blank bl = false ∧ far = "Close" then false
  else far != "Sp" && !para far
theorem D_D3 (last : String) (bl : List String) (far : String) (goes : Bool) : D last bl far goes = if last = "CR" ∧ far = "LF" then false else if para last = true then true else if hang far = true then false else D3 bl far goes := rfl
theorem nz_eqs (k : String) : (nz k == "ATerm") = (k == "ATerm") ∧ (nz k == "Upper") = (k == "Upper") ∧ (nz k == "Lower") = (k == "Lower") := ⟨nz_iff (by decide) (by decide) k, nz_iff (by decide) (by decide) k, nz_iff (by decide) (by decide) k⟩
theorem eqv_strs : ∀ (xs ys : List String), PyData.eqv (.list (xs.map fun x => PyData.str (S x))) (.list (ys.map fun x => PyData.str (S x))) = (xs == ys) := by
  have : ∀ (xs ys : List String), PyData.eqvAll (xs.map fun x => PyData.str (S x)) (ys.map fun x => PyData.str (S x)) = (xs == ys) := by
    intro xs
    induction xs with
    | nil => intro ys; cases ys <;> simp [PyData.eqvAll]
    | cons x xs ih =>
      intro ys
      cases ys with
      | nil => simp [PyData.eqvAll]
      | cons y ys =>
        rw [List.map_cons, List.map_cons, PyData.eqvAll, ih]
        have e : PyData.eqv (.str (S x)) (.str (S y)) = (S x == S y) := by simp [PyData.eqv]
        rw [e, S_beq]
        rfl
  intro xs ys
  rw [PyData.eqv, this]
theorem pyH_strs {H : MH} {m : Nat} {xs : List String} (h : H[m]? = some (.list (xs.map .str))) : pyH H (.ref m) = some (.list (xs.map fun x => PyData.str (S x))) := by
  unfold pyH
  dsimp only
  rw [h]
  dsimp only
  rw [mapO_map (f := pyT) (g := MV.str) (h := fun x => PyData.str (S x)) (fun x => rfl) xs]
  rfl
theorem eq_strs {H : MH} {a b : Nat} {xs ys : List String} (h1 : H[a]? = some (.list (xs.map .str))) (h2 : H[b]? = some (.list (ys.map .str))) : eqF (.ref a) (.ref b) H = some (xs == ys) := by
  unfold eqF
  rw [pyH_strs h1, Option.bind_some, pyH_strs h2, Option.map_some, eqv_strs]
/-- is a list of strs among two of them -/
theorem in_two {H : MH} {a b d : Nat} {xs ys zs : List String} (h1 : H[a]? = some (.list (xs.map .str))) (h2 : H[b]? = some (.list (ys.map .str))) (h3 : H[d]? = some (.list (zs.map .str))) : inF (.ref a) (.tup [.ref b, .ref d]) H = some ((ys == xs) || (zs == xs)) := by
  unfold inF
  dsimp only
  rw [pyH_strs h1, Option.bind_some]
  have e : mapO (pyH H) [.ref b, .ref d] = some [.list (ys.map fun x => PyData.str (S x)), .list (zs.map fun x => PyData.str (S x))] := by
    unfold mapO
    rw [pyH_strs h2, Option.bind_some]
    unfold mapO
    rw [pyH_strs h3, Option.bind_some]
    rfl
  rw [e, Option.bind_some]
  unfold among
  have nm : ∀ us vs : List String, noMix (.list (us.map fun x => PyData.str (S x))) (.list (vs.map fun x => PyData.str (S x))) = true := by
    have : ∀ us vs : List String, noMixAll (us.map fun x => PyData.str (S x)) (vs.map fun x => PyData.str (S x)) = true := by
      intro us
      induction us with
      | nil => intro vs; cases vs <;> simp [noMixAll]
      | cons u us ih =>
        intro vs
        cases vs with
        | nil => simp [noMixAll]
        | cons v vs =>
          rw [List.map_cons, List.map_cons, noMixAll, ih]
          simp [noMix]
    intro us vs
    rw [noMix, this]
  rw [if_pos (by simp [nm])]
  simp [eqv_strs]
end Nt
end
section
open PySem PySem.SeqAt
namespace Nt
theorem in_heavy (k : String) (H : MH) : inF (.str k) (.tup [.str "OLetter", .str "Upper", .str "Lower", .str "ATerm", .str "STerm"]) H = some (["OLetter", "Upper", "Lower", "ATerm", "STerm"].contains k) := in_strs ["OLetter", "Upper", "Lower", "ATerm", "STerm"] k H
theorem in_cont (k : String) (H : MH) : inF (.str k) (.tup [.str "SContinue", .str "ATerm", .str "STerm"]) H = some (["SContinue", "ATerm", "STerm"].contains k) := in_strs ["SContinue", "ATerm", "STerm"] k H
theorem stops_split (k : String) : stops k = (["OLetter", "Upper", "Lower", "ATerm", "STerm"].contains k || para k) := by
  cases h : stops k with
  | true => rcases (stops_iff k).mp h with rfl | rfl | rfl | rfl | rfl | rfl | rfl | rfl <;> rfl
  | false =>
    symm
    cases h2 : (["OLetter", "Upper", "Lower", "ATerm", "STerm"].contains k || para k) with
    | false => rfl
    | true =>
      rw [Bool.or_eq_true] at h2
      have : stops k = true := by
        rcases h2 with q | q
        · have : k = "OLetter" ∨ k = "Upper" ∨ k = "Lower" ∨ k = "ATerm" ∨ k = "STerm" := by simpa using q
          rcases this with rfl | rfl | rfl | rfl | rfl <;> rfl
        · rcases (para_iff k).mp q with rfl | rfl | rfl <;> rfl
      rw [h] at this; cases this
theorem pick_first (l : List MV) : pickS l none (some 1) none = l.take 1 := by
  cases l with
  | nil =>
    have e : sliceBounds none (some 1) none ([] : List MV).length = (((0 : Nat) : Int), ((0 : Nat) : Int), 1) := by
      simp [sliceBounds]
      omega
    unfold pickS
    rw [e]
    have := sliceRange_one 0 0
    simp only [this]
    rfl
  | cons x l => exact pick_upto (x :: l) 1 (by simp)
theorem tCmp_run {F : CmpF} {f g : EvF} {l : Loc} {H H1 H2 : MH} {a b : MV} {r : Bool} (h1 : f l H = some (a, H1)) (h2 : g l H1 = some (b, H2)) (h3 : F a b H2 = some r) : tCmp F f g l H = some (r, H2) := by
  unfold tCmp
  rw [h1, Option.bind_some]
  dsimp only
  rw [h2, Option.bind_some]
  dsimp only
  rw [h3]
  rfl
theorem and_no {f g : TrF} {l : Loc} {H H1 : MH} (h : f l H = some (false, H1)) : tAnd f g l H = some (false, H1) := by
  unfold tAnd; rw [h]; rfl
theorem and_go {f g : TrF} {l : Loc} {H H1 : MH} {r : Option (Bool × MH)} (h : f l H = some (true, H1)) (e : g l H1 = r) : tAnd f g l H = r := by
  unfold tAnd; rw [h, Option.bind_some]; dsimp only; rw [if_pos rfl]; exact e
noncomputable def stopV (v : MV) : Bool := match v with
  | .str k => stops k
  | _ => false
theorem filter_map_str (q : MV → Bool) (p : String → Bool) (h : ∀ k, q (.str k) = p k) : ∀ l : List String, (l.map MV.str).filter q = (l.filter p).map MV.str
  | [] => rfl
  | k :: l => by
    rw [List.map_cons, List.filter_cons, List.filter_cons, filter_map_str q p h l, h]
    cases p k <;> simp
theorem weighty_part {H : MH} {l : Loc} {rs : Nat} {rest : List String} (hr : rest.length ≤ 60) (hrs : H[rs]? = some (.list (rest.map .str))) (l2 : l.lookup "rest" = some (.ref rs)) :
    ∃ H', xAssign (eComp (eN "rest") [] (aN "kind") (tOr (tCmp inF (eN "kind") (eTup (lCons (eC (.str "OLetter")) (lCons (eC (.str "Upper")) (lCons (eC (.str "Lower")) (lCons (eC (.str "ATerm")) (lCons (eC (.str "STerm")) lNil))))))) (tOr (tCmp inF (eN "kind") (eC V_law_ends)) tFalse)) (eN "kind") FU) (aN "weighty") l H
      = some (.next, setKV "weighty" (.ref H.length) l, H') ∧ Ex' H H' ∧ H'[H.length]? = some (.list ((rest.filter stops).map .str)) := by
  obtain ⟨H', q1, q2, q3⟩ := comp_run (f := eN "rest") (fs := []) (x := "kind") (l := l) (H := H) (H1 := H) (src := .ref rs) (items := rest.map .str) stopV id (by simp [eN, l2]) (iterOk_list hrs) (by simpa using hr) (fun Hx i E => iter_list hrs E i)
    (t := tOr (tCmp inF (eN "kind") (eTup (lCons (eC (.str "OLetter")) (lCons (eC (.str "Upper")) (lCons (eC (.str "Lower")) (lCons (eC (.str "ATerm")) (lCons (eC (.str "STerm")) lNil))))))) (tOr (tCmp inF (eN "kind") (eC V_law_ends)) tFalse)) (g := eN "kind")
    (fun i v Hx lx hv E hl => by
      rw [List.getElem?_map] at hv
      obtain ⟨k, hk, rfl⟩ := Option.map_eq_some_iff.mp hv
      refine ⟨Hx, ?_, Ex'.refl Hx⟩
      show _ = some (stops k, Hx)
      rw [stops_split]
      have a1 := tCmp_run (F := inF) (f := eN "kind") (g := eTup (lCons (eC (.str "OLetter")) (lCons (eC (.str "Upper")) (lCons (eC (.str "Lower")) (lCons (eC (.str "ATerm")) (lCons (eC (.str "STerm")) lNil)))))) (l := setKV "kind" (.str k) lx) (H := Hx) (by first | exact n_run lke | exact n_run (lkn (by decide) lke) | simp [eN, lookup_setKV]; rfl) (by rfl) (in_heavy k Hx)
      have a2 := tCmp_run (F := inF) (f := eN "kind") (g := eC V_law_ends) (l := setKV "kind" (.str k) lx) (H := Hx) (by first | exact n_run lke | exact n_run (lkn (by decide) lke) | simp [eN, lookup_setKV]; rfl) (by rfl) (in_ENDS k Hx)
      unfold tOr
      rw [a1, Option.bind_some]
      dsimp only
      cases h1 : ["OLetter", "Upper", "Lower", "ATerm", "STerm"].contains k with
      | true => rw [if_pos rfl]; rfl
      | false =>
        simp only [Bool.false_eq_true, if_false]
        rw [a2, Option.bind_some]
        dsimp only
        cases h2 : para k with
        | true => rfl
        | false => rfl)
    (fun i v Hx lx hv hp E hl => ⟨Hx, by first | exact n_run lke | exact n_run (lkn (by decide) lke) | simp [eN, lookup_setKV], Ex'.refl Hx⟩)
  refine ⟨H', ?_, q2, ?_⟩
  · unfold xAssign
    rw [q1]
    rfl
  · rw [q3, List.map_id, filter_map_str stopV stops (fun _ => rfl)]
set_option maxHeartbeats 2000000 in
theorem tail_part {H : MH} {l : Loc} {pl rs : Nat} {x far : String} {tl rest : List String} (hl : (x :: tl).length ≤ 60) (hr : rest.length ≤ 60) (hpl : H[pl]? = some (.list (((x :: tl).map nz).reverse.map .str))) (hrs : H[rs]? = some (.list (rest.map .str)))
    (l1 : l.lookup "plain" = some (.ref pl)) (l2 : l.lookup "rest" = some (.ref rs)) (l3 : l.lookup "far" = some (.str far)) :
    ∃ l' H', (xCons (xIf (tAnd (tCmp eqF (eSub (eN "plain") (eNeg (eC (.int 1)))) (eC (.str "ATerm"))) (tAnd (tCmp eqF (eN "far") (eC (.str "Numeric"))) tTrue)) (xCons (xRet (eC (.bool false))) xNil) xNil) (xCons (xIf (tAnd (tCmp eqF (eSub (eN "plain") (eNeg (eC (.int 1)))) (eC (.str "ATerm"))) (tAnd (tCmp inF (eSlice (eN "plain") (pSo (eNeg (eC (.int 2)))) (pSo (eNeg (eC (.int 1)))) pNo) (eTup (lCons (eLst (lCons (eC (.str "Upper")) lNil)) (lCons (eLst (lCons (eC (.str "Lower")) lNil)) lNil)))) (tAnd (tCmp eqF (eN "far") (eC (.str "Upper"))) tTrue))) (xCons (xRet (eC (.bool false))) xNil) xNil) (xCons (xAssign (eCall F_law_behind (lCons (eN "plain") lNil)) (aN "told")) (xCons (xIf (tCmp isF (eN "told") (eC .none)) (xCons (xRet (eC (.bool false))) xNil) xNil) (xCons (xIf (tCmp eqF (eSub (eN "told") (eC (.int 0))) (eC (.str "ATerm"))) (xCons (xAssign (eComp (eN "rest") [] (aN "kind") (tOr (tCmp inF (eN "kind") (eTup (lCons (eC (.str "OLetter")) (lCons (eC (.str "Upper")) (lCons (eC (.str "Lower")) (lCons (eC (.str "ATerm")) (lCons (eC (.str "STerm")) lNil))))))) (tOr (tCmp inF (eN "kind") (eC V_law_ends)) tFalse)) (eN "kind") FU) (aN "weighty")) (xCons (xIf (tCmp eqF (eSlice (eN "weighty") pNo (pSo (eC (.int 1))) pNo) (eLst (lCons (eC (.str "Lower")) lNil))) (xCons (xRet (eC (.bool false))) xNil) xNil) xNil)) xNil) (xCons (xIf (tCmp inF (eN "far") (eTup (lCons (eC (.str "SContinue")) (lCons (eC (.str "ATerm")) (lCons (eC (.str "STerm")) lNil))))) (xCons (xRet (eC (.bool false))) xNil) xNil) (xCons (xIf (tAnd (tNot (eT (eSub (eN "told") (eC (.int 2))))) (tAnd (tCmp eqF (eN "far") (eC (.str "Close"))) tTrue)) (xCons (xRet (eC (.bool false))) xNil) xNil) (xCons (xRet (eAnd (eCmp neF (eN "far") (eC (.str "Sp"))) (eCmp notInF (eN "far") (eC V_law_ends)))) xNil)))))))) l H
      = some (.ret (.bool (D3 (x :: tl) far ((rest.filter stops).take 1 == ["Lower"]))), l', H') ∧ Ex' H H' := by
  have hlen : (((x :: tl).map nz).reverse.map MV.str).length ≤ 1000 := by simp at hl ⊢; omega
  have hitem : itemF (.ref pl) (.int (-1)) H = some (.str (nz x)) := by
    rw [item_last hpl (by simp) hlen]
    have := plain_at [] tl x
    simp only [List.nil_append] at this
    rw [← this]
    congr 1
    simp
  obtain ⟨nz1, nz2, nz3⟩ := nz_eqs x
  unfold D3
  have ehd : (x :: tl).headD "" = x := rfl
  have etl : (x :: tl).tail = tl := rfl
  rw [ehd, etl]
  by_cases c1 : x = "ATerm" ∧ far = "Numeric"
  · rw [if_pos c1]
    obtain ⟨c1a, c1b⟩ := c1
    subst c1a c1b
    exact xx_stop (H1 := H) (by simp [fnF, xCons, xNil, xRet, xRet0, xIf, xExpr, xAssign, eIf, eC, eN, eCmp, tCmp, tCmp2, eT, tNot, tAnd, tOr, tTrue, tFalse, eNot, eNeg, eAnd, eOr, eBin, intB, subF, addF, modF, divF, intC, ltF, leF, gtF, geF, eCall, lCons, lNil, eTup, eLst, eSub, eMeth, eAttr, aN, aTup, aCons, aNil, aRev, setKV, aAttr, aSub, putAttr, isData, listD, dictD, List.lookup_cons, l1, l3, hitem, eq_str, nz1]) (Ex'.refl H) xx_false (Ex'.refl H)
  rw [if_neg c1]
  refine xx_pass (H1 := H) ?_ (Ex'.refl H) ?_
  · by_cases q : x = "ATerm"
    · have : (far == "Numeric") = false := beq_eq_false_iff_ne.mpr fun e => c1 ⟨q, e⟩
      cases hx : (x == "ATerm") <;> simp [fnF, xCons, xNil, xRet, xRet0, xIf, xExpr, xAssign, eIf, eC, eN, eCmp, tCmp, tCmp2, eT, tNot, tAnd, tOr, tTrue, tFalse, eNot, eNeg, eAnd, eOr, eBin, intB, subF, addF, modF, divF, intC, ltF, leF, gtF, geF, eCall, lCons, lNil, eTup, eLst, eSub, eMeth, eAttr, aN, aTup, aCons, aNil, aRev, setKV, aAttr, aSub, putAttr, isData, listD, dictD, List.lookup_cons, l1, l3, hitem, eq_str, nz1, this, hx]
    · have : (x == "ATerm") = false := beq_eq_false_iff_ne.mpr q
      simp [fnF, xCons, xNil, xRet, xRet0, xIf, xExpr, xAssign, eIf, eC, eN, eCmp, tCmp, tCmp2, eT, tNot, tAnd, tOr, tTrue, tFalse, eNot, eNeg, eAnd, eOr, eBin, intB, subF, addF, modF, divF, intC, ltF, leF, gtF, geF, eCall, lCons, lNil, eTup, eLst, eSub, eMeth, eAttr, aN, aTup, aCons, aNil, aRev, setKV, aAttr, aSub, putAttr, isData, listD, dictD, List.lookup_cons, l1, l3, hitem, eq_str, nz1, this]
  have step8 : ∃ H1, tAnd (tCmp eqF (eSub (eN "plain") (eNeg (eC (.int 1)))) (eC (.str "ATerm"))) (tAnd (tCmp inF (eSlice (eN "plain") (pSo (eNeg (eC (.int 2)))) (pSo (eNeg (eC (.int 1)))) pNo) (eTup (lCons (eLst (lCons (eC (.str "Upper")) lNil)) (lCons (eLst (lCons (eC (.str "Lower")) lNil)) lNil)))) (tAnd (tCmp eqF (eN "far") (eC (.str "Upper"))) tTrue)) l H
      = some (decide (x = "ATerm" ∧ cased (tl.headD "") = true ∧ far = "Upper"), H1) ∧ Ex' H H1 := by
    by_cases q : x = "ATerm"
    · subst q
      have e1 : tCmp eqF (eSub (eN "plain") (eNeg (eC (.int 1)))) (eC (.str "ATerm")) l H = some (true, H) := by simp [fnF, xCons, xNil, xRet, xRet0, xIf, xExpr, xAssign, eIf, eC, eN, eCmp, tCmp, tCmp2, eT, tNot, tAnd, tOr, tTrue, tFalse, eNot, eNeg, eAnd, eOr, eBin, intB, subF, addF, modF, divF, intC, ltF, leF, gtF, geF, eCall, lCons, lNil, eTup, eLst, eSub, eMeth, eAttr, aN, aTup, aCons, aNil, aRev, setKV, aAttr, aSub, putAttr, isData, listD, dictD, List.lookup_cons, l1, hitem, eq_str, nz1]
      obtain ⟨sl, hsl, hcs⟩ : ∃ sl : List String, pickS ((("ATerm" :: tl).map nz).reverse.map MV.str) (some (-2)) (some (-1)) none = sl.map .str ∧ ((["Upper"] == sl) || (["Lower"] == sl)) = cased (tl.headD "") := by
        cases tl with
        | nil => exact ⟨[], by simp [pick_one], by rfl⟩
        | cons y t =>
          refine ⟨[nz y], ?_, ?_⟩
          · have := pick_two ((t.map nz).reverse.map .str) (.str (nz y)) (.str (nz "ATerm"))
            simpa using this
          · obtain ⟨y1, y2, y3⟩ := nz_eqs y
            show ((["Upper"] == [nz y]) || (["Lower"] == [nz y])) = cased y
            have h1 : (["Upper"] == [nz y]) = (nz y == "Upper") := by
              rw [show (["Upper"] == [nz y]) = ("Upper" == nz y) from by simp, Bool.beq_comm]
            have h2 : (["Lower"] == [nz y]) = (nz y == "Lower") := by
              rw [show (["Lower"] == [nz y]) = ("Lower" == nz y) from by simp, Bool.beq_comm]
            rw [h1, h2, y2, y3]
            by_cases f1 : y = "Upper" <;> by_cases f2 : y = "Lower" <;> simp [cased, f1, f2]
      have e2 : eSlice (eN "plain") (pSo (eNeg (eC (.int 2)))) (pSo (eNeg (eC (.int 1)))) pNo l H = some (.ref H.length, H ++ [MO.list (sl.map .str)]) := by
        have ha : anyL (.ref pl) H = some ((("ATerm" :: tl).map nz).reverse.map MV.str) := by unfold anyL; dsimp only; rw [hpl]
        unfold eSlice pSo pNo
        have f1 : eN "plain" l H = some (.ref pl, H) := by simp [eN, l1]
        rw [f1, Option.bind_some]
        dsimp only [eNeg, eC, Option.bind_some]
        rw [ha, Option.bind_some, if_pos ⟨hlen, by simp⟩, hsl]
      have e3 : eTup (lCons (eLst (lCons (eC (.str "Upper")) lNil)) (lCons (eLst (lCons (eC (.str "Lower")) lNil)) lNil)) l (H ++ [MO.list (sl.map .str)]) = some (.tup [.ref (H ++ [MO.list (sl.map .str)]).length, .ref (H ++ [MO.list (sl.map .str)] ++ [MO.list [.str "Upper"]]).length], H ++ [MO.list (sl.map .str)] ++ [MO.list [.str "Upper"]] ++ [MO.list [.str "Lower"]]) := by
        simp [eTup, lCons, lNil, eLst, eC]
      have e4 : inF (.ref H.length) (.tup [.ref (H ++ [MO.list (sl.map .str)]).length, .ref (H ++ [MO.list (sl.map .str)] ++ [MO.list [.str "Upper"]]).length]) (H ++ [MO.list (sl.map .str)] ++ [MO.list [.str "Upper"]] ++ [MO.list [.str "Lower"]]) = some (cased (tl.headD "")) := by
        rw [← hcs]
        refine in_two (xs := sl) (ys := ["Upper"]) (zs := ["Lower"]) ?_ ?_ ?_
        · rw [List.getElem?_append_left (by simp), List.getElem?_append_left (by simp)]; simp
        · rw [List.getElem?_append_left (by simp)]; simp
        · simp
      have e5 : tCmp inF (eSlice (eN "plain") (pSo (eNeg (eC (.int 2)))) (pSo (eNeg (eC (.int 1)))) pNo) (eTup (lCons (eLst (lCons (eC (.str "Upper")) lNil)) (lCons (eLst (lCons (eC (.str "Lower")) lNil)) lNil))) l H = some (cased (tl.headD ""), H ++ [MO.list (sl.map .str)] ++ [MO.list [.str "Upper"]] ++ [MO.list [.str "Lower"]]) := by
        unfold tCmp
        rw [e2, Option.bind_some]
        dsimp only
        rw [e3, Option.bind_some]
        dsimp only
        rw [e4]
        rfl
      refine ⟨H ++ [MO.list (sl.map .str)] ++ [MO.list [.str "Upper"]] ++ [MO.list [.str "Lower"]], ?_, ((Ex'.app H _).trans (Ex'.app _ _)).trans (Ex'.app _ _)⟩
      unfold tAnd
      rw [e1, Option.bind_some]
      dsimp only
      rw [if_pos rfl]
      rw [e5, Option.bind_some]
      dsimp only
      cases hc : cased (tl.headD "") with
      | false => simp
      | true =>
        rw [if_pos rfl]
        cases hf : (far == "Upper") with
        | false =>
          have : far ≠ "Upper" := by simpa using hf
          simp [tAnd, tCmp, eN, l3, eC, eq_str, hf, tTrue, this]
        | true =>
          have : far = "Upper" := by simpa using hf
          simp [tAnd, tCmp, eN, l3, eC, eq_str, hf, tTrue, this]
    · refine ⟨H, ?_, Ex'.refl H⟩
      have : (x == "ATerm") = false := beq_eq_false_iff_ne.mpr q
      simp [fnF, xCons, xNil, xRet, xRet0, xIf, xExpr, xAssign, eIf, eC, eN, eCmp, tCmp, tCmp2, eT, tNot, tAnd, tOr, tTrue, tFalse, eNot, eNeg, eAnd, eOr, eBin, intB, subF, addF, modF, divF, intC, ltF, leF, gtF, geF, eCall, lCons, lNil, eTup, eLst, eSub, eMeth, eAttr, aN, aTup, aCons, aNil, aRev, setKV, aAttr, aSub, putAttr, isData, listD, dictD, List.lookup_cons, l1, l3, hitem, eq_str, nz1, this, q]
  obtain ⟨H1, s8, E8⟩ := step8
  by_cases c2 : x = "ATerm" ∧ cased (tl.headD "") = true ∧ far = "Upper"
  · rw [if_pos c2]
    rw [decide_eq_true c2] at s8
    exact xx_stop s8 E8 xx_false (Ex'.refl H1)
  rw [if_neg c2]
  rw [decide_eq_false c2] at s8
  refine xx_pass s8 E8 ?_
  have hpl1 := E8.get hpl
  have hrs1 := E8.get hrs
  obtain ⟨cl, hbh⟩ := E_behind (x :: tl) hl hpl1
  refine xx_next (l1 := setKV "told" (if T (x :: tl) = "" then .none else .tup [.str (T (x :: tl)), .bool cl, .bool (blank (x :: tl))]) l) (H1 := H1) (by simp [xAssign, eCall, lCons, lNil, eN, l1, hbh, aN]) (Ex'.refl H1) ?_
  by_cases c3 : T (x :: tl) = ""
  · rw [if_pos c3, if_pos c3]
    exact xx_stop (H1 := H1) (by simp [tCmp, eN, lookup_setKV, eC, isF]) (Ex'.refl H1) xx_false (Ex'.refl H1)
  rw [if_neg c3, if_neg c3]
  refine xx_pass (H1 := H1) (by simp [tCmp, eN, lookup_setKV, eC, isF]) (Ex'.refl H1) ?_
  have hT0 : tCmp eqF (eSub (eN "told") (eC (.int 0))) (eC (.str "ATerm")) (setKV "told" (.tup [.str (T (x :: tl)), .bool cl, .bool (blank (x :: tl))]) l) H1 = some (T (x :: tl) == "ATerm", H1) := by
    simp [tCmp, eSub, eN, lookup_setKV, eC, itemF, pickI, eq_str]
  have hT2 : ∀ H : MH, itemF (.tup [.str (T (x :: tl)), .bool cl, .bool (blank (x :: tl))]) (.int 2) H = some (.bool (blank (x :: tl))) := by
    intro H; simp [itemF, pickI]
  -- the last three tests
  have fin : ∀ (l : Loc) (H : MH), l.lookup "told" = some (.tup [.str (T (x :: tl)), .bool cl, .bool (blank (x :: tl))]) → l.lookup "far" = some (.str far) →
      ∃ l' H', (xCons (xIf (tCmp inF (eN "far") (eTup (lCons (eC (.str "SContinue")) (lCons (eC (.str "ATerm")) (lCons (eC (.str "STerm")) lNil))))) (xCons (xRet (eC (.bool false))) xNil) xNil) (xCons (xIf (tAnd (tNot (eT (eSub (eN "told") (eC (.int 2))))) (tAnd (tCmp eqF (eN "far") (eC (.str "Close"))) tTrue)) (xCons (xRet (eC (.bool false))) xNil) xNil) (xCons (xRet (eAnd (eCmp neF (eN "far") (eC (.str "Sp"))) (eCmp notInF (eN "far") (eC V_law_ends)))) xNil))) l H
        = some (.ret (.bool (if ["SContinue", "ATerm", "STerm"].contains far = true then false else if blank (x :: tl) = false ∧ far = "Close" then false else far != "Sp" && !para far)), l', H') ∧ Ex' H H' := by
    intro l H m1 m2
    cases hc : ["SContinue", "ATerm", "STerm"].contains far with
    | true =>
      rw [if_pos rfl]
      exact xx_stop (H1 := H) (tCmp_run (a := .str far) (H1 := H) (by simp [eN, m2]) (by rfl) ((in_cont far H).trans (by rw [hc]))) (Ex'.refl H) xx_false (Ex'.refl H)
    | false =>
      simp only [Bool.false_eq_true, if_false]
      refine xx_pass (H1 := H) (tCmp_run (a := .str far) (H1 := H) (by simp [eN, m2]) (by rfl) ((in_cont far H).trans (by rw [hc]))) (Ex'.refl H) ?_
      have g1 : eSub (eN "told") (eC (.int 2)) l H = some (.bool (blank (x :: tl)), H) := by
        unfold eSub
        rw [show eN "told" l H = some (.tup [.str (T (x :: tl)), .bool cl, .bool (blank (x :: tl))], H) from by simp [eN, m1]]
        dsimp only [Option.bind_some, eC]
        rw [hT2]
        rfl
      have g3 : tNot (eT (eSub (eN "told") (eC (.int 2)))) l H = some (!blank (x :: tl), H) := by
        unfold tNot eT
        rw [g1]
        rfl
      have g4 : tAnd (tCmp eqF (eN "far") (eC (.str "Close"))) tTrue l H = some (far == "Close", H) := by
        unfold tAnd
        rw [tCmp_run (a := .str far) (H1 := H) (b := .str "Close") (H2 := H) (r := far == "Close") (by simp [eN, m2]) (by rfl) (eq_str far "Close" H)]
        cases (far == "Close") <;> rfl
      by_cases c5 : blank (x :: tl) = false ∧ far = "Close"
      · rw [if_pos c5]
        refine xx_stop (H1 := H) ?_ (Ex'.refl H) xx_false (Ex'.refl H)
        have hf : (far == "Close") = true := by rw [c5.2]; rfl
        rw [c5.1] at g3
        rw [hf] at g4
        exact and_go g3 g4
      · rw [if_neg c5]
        refine xx_pass (H1 := H) ?_ (Ex'.refl H) ?_
        · cases hb : blank (x :: tl) with
          | true =>
            rw [hb] at g3
            exact and_no g3
          | false =>
            have : (far == "Close") = false := beq_eq_false_iff_ne.mpr fun e => c5 ⟨hb, e⟩
            rw [hb] at g3
            rw [this] at g4
            exact and_go g3 g4
        · refine xx_ret (l1 := l) (H1 := H) ?_ (Ex'.refl H)
          cases h1 : (far == "Sp") <;> cases h2 : para far <;> simp [xRet, eAnd, eCmp, eN, m2, eC, ne_eq', eq_str, notIn_eq, in_ENDS, h1, h2, bne]
  cases hTA : (T (x :: tl) == "ATerm") with
  | false =>
    have hTn : ¬ (T (x :: tl) = "ATerm" ∧ ((rest.filter stops).take 1 == ["Lower"]) = true) := by
      rintro ⟨q, _⟩
      rw [q] at hTA
      cases hTA
    rw [if_neg hTn]
    rw [hTA] at hT0
    exact xx_pass hT0 (Ex'.refl H1) (fin _ H1 (by first | exact lke | exact lkn (by decide) lke | simp [lookup_setKV]) (by first | exact lkn (by decide) l3 | exact lkn (by decide) (lkn (by decide) l3) | simp [lookup_setKV, l3]))
  | true =>
    have hTe : T (x :: tl) = "ATerm" := by simpa using hTA
    rw [hTA] at hT0
    obtain ⟨H2, w1, w2, w3⟩ := weighty_part (l := setKV "told" (.tup [.str (T (x :: tl)), .bool cl, .bool (blank (x :: tl))]) l) hr hrs1 (by first | exact lkn (by decide) l2 | exact lkn (by decide) (lkn (by decide) l2) | simp [lookup_setKV, l2])
    have hwl : ((rest.filter stops).map MV.str).length ≤ 1000 := by
      rw [List.length_map]
      have := List.length_filter_le stops rest
      omega
    have e2 : eSlice (eN "weighty") pNo (pSo (eC (.int 1))) pNo (setKV "weighty" (.ref H1.length) (setKV "told" (.tup [.str (T (x :: tl)), .bool cl, .bool (blank (x :: tl))]) l)) H2 = some (.ref H2.length, H2 ++ [MO.list (((rest.filter stops).take 1).map .str)]) := by
      have ha : anyL (.ref H1.length) H2 = some ((rest.filter stops).map MV.str) := by unfold anyL; dsimp only; rw [w3]
      unfold eSlice pSo pNo
      have f1 : eN "weighty" (setKV "weighty" (.ref H1.length) (setKV "told" (.tup [.str (T (x :: tl)), .bool cl, .bool (blank (x :: tl))]) l)) H2 = some (.ref H1.length, H2) := by first | exact n_run lke | exact n_run (lkn (by decide) lke) | simp [eN, lookup_setKV]
      rw [f1, Option.bind_some]
      dsimp only [eC, Option.bind_some]
      rw [ha, Option.bind_some, if_pos ⟨hwl, by simp⟩, pick_first, List.map_take]
    have e3 : tCmp eqF (eSlice (eN "weighty") pNo (pSo (eC (.int 1))) pNo) (eLst (lCons (eC (.str "Lower")) lNil)) (setKV "weighty" (.ref H1.length) (setKV "told" (.tup [.str (T (x :: tl)), .bool cl, .bool (blank (x :: tl))]) l)) H2 = some ((rest.filter stops).take 1 == ["Lower"], H2 ++ [MO.list (((rest.filter stops).take 1).map .str)] ++ [MO.list [.str "Lower"]]) := by
      have e4 : eLst (lCons (eC (.str "Lower")) lNil) (setKV "weighty" (.ref H1.length) (setKV "told" (.tup [.str (T (x :: tl)), .bool cl, .bool (blank (x :: tl))]) l)) (H2 ++ [MO.list (((rest.filter stops).take 1).map .str)]) = some (.ref (H2 ++ [MO.list (((rest.filter stops).take 1).map .str)]).length, H2 ++ [MO.list (((rest.filter stops).take 1).map .str)] ++ [MO.list [.str "Lower"]]) := by
        simp [eLst, lCons, lNil, eC]
      unfold tCmp
      rw [e2, Option.bind_some]
      dsimp only
      rw [e4, Option.bind_some]
      dsimp only
      rw [eq_strs (xs := (rest.filter stops).take 1) (ys := ["Lower"]) (by rw [List.getElem?_append_left (by simp)]; simp) (by simp)]
      rfl
    have E3 : Ex' H2 (H2 ++ [MO.list (((rest.filter stops).take 1).map .str)] ++ [MO.list [.str "Lower"]]) := (Ex'.app _ _).trans (Ex'.app _ _)
    cases hgo : ((rest.filter stops).take 1 == ["Lower"]) with
    | true =>
      rw [if_pos ⟨hTe, rfl⟩]
      rw [hgo] at e3
      exact xx_stop hT0 (Ex'.refl H1) (x_next w1 (x_ret (x_if e3 (by rw [if_pos rfl]; exact xx_false)))) (w2.trans E3)
    | false =>
      rw [if_neg (by rintro ⟨_, q⟩; cases q)]
      rw [hgo] at e3
      refine xx_next (l1 := setKV "weighty" (.ref H1.length) (setKV "told" (.tup [.str (T (x :: tl)), .bool cl, .bool (blank (x :: tl))]) l)) (x_if hT0 (by rw [if_pos rfl]; exact x_next w1 (x_next (x_if e3 (by rw [if_neg (by decide)]; rfl)) rfl))) (w2.trans E3) (fin _ _ (by first | exact lke | exact lkn (by decide) lke | simp [lookup_setKV]) (by first | exact lkn (by decide) l3 | exact lkn (by decide) (lkn (by decide) l3) | simp [lookup_setKV, l3]))
end Nt
end
section
open PySem PySem.SeqAt
namespace Nt
theorem lenF_list {H : MH} {m : Nat} {items : List MV} (h : H[m]? = some (.list items)) (hl : items.length ≤ 1000) : lenF [.ref m] H = some (.int items.length, H) := by
  unfold lenF anyL
  dsimp only
  rw [h]
  dsimp only [Option.bind_some]
  rw [if_pos hl]
theorem slice_run {f : EvF} {lo hi : EvPF} {l : Loc} {H : MH} {m : Nat} {items : List MV} {a b : Option Int} (hf : f l H = some (.ref m, H)) (h1 : lo l H = some (a, H)) (h2 : hi l H = some (b, H)) (h : H[m]? = some (.list items)) (hl : items.length ≤ 1000) :
    eSlice f lo hi pNo l H = some (.ref H.length, H ++ [.list (pickS items a b none)]) := by
  have ha : anyL (.ref m) H = some items := by unfold anyL; dsimp only; rw [h]
  unfold eSlice pNo
  rw [hf, Option.bind_some]
  dsimp only
  rw [h1, Option.bind_some]
  dsimp only
  rw [h2, Option.bind_some]
  dsimp only [Option.bind_some]
  rw [ha, Option.bind_some, if_pos ⟨hl, by simp⟩]
theorem lcons_run {f : EvF} {g : EvLF} {l : Loc} {H H1 H2 : MH} {v : MV} {vs : List MV} (h1 : f l H = some (v, H1)) (h2 : g l H1 = some (vs, H2)) : lCons f g l H = some (v :: vs, H2) := by
  unfold lCons; rw [h1, Option.bind_some]; dsimp only; rw [h2]; rfl
theorem call_run {g : FnF} {fa : EvLF} {l : Loc} {H H1 : MH} {vs : List MV} {r : Option (MV × MH)} (h1 : fa l H = some (vs, H1)) (h2 : g vs H1 = r) : eCall g fa l H = r := by
  unfold eCall; rw [h1]; exact h2
theorem tup_run {fa : EvLF} {l : Loc} {H H1 : MH} {vs : List MV} (h1 : fa l H = some (vs, H1)) (h2 : vs.length ≤ 1000) : eTup fa l H = some (.tup vs, H1) := by
  unfold eTup; rw [h1, Option.bind_some]; dsimp only; rw [if_pos h2]
noncomputable def softV (v : MV) : Bool := match v with
  | .str k => !hang k
  | _ => false
set_option maxHeartbeats 2000000 in
theorem E_isEnd {ks : List String} {H : MH} {m : Nat} (h : H[m]? = some (.list (ks.map .str))) (hn : ks.length ≤ 60) (i : Nat) (hi : i ≤ ks.length) : ∃ H', F_law_is_end [.ref m, .int (i : Int)] H = some (.bool (B ks i), H') ∧ Ex' H H' := by
  have hml : (ks.map MV.str).length ≤ 1000 := by rw [List.length_map]; omega
  have Ln := lenF_list h hml
  rw [List.length_map] at Ln
  unfold F_law_is_end
  refine fn_ret2 rfl ?_
  have hz : (["kinds", "at"].zip [MV.ref m, MV.int (i : Int)]).reverse = [("at", MV.int (i : Int)), ("kinds", MV.ref m)] := rfl
  rw [hz]
  by_cases h0 : i = 0 ∨ i = ks.length
  · have hB : B ks i = decide (0 < ks.length) := by unfold B; rw [if_pos h0]
    rw [hB]
    have hne : tCmp neF (eN "kinds") (eLst lNil) [("at", MV.int (i : Int)), ("kinds", MV.ref m)] H = some (!(ks == []), H ++ [.list []]) := by
      refine tCmp_run (F := neF) (f := eN "kinds") (g := eLst lNil) (l := [("at", MV.int (i : Int)), ("kinds", MV.ref m)]) (H := H) (a := .ref m) (H1 := H) (b := .ref H.length) (H2 := H ++ [.list []]) rfl rfl ?_
      rw [ne_eq', eq_strs (xs := ks) (ys := []) ((Ex'.app H _).get h) (by simp)]
      rfl
    have hne2 : eCmp neF (eN "kinds") (eLst lNil) [("at", MV.int (i : Int)), ("kinds", MV.ref m)] H = some (.bool (decide (0 < ks.length)), H ++ [.list []]) := by
      have e : (!(ks == [])) = decide (0 < ks.length) := by cases ks <;> simp
      rw [← e]
      unfold tCmp at hne
      unfold eCmp
      simp [eN, List.lookup_cons, eLst, lNil] at hne ⊢
      exact hne
    have ht : tOr (tCmp eqF (eN "at") (eC (.int 0))) (tOr (tCmp eqF (eN "at") (eCall lenF (lCons (eN "kinds") lNil))) tFalse) [("at", MV.int (i : Int)), ("kinds", MV.ref m)] H = some (true, H) := by
      by_cases h00 : i = 0
      · subst h00; simp [fnF, xCons, xNil, xRet, xRet0, xIf, xExpr, xAssign, eIf, eC, eN, eCmp, tCmp, tCmp2, eT, tNot, tAnd, tOr, tTrue, tFalse, eNot, eNeg, eAnd, eOr, eBin, intB, subF, addF, modF, divF, intC, ltF, leF, gtF, geF, eCall, lCons, lNil, eTup, eLst, eSub, eMeth, eAttr, aN, aTup, aCons, aNil, aRev, setKV, aAttr, aSub, putAttr, isData, listD, dictD, List.lookup_cons, eq_int]
      · have h2 : i = ks.length := by omega
        simp [fnF, xCons, xNil, xRet, xRet0, xIf, xExpr, xAssign, eIf, eC, eN, eCmp, tCmp, tCmp2, eT, tNot, tAnd, tOr, tTrue, tFalse, eNot, eNeg, eAnd, eOr, eBin, intB, subF, addF, modF, divF, intC, ltF, leF, gtF, geF, eCall, lCons, lNil, eTup, eLst, eSub, eMeth, eAttr, aN, aTup, aCons, aNil, aRev, setKV, aAttr, aSub, putAttr, isData, listD, dictD, List.lookup_cons, eq_int, Ln, h2]
    exact xx_stop ht (Ex'.refl H) (x_ret (x_retv hne2)) (Ex'.app H _)
  · have h1 : 0 < i := by omega
    have h2 : i < ks.length := by omega
    have hk' : ks[i]? = some ks[i] := by simp
    have hkp : ks[i - 1]? = some ks[i - 1] := by simp
    have hl := last_take h1 hi
    have ekd : kd ks ((i : Int) - 1) = ks[i - 1] := by
      have e : (i : Int) - 1 = ((i - 1 : Nat) : Int) := by omega
      rw [e]; exact kd_at hkp
    obtain ⟨p, hp, e1, e2⟩ := W_bz ks i hi h1
    have hB : B ks i = D ks[i - 1] (W ks i) ks[i] (goesOn (ks.drop i)) := by
      unfold B
      rw [if_neg h0, hl, hk', ekd]; rfl
    rw [hB, D_D3, goesOn_eq, e2]
    have i1 : itemF (.ref m) (.int (i : Int)) H = some (.str ks[i]) := by
      rw [item_ref h i (by omega), List.getElem?_map, hk']; rfl
    have i2 : itemF (.ref m) (.int ((i : Int) - 1)) H = some (.str ks[i - 1]) := by
      have e : (i : Int) - 1 = ((i - 1 : Nat) : Int) := by omega
      rw [e, item_ref h (i - 1) (by omega), List.getElem?_map, hkp]; rfl
    have hne0 : ((i : Int) == 0) = false := beq_eq_false_iff_ne.mpr (by omega)
    have hnen : ((i : Int) == (ks.length : Int)) = false := beq_eq_false_iff_ne.mpr (by omega)
    refine xx_pass (H1 := H) (by simp [fnF, xCons, xNil, xRet, xRet0, xIf, xExpr, xAssign, eIf, eC, eN, eCmp, tCmp, tCmp2, eT, tNot, tAnd, tOr, tTrue, tFalse, eNot, eNeg, eAnd, eOr, eBin, intB, subF, addF, modF, divF, intC, ltF, leF, gtF, geF, eCall, lCons, lNil, eTup, eLst, eSub, eMeth, eAttr, aN, aTup, aCons, aNil, aRev, setKV, aAttr, aSub, putAttr, isData, listD, dictD, List.lookup_cons, eq_int, Ln, hne0, hnen]) (Ex'.refl H) ?_
    refine xx_next (l1 := [("at", .int (i : Int)), ("kinds", .ref m), ("far", .str ks[i]), ("near", .str ks[i - 1])]) (H1 := H) (by simp [fnF, xCons, xNil, xRet, xRet0, xIf, xExpr, xAssign, eIf, eC, eN, eCmp, tCmp, tCmp2, eT, tNot, tAnd, tOr, tTrue, tFalse, eNot, eNeg, eAnd, eOr, eBin, intB, subF, addF, modF, divF, intC, ltF, leF, gtF, geF, eCall, lCons, lNil, eTup, eLst, eSub, eMeth, eAttr, aN, aTup, aCons, aNil, aRev, setKV, aAttr, aSub, putAttr, isData, listD, dictD, List.lookup_cons, i1, i2]) (Ex'.refl H) ?_
    by_cases c1 : ks[i - 1] = "CR" ∧ ks[i] = "LF"
    · rw [if_pos c1]
      exact xx_stop (H1 := H) (by simp [fnF, xCons, xNil, xRet, xRet0, xIf, xExpr, xAssign, eIf, eC, eN, eCmp, tCmp, tCmp2, eT, tNot, tAnd, tOr, tTrue, tFalse, eNot, eNeg, eAnd, eOr, eBin, intB, subF, addF, modF, divF, intC, ltF, leF, gtF, geF, eCall, lCons, lNil, eTup, eLst, eSub, eMeth, eAttr, aN, aTup, aCons, aNil, aRev, setKV, aAttr, aSub, putAttr, isData, listD, dictD, List.lookup_cons, eq_str, c1.1, c1.2]) (Ex'.refl H) xx_false (Ex'.refl H)
    rw [if_neg c1]
    refine xx_pass (H1 := H) ?_ (Ex'.refl H) ?_
    · cases q1 : (ks[i - 1] == "CR") with
      | false => simp [fnF, xCons, xNil, xRet, xRet0, xIf, xExpr, xAssign, eIf, eC, eN, eCmp, tCmp, tCmp2, eT, tNot, tAnd, tOr, tTrue, tFalse, eNot, eNeg, eAnd, eOr, eBin, intB, subF, addF, modF, divF, intC, ltF, leF, gtF, geF, eCall, lCons, lNil, eTup, eLst, eSub, eMeth, eAttr, aN, aTup, aCons, aNil, aRev, setKV, aAttr, aSub, putAttr, isData, listD, dictD, List.lookup_cons, eq_str, q1]
      | true =>
        have : (ks[i] == "LF") = false := beq_eq_false_iff_ne.mpr fun e => c1 ⟨by simpa using q1, e⟩
        simp [fnF, xCons, xNil, xRet, xRet0, xIf, xExpr, xAssign, eIf, eC, eN, eCmp, tCmp, tCmp2, eT, tNot, tAnd, tOr, tTrue, tFalse, eNot, eNeg, eAnd, eOr, eBin, intB, subF, addF, modF, divF, intC, ltF, leF, gtF, geF, eCall, lCons, lNil, eTup, eLst, eSub, eMeth, eAttr, aN, aTup, aCons, aNil, aRev, setKV, aAttr, aSub, putAttr, isData, listD, dictD, List.lookup_cons, eq_str, q1, this]
    cases c2 : para ks[i - 1] with
    | true =>
      rw [if_pos rfl]
      exact xx_stop (H1 := H) (l2 := [("at", .int (i : Int)), ("kinds", .ref m), ("far", .str ks[i]), ("near", .str ks[i - 1])]) (by simp [fnF, xCons, xNil, xRet, xRet0, xIf, xExpr, xAssign, eIf, eC, eN, eCmp, tCmp, tCmp2, eT, tNot, tAnd, tOr, tTrue, tFalse, eNot, eNeg, eAnd, eOr, eBin, intB, subF, addF, modF, divF, intC, ltF, leF, gtF, geF, eCall, lCons, lNil, eTup, eLst, eSub, eMeth, eAttr, aN, aTup, aCons, aNil, aRev, setKV, aAttr, aSub, putAttr, isData, listD, dictD, List.lookup_cons, in_ENDS, c2]) (Ex'.refl H) rfl (Ex'.refl H)
    | false =>
      simp only [Bool.false_eq_true, if_false]
      refine xx_pass (H1 := H) (by simp [fnF, xCons, xNil, xRet, xRet0, xIf, xExpr, xAssign, eIf, eC, eN, eCmp, tCmp, tCmp2, eT, tNot, tAnd, tOr, tTrue, tFalse, eNot, eNeg, eAnd, eOr, eBin, intB, subF, addF, modF, divF, intC, ltF, leF, gtF, geF, eCall, lCons, lNil, eTup, eLst, eSub, eMeth, eAttr, aN, aTup, aCons, aNil, aRev, setKV, aAttr, aSub, putAttr, isData, listD, dictD, List.lookup_cons, in_ENDS, c2]) (Ex'.refl H) ?_
      cases c3 : hang ks[i] with
      | true =>
        rw [if_pos rfl]
        exact xx_stop (H1 := H) (by simp [fnF, xCons, xNil, xRet, xRet0, xIf, xExpr, xAssign, eIf, eC, eN, eCmp, tCmp, tCmp2, eT, tNot, tAnd, tOr, tTrue, tFalse, eNot, eNeg, eAnd, eOr, eBin, intB, subF, addF, modF, divF, intC, ltF, leF, gtF, geF, eCall, lCons, lNil, eTup, eLst, eSub, eMeth, eAttr, aN, aTup, aCons, aNil, aRev, setKV, aAttr, aSub, putAttr, isData, listD, dictD, List.lookup_cons, in_EF, c3]) (Ex'.refl H) xx_false (Ex'.refl H)
      | false =>
        simp only [Bool.false_eq_true, if_false]
        refine xx_pass (H1 := H) (by simp [fnF, xCons, xNil, xRet, xRet0, xIf, xExpr, xAssign, eIf, eC, eN, eCmp, tCmp, tCmp2, eT, tNot, tAnd, tOr, tTrue, tFalse, eNot, eNeg, eAnd, eOr, eBin, intB, subF, addF, modF, divF, intC, ltF, leF, gtF, geF, eCall, lCons, lNil, eTup, eLst, eSub, eMeth, eAttr, aN, aTup, aCons, aNil, aRev, setKV, aAttr, aSub, putAttr, isData, listD, dictD, List.lookup_cons, in_EF, c3]) (Ex'.refl H) ?_
        -- plain and rest
        generalize hL : ([("at", MV.int (i : Int)), ("kinds", MV.ref m), ("far", MV.str ks[i]), ("near", MV.str ks[i - 1])] : Loc) = L
        have la : L.lookup "at" = some (.int (i : Int)) := by rw [← hL]; simp [List.lookup_cons]
        have lk : L.lookup "kinds" = some (.ref m) := by rw [← hL]; simp [List.lookup_cons]
        have lf : L.lookup "far" = some (.str ks[i]) := by rw [← hL]; simp [List.lookup_cons]
        have s1 := slice_run (f := eN "kinds") (lo := pNo) (hi := pSo (eN "at")) (l := L) (a := none) (b := some (i : Int)) (by simp [eN, lk]) rfl (by simp [pSo, eN, la]) h hml
        rw [pick_upto _ i (by rw [List.length_map]; exact hi), ← List.map_take] at s1
        have hA : (H ++ [MO.list ((ks.take i).map .str)])[H.length]? = some (.list ((ks.take i).map .str)) := by simp
        have s2 := E_plain hA (by rw [List.length_take]; omega)
        generalize hH1 : H ++ [MO.list ((ks.take i).map .str)] = H1 at s1 s2 hA
        have E1 : Ex' H H1 := by rw [← hH1]; exact Ex'.app H _
        generalize hH2 : H1 ++ [MO.list ((plainP (ks.take i)).1.map .str)] = H2 at s2
        have E2 : Ex' H1 H2 := by rw [← hH2]; exact Ex'.app H1 _
        have hP : H2[H1.length]? = some (.list ((plainP (ks.take i)).1.map .str)) := by rw [← hH2]; simp
        have s3 := slice_run (f := eN "kinds") (lo := pSo (eN "at")) (hi := pNo) (l := L) (a := some (i : Int)) (b := none) (by simp [eN, lk]) (by simp [pSo, eN, la]) rfl ((E1.trans E2).get h) hml
        rw [pick_from _ i (by rw [List.length_map]; exact hi), ← List.map_drop] at s3
        have hR : (H2 ++ [MO.list ((ks.drop i).map .str)])[H2.length]? = some (.list ((ks.drop i).map .str)) := by simp
        generalize hH3 : H2 ++ [MO.list ((ks.drop i).map .str)] = H3 at s3 hR
        have E3 : Ex' H2 H3 := by rw [← hH3]; exact Ex'.app H2 _
        obtain ⟨H4, q1, q2, q3⟩ := comp_run (f := eSlice (eN "kinds") (pSo (eN "at")) pNo pNo) (fs := []) (x := "kind") (l := L) (H := H2) (H1 := H3) (src := .ref H2.length) (items := (ks.drop i).map .str) softV id s3 (iterOk_list hR) (by simp; omega) (fun Hx j E => iter_list hR E j)
          (t := tCmp notInF (eN "kind") (eTup (lCons (eC (.str "Extend")) (lCons (eC (.str "Format")) lNil)))) (g := eN "kind")
          (fun j v Hx lx hv E hl => by
            rw [List.getElem?_map] at hv
            obtain ⟨k, hk, rfl⟩ := Option.map_eq_some_iff.mp hv
            exact ⟨Hx, tCmp_run (a := .str k) (H1 := Hx) (by first | exact n_run lke | exact n_run (lkn (by decide) lke) | simp [eN, lookup_setKV]) (by rfl) (by rw [notIn_eq, in_EF]; rfl), Ex'.refl Hx⟩)
          (fun j v Hx lx hv hp E hl => ⟨Hx, by first | exact n_run lke | exact n_run (lkn (by decide) lke) | simp [eN, lookup_setKV], Ex'.refl Hx⟩)
        rw [List.map_id, filter_map_str softV (fun k => !hang k) (fun _ => rfl)] at q3
        have E4 := E3.trans q2
        have hP4 := E4.get hP
        rw [plain_spec] at hP4
        have hbl : (pst (ks.take i)).bl = kd ks (p : Int) :: W ks p := e2
        rw [hbl] at hP4
        have hall : xAssign (eTup (lCons (eCall F_law_plain (lCons (eSlice (eN "kinds") pNo (pSo (eN "at")) pNo) lNil)) (lCons (eComp (eSlice (eN "kinds") (pSo (eN "at")) pNo pNo) [] (aN "kind") (tCmp notInF (eN "kind") (eTup (lCons (eC (.str "Extend")) (lCons (eC (.str "Format")) lNil)))) (eN "kind") FU) lNil))) (aRev ["plain", "rest"]) L H
            = some (.next, setKV "plain" (.ref H1.length) (setKV "rest" (.ref H3.length) L), H4) := by
          exact x_asg (tup_run (lcons_run (call_run (lcons_run s1 rfl) s2) (lcons_run q1 rfl)) (by simp)) rfl
        refine xx_next hall (((E1.trans E2).trans E3).trans q2) ?_
        have hlen1 : (kd ks (p : Int) :: W ks p).length ≤ 60 := by
          have := plain_len (ks.take i)
          rw [plain_spec, hbl, List.length_reverse, List.length_map, List.length_take] at this
          omega
        exact tail_part hlen1 (by have := List.length_filter_le (fun k => !hang k) (ks.drop i); rw [List.length_drop] at this; omega) hP4 q3 (by first | exact lke | exact lkn (by decide) lke | simp [lookup_setKV]) (by first | exact lke | exact lkn (by decide) lke | simp [lookup_setKV]) (by first | exact lkn (by decide) lf | exact lkn (by decide) (lkn (by decide) lf) | simp [lookup_setKV, lf])
theorem sub_int (a b : Int) (H : MH) : subF (.int a) (.int b) H = some (.int (a - b), H) := rfl
theorem bin_run {g : MV → MV → MH → Option (MV × MH)} {f1 f2 : EvF} {l : Loc} {H H1 H2 : MH} {a b : MV} {r : Option (MV × MH)} (h1 : f1 l H = some (a, H1)) (h2 : f2 l H1 = some (b, H2)) (hg : g a b H2 = r) : eBin g f1 f2 l H = r := by
  unfold eBin
  rw [h1, Option.bind_some]
  dsimp only
  rw [h2]
  exact hg
theorem gt_int (a b : Int) (H : MH) : gtF (.int a) (.int b) H = some (decide (b < a)) := rfl
/-! values of tests where nothing is made -/
theorem or_v {f g : TrF} {l : Loc} {H : MH} {a b : Bool} (h1 : f l H = some (a, H)) (h2 : g l H = some (b, H)) : tOr f g l H = some (a || b, H) := by
  unfold tOr; rw [h1]; cases a with | false => exact h2 | true => rfl
theorem and_v {f g : TrF} {l : Loc} {H : MH} {a b : Bool} (h1 : f l H = some (a, H)) (h2 : g l H = some (b, H)) : tAnd f g l H = some (a && b, H) := by
  unfold tAnd; rw [h1]; cases a with | false => rfl | true => exact h2
theorem eor_v {f g : EvF} {l : Loc} {H : MH} {a b : Bool} (h1 : f l H = some (.bool a, H)) (h2 : g l H = some (.bool b, H)) : eOr f g l H = some (.bool (a || b), H) := by
  unfold eOr; rw [h1]; cases a with | false => exact h2 | true => rfl
theorem eand_v {f g : EvF} {l : Loc} {H : MH} {a b : Bool} (h1 : f l H = some (.bool a, H)) (h2 : g l H = some (.bool b, H)) : eAnd f g l H = some (.bool (a && b), H) := by
  unfold eAnd; rw [h1]; cases a with | false => rfl | true => exact h2
theorem enot_v {f : EvF} {l : Loc} {H : MH} {a : Bool} (h1 : f l H = some (.bool a, H)) : eNot f l H = some (.bool (!a), H) := by
  unfold eNot; rw [h1]; rfl
theorem ecmp_v {F : CmpF} {f g : EvF} {l : Loc} {H : MH} {a b : MV} {r : Bool} (h1 : f l H = some (a, H)) (h2 : g l H = some (b, H)) (h3 : F a b H = some r) : eCmp F f g l H = some (.bool r, H) := by
  unfold eCmp; rw [h1, Option.bind_some]; dsimp only; rw [h2, Option.bind_some]; dsimp only; rw [h3]; rfl
theorem et_run {f : EvF} {l : Loc} {H H1 : MH} {b : Bool} (h : f l H = some (.bool b, H1)) : eT f l H = some (b, H1) := by
  unfold eT
  rw [h]
  rfl
theorem stop_or {t : TrF} {e : EvF} {rest : ExF} {l : Loc} {H : MH} {b : Bool} {v r : MV} (ht : t l H = some (b, H)) (he : e l H = some (v, H)) (h1 : b = true → v = r) (h2 : b = false → ∃ l', rest l H = some (.ret r, l', H)) :
    ∃ l', xCons (xIf t (xCons (xRet e) xNil) xNil) rest l H = some (.ret r, l', H) := by
  cases b with
  | true => exact ⟨l, x_ret (x_if ht (by rw [if_pos rfl, ← h1 rfl]; exact x_ret (x_retv he)))⟩
  | false =>
    obtain ⟨l', q⟩ := h2 rfl
    exact ⟨l', x_next (x_if ht (by rw [if_neg (by decide)]; rfl)) q⟩
theorem ne_str (a b : String) (H : MH) : neF (.str a) (.str b) H = some (!(a == b)) := by rw [ne_eq', eq_str]; rfl
theorem not_v {f : TrF} {l : Loc} {H : MH} {a : Bool} (h1 : f l H = some (a, H)) : tNot f l H = some (!a, H) := by unfold tNot; rw [h1]; rfl
theorem eif_p {t : TrF} {f g : EvF} {l : Loc} {H : MH} {b : Bool} {P : Prop} [Decidable P] {x y : String} (ht : t l H = some (b, H)) (hp : b = true ↔ P) (h1 : f l H = some (.str x, H)) (h2 : g l H = some (.str y, H)) : eIf t f g l H = some (.str (if P then x else y), H) := by
  unfold eIf
  rw [ht, Option.bind_some]
  dsimp only
  by_cases h : P
  · rw [if_pos (hp.mpr h), if_pos h]; exact h1
  · rw [if_neg (fun q => h (hp.mp q)), if_neg h]; exact h2
theorem stop_if {t : TrF} {e : EvF} {rest : ExF} {l : Loc} {H : MH} {b : Bool} {P : Prop} [Decidable P] {x y : String} (ht : t l H = some (b, H)) (hp : b = true ↔ P) (he : e l H = some (.str x, H)) (h2 : ¬ P → ∃ l', rest l H = some (.ret (.str y), l', H)) :
    ∃ l', xCons (xIf t (xCons (xRet e) xNil) xNil) rest l H = some (.ret (.str (if P then x else y)), l', H) :=
  stop_or ht he (fun q => by rw [if_pos (hp.mp q)]) (fun q => by
    have : ¬ P := fun h => by rw [hp.mpr h] at q; cases q
    rw [if_neg this]
    exact h2 this)
end Nt
end
section
open PySem PySem.SeqAt
namespace Nt
noncomputable def attrsOf (data : MV) (s : SS) (held : Int) : List (String × MV) := [("data", data), ("at", .int s.at_), ("last", .str s.last), ("base", .str s.base), ("prior", .str s.prior), ("term", .str s.term), ("is_spaced", .bool s.spaced), ("held", .int held)]
structure StreamAt (H : MH) (sr a : Nat) (data : MV) (s : SS) (held : Int) : Prop where
  inst : H[sr]? = some (.inst 127 a)
  attrs : H[a]? = some (.attrs (attrsOf data s held))
  isd : isData data = true
theorem inst_at {H : MH} {sr a : Nat} {fs : List (String × MV)} (h1 : H[sr]? = some (.inst 127 a)) (h2 : H[a]? = some (.attrs fs)) : instD 127 (.ref sr) H = some (a, fs) := by
  unfold instD
  dsimp only
  rw [h1]
  dsimp only
  rw [if_pos rfl, h2]
theorem StreamAt.instD {H : MH} {sr a : Nat} {data : MV} {s : SS} {held : Int} (X : StreamAt H sr a data s held) : instD 127 (.ref sr) H = some (a, attrsOf data s held) := inst_at X.inst X.attrs
theorem attr_run {H : MH} {sr a : Nat} {l : Loc} {x : String} {v : MV} {fs : List (String × MV)} (hs : l.lookup "self" = some (.ref sr)) (h : Nt.instD 127 (.ref sr) H = some (a, fs)) (hx : fs.lookup x = some v) (hd : isData v = true) : eAttr 127 x (eN "self") l H = some (v, H) := by
  have e : eN "self" l H = some (.ref sr, H) := by simp [eN, hs]
  unfold eAttr
  rw [e, Option.bind_some]
  dsimp only
  rw [h, Option.bind_some]
  dsimp only
  rw [hx, Option.bind_some, if_pos hd]
theorem put_run {H : MH} {sr a : Nat} {l : Loc} {x : String} {v : MV} {fs : List (String × MV)} (hs : l.lookup "self" = some (.ref sr)) (h : Nt.instD 127 (.ref sr) H = some (a, fs)) (hl : fs.length ≤ 1000) : aAttr 127 x (eN "self") v l H = some (l, H.set a (.attrs (setKV x v fs))) := by
  have e : eN "self" l H = some (.ref sr, H) := by simp [eN, hs]
  unfold aAttr
  rw [e, Option.bind_some]
  dsimp only
  unfold putAttr
  rw [h, Option.bind_some]
  dsimp only
  rw [if_pos hl]
  rfl
theorem E_verdict {H : MH} {sr a : Nat} {data : MV} {s : SS} {held : Int} (X : StreamAt H sr a data s held) (k : String) : F_SentenceStream_verdict [.ref sr, .str k] H = some (.str (s.verdict k), H) := by
  have I := X.instD
  have hz : (["self", "kind"].zip [MV.ref sr, MV.str k]).reverse = [("kind", MV.str k), ("self", MV.ref sr)] := rfl
  generalize hL : ([("kind", MV.str k), ("self", MV.ref sr)] : Loc) = L at hz
  have hs : L.lookup "self" = some (.ref sr) := by rw [← hL]; simp [List.lookup_cons]
  have hk : eN "kind" L H = some (.str k, H) := n_run (by rw [← hL]; simp [List.lookup_cons])
  have a1 := attr_run (x := "at") (v := .int s.at_) hs I (by simp [attrsOf, List.lookup_cons]) rfl
  have a2 := attr_run (x := "last") (v := .str s.last) hs I (by simp [attrsOf, List.lookup_cons]) rfl
  have a3 := attr_run (x := "base") (v := .str s.base) hs I (by simp [attrsOf, List.lookup_cons]) rfl
  have a4 := attr_run (x := "prior") (v := .str s.prior) hs I (by simp [attrsOf, List.lookup_cons]) rfl
  have a5 := attr_run (x := "term") (v := .str s.term) hs I (by simp [attrsOf, List.lookup_cons]) rfl
  have a6 := attr_run (x := "is_spaced") (v := .bool s.spaced) hs I (by simp [attrsOf, List.lookup_cons]) rfl
  have kc : ∀ x : String, tCmp eqF (eN "kind") (eC (.str x)) L H = some (k == x, H) := fun x => tCmp_run hk rfl (eq_str _ _ _)
  unfold F_SentenceStream_verdict SS.verdict
  refine fn_ret rfl ?_
  rw [hz]
  refine stop_if (tCmp_run a1 rfl (eq_int _ _ _)) (by simp) rfl fun _ => ?_
  refine stop_if (tCmp_run a2 rfl (in_PARAS _ _)) Iff.rfl (eif_p (and_v (tCmp_run a2 rfl (eq_str _ _ _)) (and_v (kc _) rfl)) (by simp) rfl rfl) fun _ => ?_
  refine stop_if (tCmp_run hk rfl (in_HANGERS _ _)) Iff.rfl rfl fun _ => ?_
  refine stop_if (and_v (tCmp_run a3 rfl (eq_str _ _ _)) (and_v (or_v (kc _) (or_v (and_v (kc _) (and_v (tCmp_run a4 rfl (in_CASED _ _)) rfl)) rfl)) rfl)) (by simp) rfl fun _ => ?_
  refine stop_if (or_v (tCmp_run a5 rfl (eq_str _ _ _)) (or_v (kc _) (or_v (tCmp_run hk rfl (in_TERMS _ _)) (or_v (kc _) (or_v (tCmp_run hk rfl (in_PARAS _ _)) rfl))))) (by simp) rfl fun _ => ?_
  refine stop_if (and_v (kc _) (and_v (not_v (et_run a6)) rfl)) (by simp) rfl fun _ => ?_
  refine stop_if (or_v (tCmp_run a5 rfl (eq_str _ _ _)) (or_v (kc _) (or_v (kc _) rfl))) (by simp) rfl fun _ => ?_
  exact ⟨_, x_ret (x_retv (eif_p (kc _) (by simp) rfl rfl))⟩
end Nt
end
section
open PySem PySem.SeqAt
namespace Nt
theorem StreamAt.ne {H : MH} {sr a : Nat} {data : MV} {s : SS} {held : Int} (X : StreamAt H sr a data s held) : sr ≠ a := by
  rintro rfl
  have h1 := X.inst
  rw [X.attrs] at h1
  cases h1
theorem StreamAt.lt {H : MH} {sr a : Nat} {data : MV} {s : SS} {held : Int} (X : StreamAt H sr a data s held) : a < H.length := (List.getElem?_eq_some_iff.mp X.attrs).1
theorem StreamAt.upd {H : MH} {sr a : Nat} {data : MV} {s : SS} {held : Int} (X : StreamAt H sr a data s held) (s' : SS) (held' : Int) : StreamAt (H.set a (.attrs (attrsOf data s' held'))) sr a data s' held' :=
  ⟨by rw [List.getElem?_set_ne X.ne.symm]; exact X.inst, List.getElem?_set_self X.lt, X.isd⟩
section
variable {H : MH} {sr a : Nat} {data : MV} {s : SS} {held : Int} {l : Loc}
theorem set_last (X : StreamAt H sr a data s held) (hs : l.lookup "self" = some (.ref sr)) (v : String) : aAttr 127 "last" (eN "self") (.str v) l H = some (l, H.set a (.attrs (attrsOf data { s with last := v } held))) := put_run hs X.instD (by simp [attrsOf])
theorem set_at (X : StreamAt H sr a data s held) (hs : l.lookup "self" = some (.ref sr)) (v : Nat) : aAttr 127 "at" (eN "self") (.int v) l H = some (l, H.set a (.attrs (attrsOf data { s with at_ := v } held))) := put_run hs X.instD (by simp [attrsOf])
theorem set_base (X : StreamAt H sr a data s held) (hs : l.lookup "self" = some (.ref sr)) (v : String) : aAttr 127 "base" (eN "self") (.str v) l H = some (l, H.set a (.attrs (attrsOf data { s with base := v } held))) := put_run hs X.instD (by simp [attrsOf])
theorem set_prior (X : StreamAt H sr a data s held) (hs : l.lookup "self" = some (.ref sr)) (v : String) : aAttr 127 "prior" (eN "self") (.str v) l H = some (l, H.set a (.attrs (attrsOf data { s with prior := v } held))) := put_run hs X.instD (by simp [attrsOf])
theorem set_term (X : StreamAt H sr a data s held) (hs : l.lookup "self" = some (.ref sr)) (v : String) : aAttr 127 "term" (eN "self") (.str v) l H = some (l, H.set a (.attrs (attrsOf data { s with term := v } held))) := put_run hs X.instD (by simp [attrsOf])
theorem set_spaced (X : StreamAt H sr a data s held) (hs : l.lookup "self" = some (.ref sr)) (v : Bool) : aAttr 127 "is_spaced" (eN "self") (.bool v) l H = some (l, H.set a (.attrs (attrsOf data { s with spaced := v } held))) := put_run hs X.instD (by simp [attrsOf])
theorem set_held (X : StreamAt H sr a data s held) (hs : l.lookup "self" = some (.ref sr)) (v : Int) : aAttr 127 "held" (eN "self") (.int v) l H = some (l, H.set a (.attrs (attrsOf data s v))) := put_run hs X.instD (by simp [attrsOf])
theorem get_at (X : StreamAt H sr a data s held) (hs : l.lookup "self" = some (.ref sr)) : eAttr 127 "at" (eN "self") l H = some (.int s.at_, H) := attr_run hs X.instD (by simp [attrsOf, List.lookup_cons]) rfl
theorem get_last (X : StreamAt H sr a data s held) (hs : l.lookup "self" = some (.ref sr)) : eAttr 127 "last" (eN "self") l H = some (.str s.last, H) := attr_run hs X.instD (by simp [attrsOf, List.lookup_cons]) rfl
theorem get_base (X : StreamAt H sr a data s held) (hs : l.lookup "self" = some (.ref sr)) : eAttr 127 "base" (eN "self") l H = some (.str s.base, H) := attr_run hs X.instD (by simp [attrsOf, List.lookup_cons]) rfl
theorem get_term (X : StreamAt H sr a data s held) (hs : l.lookup "self" = some (.ref sr)) : eAttr 127 "term" (eN "self") l H = some (.str s.term, H) := attr_run hs X.instD (by simp [attrsOf, List.lookup_cons]) rfl
theorem get_spaced (X : StreamAt H sr a data s held) (hs : l.lookup "self" = some (.ref sr)) : eAttr 127 "is_spaced" (eN "self") l H = some (.bool s.spaced, H) := attr_run hs X.instD (by simp [attrsOf, List.lookup_cons]) rfl
theorem get_held (X : StreamAt H sr a data s held) (hs : l.lookup "self" = some (.ref sr)) : eAttr 127 "held" (eN "self") l H = some (.int held, H) := attr_run hs X.instD (by simp [attrsOf, List.lookup_cons]) rfl
theorem get_data (X : StreamAt H sr a data s held) (hs : l.lookup "self" = some (.ref sr)) : eAttr 127 "data" (eN "self") l H = some (data, H) := attr_run hs X.instD (by simp [attrsOf, List.lookup_cons]) X.isd
end
set_option maxHeartbeats 2000000 in
theorem E_take {H : MH} {sr a : Nat} {data : MV} {s : SS} {held : Int} (X : StreamAt H sr a data s held) (k : String) : F_SentenceStream_take [.ref sr, .str k] H = some (.none, H.set a (.attrs (attrsOf data (s.take k) held))) := by
  have hs : ([("kind", MV.str k), ("self", MV.ref sr)] : Loc).lookup "self" = some (.ref sr) := by simp [List.lookup_cons]
  have hk : ∀ H : MH, eN "kind" [("kind", MV.str k), ("self", MV.ref sr)] H = some (.str k, H) := fun H => by simp [eN, List.lookup_cons]
  have g1 := get_at X hs
  have g2 := get_last X hs
  unfold F_SentenceStream_take SS.take
  by_cases c : (hang k && decide (0 < s.at_) && !para s.last) = true
  · rw [if_pos c]
    simp only [Bool.and_eq_true, decide_eq_true_eq, Bool.not_eq_true'] at c
    refine fn_ret rfl ?_
    apply Exists.intro
    refine x_ret (l1 := [("kind", MV.str k), ("self", MV.ref sr)]) (x_if (b := true) (H1 := H) ?_ ?_)
    · have : (0 : Int) < (s.at_ : Int) := by omega
      simp [fnF, xCons, xNil, xRet, xRet0, xIf, xExpr, xAssign, eIf, eC, eN, eCmp, tCmp, tCmp2, eT, tNot, tAnd, tOr, tTrue, tFalse, eNot, eNeg, eAnd, eOr, eBin, intB, subF, addF, modF, divF, intC, ltF, leF, gtF, geF, eCall, lCons, lNil, eTup, eLst, eSub, aN, aTup, aCons, aNil, aRev, setKV, aSub, putAttr, isData, listD, dictD, List.lookup_cons, in_HANGERS, c.1.1, g1, g2, notIn_eq, in_PARAS, c.2, c.1.2]
    · rw [if_pos rfl]
      have X1 := X.upd { s with last := k } held
      refine x_next (x_asg (hk H) (set_last X hs k)) ?_
      refine x_next (x_asg (v := .int ((s.at_ + 1 : Nat) : Int)) (H1 := H.set a (.attrs (attrsOf data { s with last := k } held))) ?_ (set_at X1 hs (s.at_ + 1))) ?_
      · have := get_at X1 hs
        simp [eBin, this, eC, addF]
      · rw [List.set_set]
        rfl
  · rw [if_neg c]
    refine fn_end rfl ?_
    have hz : (["self", "kind"].zip [MV.ref sr, MV.str k]).reverse = [("kind", MV.str k), ("self", MV.ref sr)] := rfl
    rw [hz]
    have t1 : tAnd (tCmp inF (eN "kind") (eC V_SENTENCE_HANGERS)) (tAnd (tCmp gtF (eAttr 127 "at" (eN "self")) (eC (.int 0))) (tAnd (tCmp notInF (eAttr 127 "last" (eN "self")) (eC V_SENTENCE_PARAS)) tTrue)) [("kind", MV.str k), ("self", MV.ref sr)] H = some (false, H) := by
      cases q1 : hang k with
      | false => simp [fnF, xCons, xNil, xRet, xRet0, xIf, xExpr, xAssign, eIf, eC, eN, eCmp, tCmp, tCmp2, eT, tNot, tAnd, tOr, tTrue, tFalse, eNot, eNeg, eAnd, eOr, eBin, intB, subF, addF, modF, divF, intC, ltF, leF, gtF, geF, eCall, lCons, lNil, eTup, eLst, eSub, aN, aTup, aCons, aNil, aRev, setKV, aSub, putAttr, isData, listD, dictD, List.lookup_cons, in_HANGERS, q1]
      | true =>
        by_cases q2 : 0 < s.at_
        · cases q3 : para s.last with
          | true => simp [fnF, xCons, xNil, xRet, xRet0, xIf, xExpr, xAssign, eIf, eC, eN, eCmp, tCmp, tCmp2, eT, tNot, tAnd, tOr, tTrue, tFalse, eNot, eNeg, eAnd, eOr, eBin, intB, subF, addF, modF, divF, intC, ltF, leF, gtF, geF, eCall, lCons, lNil, eTup, eLst, eSub, aN, aTup, aCons, aNil, aRev, setKV, aSub, putAttr, isData, listD, dictD, List.lookup_cons, in_HANGERS, q1, g1, g2, q2, notIn_eq, in_PARAS, q3]
          | false => exact absurd (by rw [q1, q3, decide_eq_true q2]; rfl) c
        · simp [fnF, xCons, xNil, xRet, xRet0, xIf, xExpr, xAssign, eIf, eC, eN, eCmp, tCmp, tCmp2, eT, tNot, tAnd, tOr, tTrue, tFalse, eNot, eNeg, eAnd, eOr, eBin, intB, subF, addF, modF, divF, intC, ltF, leF, gtF, geF, eCall, lCons, lNil, eTup, eLst, eSub, aN, aTup, aCons, aNil, aRev, setKV, aSub, putAttr, isData, listD, dictD, List.lookup_cons, in_HANGERS, q1, g1, g2, q2]
    have mid : ∀ rest : ExF, ∀ r, rest [("kind", MV.str k), ("self", MV.ref sr)] (H.set a (.attrs (attrsOf data { s with term := (s.ts k).1, spaced := (s.ts k).2 } held))) = r →
        xCons (xIf (tCmp inF (eN "kind") (eC V_SENTENCE_TERMS)) (xCons (xAssign (eTup (lCons (eN "kind") (lCons (eC (.bool false)) lNil))) (aTup (aCons (aAttr 127 "term" (eN "self")) (aCons (aAttr 127 "is_spaced" (eN "self")) aNil)))) xNil) (xCons (xIf (tAnd (tCmp eqF (eN "kind") (eC (.str "Sp"))) (tAnd (tCmp neF (eAttr 127 "term" (eN "self")) (eC (.str ""))) tTrue)) (xCons (xAssign (eC (.bool true)) (aAttr 127 "is_spaced" (eN "self"))) xNil) (xCons (xIf (tOr (tCmp neF (eN "kind") (eC (.str "Close"))) (tOr (eT (eAttr 127 "is_spaced" (eN "self"))) tFalse)) (xCons (xAssign (eTup (lCons (eC (.str "")) (lCons (eC (.bool false)) lNil))) (aTup (aCons (aAttr 127 "term" (eN "self")) (aCons (aAttr 127 "is_spaced" (eN "self")) aNil)))) xNil) xNil) xNil)) xNil)) rest [("kind", MV.str k), ("self", MV.ref sr)] H = r := by
      intro rest r hr
      have X1 := fun v => X.upd { s with term := v } held
      have two : ∀ (f : EvF) (v : String), f [("kind", MV.str k), ("self", MV.ref sr)] H = some (.str v, H) → xAssign (eTup (lCons f (lCons (eC (.bool false)) lNil))) (aTup (aCons (aAttr 127 "term" (eN "self")) (aCons (aAttr 127 "is_spaced" (eN "self")) aNil))) [("kind", MV.str k), ("self", MV.ref sr)] H = some (.next, [("kind", MV.str k), ("self", MV.ref sr)], H.set a (.attrs (attrsOf data { s with term := v, spaced := false } held))) := by
        intro f v hf
        have e1 := set_term X hs v
        have e2 := set_spaced (X1 v) hs false
        rw [List.set_set] at e2
        refine x_asg (v := .tup [.str v, .bool false]) (H1 := H) (tup_run (lcons_run hf (lcons_run rfl rfl)) (by simp)) ?_
        simp [aTup, aCons, aNil, e1, e2]
      have sme : H.set a (.attrs (attrsOf data s held)) = H := by
        apply List.ext_getElem?
        intro j
        by_cases hj : j = a
        · subst hj; rw [List.getElem?_set_self X.lt]; exact X.attrs.symm
        · rw [List.getElem?_set_ne (Ne.symm hj)]
      have g5 := get_term X hs
      have g6 := get_spaced X hs
      unfold SS.ts at hr
      cases q1 : isTerm k with
      | true =>
        rw [q1, if_pos rfl] at hr
        refine x_next (x_if (b := true) (H1 := H) (tCmp_run (hk H) rfl ((in_TERMS k H).trans (by rw [q1]))) ?_) hr
        rw [if_pos rfl]
        exact x_next (two _ k (hk H)) rfl
      | false =>
        rw [q1, if_neg (by decide)] at hr
        have ht1 : tCmp inF (eN "kind") (eC V_SENTENCE_TERMS) [("kind", MV.str k), ("self", MV.ref sr)] H = some (false, H) := tCmp_run (hk H) rfl ((in_TERMS k H).trans (by rw [q1]))
        by_cases c2 : k = "Sp" ∧ s.term ≠ ""
        · rw [if_pos c2] at hr
          have b1 : (k == "Sp") = true := by rw [c2.1]; rfl
          have b2 : (s.term == "") = false := beq_eq_false_iff_ne.mpr c2.2
          refine x_next (x_if (b := false) (H1 := H) ht1 ?_) hr
          rw [if_neg (by decide)]
          refine x_next (x_if (b := true) (H1 := H) ?_ ?_) rfl
          · simp [fnF, xCons, xNil, xRet, xRet0, xIf, xExpr, xAssign, eIf, eC, eN, eCmp, tCmp, tCmp2, eT, tNot, tAnd, tOr, tTrue, tFalse, eNot, eNeg, eAnd, eOr, eBin, intB, subF, addF, modF, divF, intC, ltF, leF, gtF, geF, eCall, lCons, lNil, eTup, eLst, eSub, aN, aTup, aCons, aNil, aRev, setKV, aSub, putAttr, isData, listD, dictD, List.lookup_cons, eq_str, b1, g5, ne_eq', b2]
          · rw [if_pos rfl]
            exact x_next (x_asg rfl (set_spaced X hs true)) rfl
        · rw [if_neg c2] at hr
          have ht2 : tAnd (tCmp eqF (eN "kind") (eC (.str "Sp"))) (tAnd (tCmp neF (eAttr 127 "term" (eN "self")) (eC (.str ""))) tTrue) [("kind", MV.str k), ("self", MV.ref sr)] H = some (false, H) := by
            cases b1 : (k == "Sp") with
            | false => simp [fnF, xCons, xNil, xRet, xRet0, xIf, xExpr, xAssign, eIf, eC, eN, eCmp, tCmp, tCmp2, eT, tNot, tAnd, tOr, tTrue, tFalse, eNot, eNeg, eAnd, eOr, eBin, intB, subF, addF, modF, divF, intC, ltF, leF, gtF, geF, eCall, lCons, lNil, eTup, eLst, eSub, aN, aTup, aCons, aNil, aRev, setKV, aSub, putAttr, isData, listD, dictD, List.lookup_cons, eq_str, b1]
            | true =>
              have b2 : (s.term == "") = true := by
                cases e : (s.term == "") with
                | true => rfl
                | false => exact absurd ⟨by simpa using b1, by simpa using e⟩ c2
              simp [fnF, xCons, xNil, xRet, xRet0, xIf, xExpr, xAssign, eIf, eC, eN, eCmp, tCmp, tCmp2, eT, tNot, tAnd, tOr, tTrue, tFalse, eNot, eNeg, eAnd, eOr, eBin, intB, subF, addF, modF, divF, intC, ltF, leF, gtF, geF, eCall, lCons, lNil, eTup, eLst, eSub, aN, aTup, aCons, aNil, aRev, setKV, aSub, putAttr, isData, listD, dictD, List.lookup_cons, eq_str, b1, g5, ne_eq', b2]
          by_cases c3 : k ≠ "Close" ∨ s.spaced = true
          · rw [if_pos c3] at hr
            refine x_next (x_if (b := false) (H1 := H) ht1 ?_) hr
            rw [if_neg (by decide)]
            refine x_next (x_if (b := false) (H1 := H) ht2 ?_) rfl
            rw [if_neg (by decide)]
            refine x_next (x_if (b := true) (H1 := H) ?_ ?_) rfl
            · cases b1 : (k == "Close") with
              | false => simp [fnF, xCons, xNil, xRet, xRet0, xIf, xExpr, xAssign, eIf, eC, eN, eCmp, tCmp, tCmp2, eT, tNot, tAnd, tOr, tTrue, tFalse, eNot, eNeg, eAnd, eOr, eBin, intB, subF, addF, modF, divF, intC, ltF, leF, gtF, geF, eCall, lCons, lNil, eTup, eLst, eSub, aN, aTup, aCons, aNil, aRev, setKV, aSub, putAttr, isData, listD, dictD, List.lookup_cons, ne_eq', eq_str, b1]
              | true =>
                have b2 : s.spaced = true := by
                  rcases c3 with q | q
                  · exact absurd (by simpa using b1) q
                  · exact q
                simp [fnF, xCons, xNil, xRet, xRet0, xIf, xExpr, xAssign, eIf, eC, eN, eCmp, tCmp, tCmp2, eT, tNot, tAnd, tOr, tTrue, tFalse, eNot, eNeg, eAnd, eOr, eBin, intB, subF, addF, modF, divF, intC, ltF, leF, gtF, geF, eCall, lCons, lNil, eTup, eLst, eSub, aN, aTup, aCons, aNil, aRev, setKV, aSub, putAttr, isData, listD, dictD, List.lookup_cons, ne_eq', eq_str, b1, g6, b2]
            · rw [if_pos rfl]
              exact x_next (two _ "" rfl) rfl
          · rw [if_neg c3] at hr
            rw [sme] at hr
            have b1 : (k == "Close") = true := by
              cases e : (k == "Close") with
              | true => rfl
              | false => exact absurd (.inl (by simpa using e)) c3
            have b2 : s.spaced = false := by
              cases e : s.spaced with
              | false => rfl
              | true => exact absurd (.inr e) c3
            refine x_next (x_if (b := false) (H1 := H) ht1 ?_) hr
            rw [if_neg (by decide)]
            refine x_next (x_if (b := false) (H1 := H) ht2 ?_) rfl
            rw [if_neg (by decide)]
            refine x_next (x_if (b := false) (H1 := H) ?_ ?_) rfl
            · simp [fnF, xCons, xNil, xRet, xRet0, xIf, xExpr, xAssign, eIf, eC, eN, eCmp, tCmp, tCmp2, eT, tNot, tAnd, tOr, tTrue, tFalse, eNot, eNeg, eAnd, eOr, eBin, intB, subF, addF, modF, divF, intC, ltF, leF, gtF, geF, eCall, lCons, lNil, eTup, eLst, eSub, aN, aTup, aCons, aNil, aRev, setKV, aSub, putAttr, isData, listD, dictD, List.lookup_cons, ne_eq', eq_str, b1, g6, b2]
            · rw [if_neg (by decide)]; rfl
    apply Exists.intro
    refine x_next (x_if (b := false) t1 (by rw [if_neg (by decide)]; rfl)) (mid _ _ ?_)
    have X2 := X.upd { s with term := (s.ts k).1, spaced := (s.ts k).2 } held
    have e1 := set_prior X2 hs s.base
    rw [List.set_set] at e1
    have X3 := X.upd { s with term := (s.ts k).1, spaced := (s.ts k).2, prior := s.base } held
    have e2 := set_base X3 hs k
    rw [List.set_set] at e2
    have X4 := X.upd { s with term := (s.ts k).1, spaced := (s.ts k).2, prior := s.base, base := k } held
    have e3 := set_last X4 hs k
    rw [List.set_set] at e3
    have X5 := X.upd { s with term := (s.ts k).1, spaced := (s.ts k).2, prior := s.base, base := k, last := k } held
    have e4 := set_at X5 hs (s.at_ + 1)
    rw [List.set_set] at e4
    have gb := get_base X2 hs
    dsimp only at gb
    refine x_next (x_asg (v := .tup [.str s.base, .str k, .str k]) (tup_run (lcons_run gb (lcons_run (hk _) (lcons_run (hk _) rfl))) (by simp)) (l1 := [("kind", MV.str k), ("self", MV.ref sr)]) (H2 := H.set a (.attrs (attrsOf data { s with term := (s.ts k).1, spaced := (s.ts k).2, prior := s.base, base := k, last := k } held))) ?_) ?_
    · simp [aTup, aCons, aNil, e1, e2, e3]
    · refine x_next (x_asg (v := .int ((s.at_ + 1 : Nat) : Int)) ?_ e4) rfl
      have := get_at X5 hs
      simp [eBin, this, eC, addF]
end Nt
end
section
open PySem PySem.SeqAt
namespace Nt
structure ExB (a : Nat) (H H' : MH) : Prop where
  len : H.length ≤ H'.length
  old : ∀ j, j < H.length → j ≠ a → H'[j]? = H[j]?
theorem Ex'.toB {H H' : MH} (E : Ex' H H') (a : Nat) : ExB a H H' := ⟨E.len, fun j hj _ => E.old j hj⟩
theorem ExB.trans {a : Nat} {H1 H2 H3 : MH} (x : ExB a H1 H2) (y : ExB a H2 H3) : ExB a H1 H3 := ⟨Nat.le_trans x.len y.len, fun j hj hn => (y.old j (Nat.lt_of_lt_of_le hj x.len) hn).trans (x.old j hj hn)⟩
theorem ExB.set {a : Nat} {H : MH} (o : MO) : ExB a H (H.set a o) := ⟨by rw [List.length_set]; exact Nat.le_refl _, fun j hj hn => List.getElem?_set_ne (Ne.symm hn)⟩
theorem ExB.get {a : Nat} {H H' : MH} (x : ExB a H H') {j : Nat} {o : MO} (h : H[j]? = some o) (hn : j ≠ a) : H'[j]? = some o := (x.old j (List.getElem?_eq_some_iff.mp h).1 hn).trans h
theorem StreamAt.ex {H H' : MH} {sr a : Nat} {data : MV} {s : SS} {held : Int} (X : StreamAt H sr a data s held) (E : Ex' H H') : StreamAt H' sr a data s held := ⟨E.get X.inst, E.get X.attrs, X.isd⟩
noncomputable def pr (p : Int × Bool) : MV := .tup [.int p.1, .bool p.2]
noncomputable def rngItems (a : Int) (n : Nat) : List MV := (List.range n).map fun (j : Nat) => MV.int (a + (j : Int))
theorem iter_rng (a b : Int) (i : Nat) (H : MH) : iterAt (.rng a b) i H = some (rngItems a (b - a).toNat)[i]? := by
  unfold iterAt rngItems
  dsimp only
  rw [List.getElem?_map]
  by_cases h : a + i < b
  · rw [if_pos h, List.getElem?_range (by omega)]; rfl
  · rw [if_neg h, List.getElem?_eq_none (by rw [List.length_range]; omega)]; rfl
theorem iterOk_rng {a b : Int} {H : MH} (h1 : -(2 ^ 30) ≤ a) (h2 : a < 2 ^ 30) (h3 : -(2 ^ 30) ≤ b) (h4 : b < 2 ^ 30) : iterOk (.rng a b) H = true := by
  unfold iterOk
  simp only [Bool.and_eq_true, decide_eq_true_eq]
  exact ⟨⟨⟨h1, h2⟩, h3⟩, h4⟩
theorem extend_run {H : MH} {f c : Nat} {xs ys : List MV} (h1 : H[f]? = some (.list xs)) (h2 : H[c]? = some (.list ys)) (l1 : xs.length ≤ 1000) (l2 : ys.length ≤ 1000) : extendF [.ref f, .ref c] H = some (.none, H.set f (.list (xs ++ ys))) := by
  unfold extendF listD
  dsimp only
  rw [h1]
  dsimp only [Option.bind_some]
  rw [h2]
  dsimp only [Option.bind_some]
  rw [if_pos ⟨l1, l2⟩]
theorem methL_run {g : FnF} {f : EvF} {fa : EvLF} {l : Loc} {H H1 H2 : MH} {m : Nat} {xs : List MV} {vs : List MV} {r : Option (MV × MH)} (hf : f l H = some (.ref m, H1)) (hm : H1[m]? = some (.list xs)) (ha : fa l H1 = some (vs, H2)) (hg : g (.ref m :: vs) H2 = r) : eMethL g f fa l H = r := by
  unfold eMethL
  rw [hf, Option.bind_some]
  have e2 : listD (.ref m) H1 = some (m, xs) := by unfold listD; dsimp only; rw [hm]
  dsimp only
  rw [e2, Option.bind_some, ha]
  exact hg
set_option maxHeartbeats 2000000 in
theorem E_settled {H : MH} {sr a : Nat} {data : MV} {s : SS} {held : Int} (X : StreamAt H sr a data s held) (b : Bool) (h60 : s.at_ ≤ 60) (hh : -1 ≤ held) (hh2 : held ≤ s.at_) :
    ∃ H', F_SentenceStream_settled [.ref sr, .bool b] H = some (.ref H.length, H') ∧ H'[H.length]? = some (.list ((settledP held s.at_ b).map pr)) ∧ StreamAt H' sr a data s (if 0 ≤ held then -1 else held) ∧ ExB a H H' := by
  have halt := X.lt
  have E1 := Ex'.app H [MO.list []]
  have X1 := X.ex E1
  unfold F_SentenceStream_settled settledP
  by_cases c : 0 ≤ held
  · rw [if_pos c, if_pos c]
    generalize hL : ([("is_break", MV.bool b), ("self", MV.ref sr), ("found", MV.ref H.length)] : Loc) = L
    have ls : L.lookup "self" = some (.ref sr) := by rw [← hL]; simp [List.lookup_cons]
    have lf : ∀ H : MH, ∀ n, L.lookup "found" = some (.ref n) → eN "found" L H = some (.ref n, H) := fun H n h => by simp [eN, h]
    have lfd : L.lookup "found" = some (.ref H.length) := by rw [← hL]; simp [List.lookup_cons]
    have lb : L.lookup "is_break" = some (.bool b) := by rw [← hL]; simp [List.lookup_cons]
    have m1 := methL_last (H := H) (xs := []) (v := .tup [.int held, .bool b]) (f := eN "found") (fa := lCons (eTup (lCons (eAttr 127 "held" (eN "self")) (lCons (eN "is_break") lNil))) lNil) (l := L) (lf _ _ lfd)
      (lcons_run (tup_run (lcons_run (get_held X1 ls) (lcons_run (v := .bool b) (by simp [eN, lb]) rfl)) (by simp)) rfl) (by simp)
    rw [List.nil_append] at m1
    have E2 := Ex'.app H [MO.list [.tup [.int held, .bool b]]]
    have X2 := X.ex E2
    generalize hH2 : H ++ [MO.list [MV.tup [.int held, .bool b]]] = H2 at m1 E2 X2
    have hf2 : H2[H.length]? = some (.list [.tup [.int held, .bool b]]) := by rw [← hH2]; simp
    have hrng : eCall rangeF (lCons (eBin addF (eAttr 127 "held" (eN "self")) (eC (.int 1))) (lCons (eAttr 127 "at" (eN "self")) lNil)) L H2 = some (.rng (held + 1) s.at_, H2) := by
      have g1 := get_held X2 ls
      have g2 := get_at X2 ls
      refine call_run (lcons_run (v := .int (held + 1)) (by simp [eBin, g1, eC, addF]) (lcons_run g2 rfl)) rfl
    have hlen : (rngItems (held + 1) (s.at_ - (held + 1)).toNat).length ≤ 60 := by unfold rngItems; rw [List.length_map, List.length_range]; omega
    obtain ⟨H3, q1, q2, q3⟩ := comp_run (fs := []) (x := "place") (t := tTrue) (g := eTup (lCons (eN "place") (lCons (eC (.bool false)) lNil))) (fun _ => true) (fun v => MV.tup [v, .bool false]) hrng (iterOk_rng (by omega) (by omega) (by omega) (by omega)) hlen (fun Hx i _ => iter_rng _ _ i Hx)
      (fun i v Hx lx _ _ _ => ⟨Hx, rfl, Ex'.refl Hx⟩) (fun i v Hx lx _ _ _ _ => ⟨Hx, tup_run (lcons_run (v := v) (by first | exact n_run lke | exact n_run (lkn (by decide) lke) | simp [eN, lookup_setKV]) (lcons_run rfl rfl)) (by simp), Ex'.refl Hx⟩)
    have hf3 := q2.get hf2
    have m2 := methL_run (g := extendF) (lf H2 _ lfd) hf2 (lcons_run (g := lNil) q1 rfl) (extend_run hf3 q3 (by simp) (by
      have q := List.length_filter_le (fun _ : MV => true) (rngItems (held + 1) (s.at_ - (held + 1)).toNat)
      rw [List.length_map]
      omega))
    have hal : a ≠ H.length := by omega
    have h3len : H.length < H3.length := (List.getElem?_eq_some_iff.mp hf3).1
    generalize hxs : ([MV.tup [.int held, .bool b]] ++ ((rngItems (held + 1) (s.at_ - (held + 1)).toNat).filter fun _ => true).map fun v => MV.tup [v, .bool false]) = XS at m2
    have X3 : StreamAt (H3.set H.length (.list XS)) sr a data s held := by
      have Y := (X2.ex q2)
      have hsr : sr ≠ H.length := by have := (List.getElem?_eq_some_iff.mp X.inst).1; omega
      exact ⟨by rw [List.getElem?_set_ne hsr.symm]; exact Y.inst, by rw [List.getElem?_set_ne hal.symm]; exact Y.attrs, Y.isd⟩
    have e4 := set_held X3 ls (-1)
    refine ⟨(H3.set H.length (.list XS)).set a (.attrs (attrsOf data s (-1))), ?_, ?_, X3.upd s (-1), ?_⟩
    · refine fn_ret rfl ?_
      apply Exists.intro
      refine x_next (l1 := L) (H1 := H ++ [MO.list []]) (by rw [← hL]; rfl) ?_
      refine x_next (l1 := L) (H1 := (H3.set H.length (.list XS)).set a (.attrs (attrsOf data s (-1)))) (x_if (b := true) (H1 := H ++ [MO.list []]) (tCmp_run (get_held X1 ls) rfl (by show some (decide ((0 : Int) ≤ held)) = _; rw [decide_eq_true c])) ?_) ?_
      · rw [if_pos rfl]
        refine x_next (x_exp m1) (x_next (x_exp m2) (x_next (x_asg (v := .int (-1)) rfl e4) rfl))
      · exact x_ret (x_retv (lf _ _ lfd))
    · rw [List.getElem?_set_ne hal, List.getElem?_set_self h3len, ← hxs]
      congr 2
      have e : ((s.at_ : Int) - (held + 1)).toNat = ((s.at_ : Int) - held - 1).toNat := by omega
      rw [e, List.filter_eq_self.mpr (fun _ _ => rfl)]
      unfold rngItems
      rw [List.map_cons, List.map_map, List.map_map]
      rfl
    · refine ExB.trans ⟨by rw [List.length_set]; exact Nat.le_trans E2.len q2.len, fun j hj hn => ?_⟩ (ExB.set _)
      rw [List.getElem?_set_ne (by omega)]
      rw [q2.old j (Nat.lt_of_lt_of_le hj E2.len), E2.old j hj]
  · rw [if_neg c, if_neg c]
    refine ⟨H ++ [MO.list []], ?_, by simp, X1, E1.toB a⟩
    generalize hL : ([("is_break", MV.bool b), ("self", MV.ref sr), ("found", MV.ref H.length)] : Loc) = L
    have ls : L.lookup "self" = some (.ref sr) := by rw [← hL]; simp [List.lookup_cons]
    have lfd : L.lookup "found" = some (.ref H.length) := by rw [← hL]; simp [List.lookup_cons]
    refine fn_ret rfl ?_
    apply Exists.intro
    refine x_next (l1 := L) (H1 := H ++ [MO.list []]) (by rw [← hL]; rfl) ?_
    refine x_next (l1 := L) (H1 := H ++ [MO.list []]) (x_if (b := false) (H1 := H ++ [MO.list []]) (tCmp_run (get_held X1 ls) rfl (by show some (decide ((0 : Int) ≤ held)) = _; rw [decide_eq_false c])) (by rw [if_neg (by decide)]; rfl)) ?_
    exact x_ret (x_retv (by simp [eN, lfd]))
end Nt
end
section
open PySem PySem.SeqAt
namespace Nt
theorem methI_run {C : Addr} {x : String} {g : FnF} {f : EvF} {fa : EvLF} {l : Loc} {H H1 H2 : MH} {o : MV} {d : Nat} {fs : List (String × MV)} {vs : List MV} {r : Option (MV × MH)} (hf : f l H = some (o, H1)) (hi : instD C o H1 = some (d, fs)) (hx : fs.lookup x = none) (ha : fa l H1 = some (vs, H2)) (hg : g (o :: vs) H2 = r) : eMeth C x g f fa l H = r := by
  unfold eMeth
  rw [hf, Option.bind_some]
  dsimp only
  rw [hi, Option.bind_some]
  dsimp only
  rw [hx]
  rw [if_pos (by rfl), ha]
  exact hg
theorem append_run {H : MH} {f : Nat} {xs : List MV} {v : MV} (h1 : H[f]? = some (.list xs)) (l1 : xs.length ≤ 1000) : appendF [.ref f, v] H = some (.none, H.set f (.list (xs ++ [v]))) := by
  unfold appendF listD
  dsimp only
  rw [h1]
  dsimp only [Option.bind_some]
  rw [if_pos l1]
theorem StreamAt.setL {H : MH} {sr a f : Nat} {data : MV} {s : SS} {held : Int} (X : StreamAt H sr a data s held) {xs : List MV} (h : H[f]? = some (.list xs)) (o : MO) : StreamAt (H.set f o) sr a data s held := by
  have h1 : f ≠ sr := by
    rintro rfl
    have := X.inst
    rw [h] at this; cases this
  have h2 : f ≠ a := by
    rintro rfl
    have := X.attrs
    rw [h] at this; cases this
  exact ⟨by rw [List.getElem?_set_ne h1]; exact X.inst, by rw [List.getElem?_set_ne h2]; exact X.attrs, X.isd⟩
theorem ne_list {H : MH} {sr a f : Nat} {data : MV} {s : SS} {held : Int} (X : StreamAt H sr a data s held) {xs : List MV} (h : H[f]? = some (.list xs)) : f ≠ a := by
  rintro rfl
  have := X.attrs
  rw [h] at this; cases this
/-- the second half of put -/
noncomputable def put2 (s : SS) (held : Int) (k : String) (F1 : List (Int × Bool)) : List (Int × Bool) × SS × Int :=
  if held < 0 then (if s.verdict k = "wait" then (F1, s.take k, (s.at_ : Int)) else (F1 ++ [((s.at_ : Int), s.verdict k == "break")], s.take k, held)) else (F1, s.take k, held)
set_option maxHeartbeats 2000000 in
theorem put_part {H : MH} {sr a f : Nat} {data : MV} {s : SS} {held : Int} {l : Loc} (X : StreamAt H sr a data s held) (k : String) {F1 : List (Int × Bool)} (hF : H[f]? = some (.list (F1.map pr))) (hl : F1.length ≤ 900) (ls : l.lookup "self" = some (.ref sr)) (lf : l.lookup "found" = some (.ref f)) (lk : l.lookup "kind" = some (.str k)) :
    ∃ l' H', (xCons (xIf (tCmp ltF (eAttr 127 "held" (eN "self")) (eC (.int 0))) (xCons (xAssign (eMeth 127 "verdict" F_SentenceStream_verdict (eN "self") (lCons (eN "kind") lNil)) (aN "word")) (xCons (xIf (tCmp eqF (eN "word") (eC (.str "wait"))) (xCons (xAssign (eAttr 127 "at" (eN "self")) (aAttr 127 "held" (eN "self"))) xNil) (xCons (xExpr (eMethL appendF (eN "found") (lCons (eTup (lCons (eAttr 127 "at" (eN "self")) (lCons (eCmp eqF (eN "word") (eC (.str "break"))) lNil))) lNil))) xNil)) xNil)) xNil) (xCons (xExpr (eMeth 127 "take" F_SentenceStream_take (eN "self") (lCons (eN "kind") lNil))) (xCons (xRet (eN "found")) xNil))) l H = some (.ret (.ref f), l', H')
      ∧ H'[f]? = some (.list ((put2 s held k F1).1.map pr)) ∧ StreamAt H' sr a data (put2 s held k F1).2.1 (put2 s held k F1).2.2 ∧ (∀ j, j ≠ a → j ≠ f → H'[j]? = H[j]?) ∧ H'.length = H.length := by
  have fa := ne_list X hF
  have fin : ∀ (H : MH) (s : SS) (held : Int) (l : Loc) (F1 : List (Int × Bool)), StreamAt H sr a data s held → H[f]? = some (.list (F1.map pr)) → l.lookup "self" = some (.ref sr) → l.lookup "found" = some (.ref f) → l.lookup "kind" = some (.str k) →
      xCons (xExpr (eMeth 127 "take" F_SentenceStream_take (eN "self") (lCons (eN "kind") lNil))) (xCons (xRet (eN "found")) xNil) l H = some (.ret (.ref f), l, H.set a (.attrs (attrsOf data (s.take k) held))) := by
    intro H s held l F1 X hF ls lf lk
    refine x_next (x_exp (methI_run (o := .ref sr) (H1 := H) (by simp [eN, ls]) X.instD (by simp [attrsOf, List.lookup_cons]) (lcons_run (v := .str k) (by simp [eN, lk]) rfl) (E_take X k))) (x_ret (x_retv (by simp [eN, lf])))
  unfold put2
  by_cases c : held < 0
  · simp only [c, if_true]
    have t1 : tCmp ltF (eAttr 127 "held" (eN "self")) (eC (.int 0)) l H = some (true, H) := tCmp_run (get_held X ls) rfl (by show some (decide (held < 0)) = _; rw [decide_eq_true c])
    have hv := x_asg (a := aN "word") (methI_run (C := 127) (x := "verdict") (g := F_SentenceStream_verdict) (f := eN "self") (fa := lCons (eN "kind") lNil) (l := l) (o := .ref sr) (H := H) (H1 := H) (by simp [eN, ls]) X.instD (by simp [attrsOf, List.lookup_cons]) (lcons_run (v := .str k) (H1 := H) (by simp [eN, lk]) rfl) (E_verdict X k)) rfl
    generalize hw : s.verdict k = w at *
    have ls' : (setKV "word" (.str w) l).lookup "self" = some (.ref sr) := by first | exact lkn (by decide) ls | exact lkn (by decide) (lkn (by decide) ls) | simp [lookup_setKV, ls]
    have lf' : (setKV "word" (.str w) l).lookup "found" = some (.ref f) := by first | exact lkn (by decide) lf | exact lkn (by decide) (lkn (by decide) lf) | simp [lookup_setKV, lf]
    have lk' : (setKV "word" (.str w) l).lookup "kind" = some (.str k) := by first | exact lkn (by decide) lk | exact lkn (by decide) (lkn (by decide) lk) | simp [lookup_setKV, lk]
    by_cases c2 : w = "wait"
    · subst c2
      simp only [if_true]
      have Y := X.upd s s.at_
      refine ⟨setKV "word" (.str "wait") l, (H.set a (.attrs (attrsOf data s s.at_))).set a (.attrs (attrsOf data (s.take k) s.at_)), ?_, ?_, Y.upd (s.take k) s.at_, ?_, by simp⟩
      · refine x_next (l1 := setKV "word" (.str "wait") l) (H1 := H.set a (.attrs (attrsOf data s s.at_))) (x_if t1 ?_) (fin _ s s.at_ _ F1 Y (by rw [List.getElem?_set_ne fa.symm]; exact hF) ls' lf' lk')
        rw [if_pos rfl]
        refine x_next hv (x_next (x_if (b := true) (H1 := H) (tCmp_run (a := .str "wait") (H1 := H) (by first | exact n_run lke | exact n_run (lkn (by decide) lke) | simp [eN, lookup_setKV]) rfl (eq_str _ _ _)) ?_) rfl)
        rw [if_pos rfl]
        exact x_next (x_asg (get_at X ls') (set_held X ls' s.at_)) rfl
      · rw [List.getElem?_set_ne fa.symm, List.getElem?_set_ne fa.symm]; exact hF
      · intro j j1 j2
        rw [List.getElem?_set_ne j1.symm, List.getElem?_set_ne j1.symm]
    · simp only [c2, if_false]
      have hw2 : (w == "wait") = false := beq_eq_false_iff_ne.mpr c2
      have Y := X.setL hF (.list (F1.map pr ++ [.tup [.int s.at_, .bool (w == "break")]]))
      have flt : f < H.length := (List.getElem?_eq_some_iff.mp hF).1
      have hF2 : (H.set f (.list (F1.map pr ++ [.tup [.int s.at_, .bool (w == "break")]])))[f]? = some (.list ((F1 ++ [((s.at_ : Int), w == "break")]).map pr)) := by
        rw [List.getElem?_set_self flt]; simp [pr]
      refine ⟨setKV "word" (.str w) l, (H.set f (.list (F1.map pr ++ [.tup [.int s.at_, .bool (w == "break")]]))).set a (.attrs (attrsOf data (s.take k) held)), ?_, ?_, Y.upd (s.take k) held, ?_, by simp⟩
      · refine x_next (l1 := setKV "word" (.str w) l) (H1 := H.set f (.list (F1.map pr ++ [.tup [.int s.at_, .bool (w == "break")]]))) (x_if t1 ?_) (fin _ s held _ _ Y hF2 ls' lf' lk')
        rw [if_pos rfl]
        refine x_next hv (x_next (x_if (b := false) (H1 := H) (tCmp_run (a := .str w) (H1 := H) (by first | exact n_run lke | exact n_run (lkn (by decide) lke) | simp [eN, lookup_setKV]) rfl ((eq_str _ _ _).trans (by rw [hw2]))) ?_) rfl)
        rw [if_neg (by decide)]
        have hb : eCmp eqF (eN "word") (eC (.str "break")) (setKV "word" (.str w) l) H = some (.bool (w == "break"), H) := by
          simp [eCmp, eN, lookup_setKV, eC, eq_str]
        exact x_next (x_exp (methL_run (g := appendF) (by simp [eN, lf']) hF (lcons_run (tup_run (lcons_run (get_at X ls') (lcons_run hb rfl)) (by simp)) rfl) (append_run hF (by rw [List.length_map]; omega)))) rfl
      · rw [List.getElem?_set_ne fa.symm]; exact hF2
      · intro j j1 j2
        rw [List.getElem?_set_ne j1.symm, List.getElem?_set_ne j2.symm]
  · simp only [c, if_false]
    have t1 : tCmp ltF (eAttr 127 "held" (eN "self")) (eC (.int 0)) l H = some (false, H) := tCmp_run (get_held X ls) rfl (by show some (decide (held < 0)) = _; rw [decide_eq_false c])
    refine ⟨l, H.set a (.attrs (attrsOf data (s.take k) held)), x_next (x_if t1 (by rw [if_neg (by decide)]; rfl)) (fin H s held l F1 X hF ls lf lk), by rw [List.getElem?_set_ne fa.symm]; exact hF, X.upd _ _, fun j j1 _ => List.getElem?_set_ne j1.symm, by simp⟩
end Nt
end
section
open PySem PySem.SeqAt
namespace Nt
theorem settledP_len (held : Int) (n : Nat) (b : Bool) (h : -1 ≤ held) : (settledP held n b).length ≤ n + 1 := by
  unfold settledP
  split
  · rw [List.length_cons, List.length_map, List.length_range]; omega
  · simp
theorem put2_putP (s : SS) (held : Int) (k : String) : put2 s (if 0 ≤ held ∧ stops k = true then (if 0 ≤ held then -1 else held) else held) k (if 0 ≤ held ∧ stops k = true then settledP held s.at_ (k != "Lower") else []) = putP s held k := by
  unfold put2 putP
  by_cases c : 0 ≤ held ∧ stops k = true
  · simp only [c, if_true, true_and, and_self]
    simp
  · simp only [c, if_false, List.nil_append]
set_option maxHeartbeats 2000000 in
theorem E_put {H : MH} {sr a : Nat} {data : MV} {s : SS} {held : Int} (X : StreamAt H sr a data s held) (h60 : s.at_ ≤ 60) (hh : -1 ≤ held) (hh2 : held ≤ s.at_) {cd : Int} {k : String}
    (hk : F_Data_get [data, .str "sb", .int cd] H = some (.str k, H)) (hd : ∃ a fs, instD 273 data H = some (a, fs) ∧ fs.lookup "get" = none) :
    ∃ f H', F_SentenceStream_put [.ref sr, .int cd] H = some (.ref f, H') ∧ H'[f]? = some (.list ((putP s held k).1.map pr)) ∧ StreamAt H' sr a data (putP s held k).2.1 (putP s held k).2.2 ∧ H.length ≤ f ∧ ExB a H H' := by
  obtain ⟨da, dfs, hi, hn⟩ := hd
  generalize hL0 : ([("code", MV.int cd), ("self", MV.ref sr)] : Loc) = L0
  have s0 : L0.lookup "self" = some (.ref sr) := by rw [← hL0]; simp [List.lookup_cons]
  have c0 : L0.lookup "code" = some (.int cd) := by rw [← hL0]; simp [List.lookup_cons]
  generalize hL1 : setKV "kind" (.str k) L0 = L1
  have s1 : L1.lookup "self" = some (.ref sr) := by rw [← hL1]; first | exact lkn (by decide) s0 | exact lkn (by decide) (lkn (by decide) s0) | simp [lookup_setKV, s0]
  have k1 : L1.lookup "kind" = some (.str k) := by rw [← hL1]; first | exact lke | exact lkn (by decide) lke | simp [lookup_setKV]
  have q1 : xAssign (eMeth 273 "get" F_Data_get (eAttr 127 "data" (eN "self")) (lCons (eC (.str "sb")) (lCons (eN "code") lNil))) (aN "kind") L0 H = some (.next, L1, H) := by
    refine x_asg (methI_run (o := data) (H := H) (H1 := H) (H2 := H) (get_data X s0) hi hn (lcons_run (v := .str "sb") (H1 := H) rfl (lcons_run (v := .int cd) (H1 := H) (by simp [eN, c0]) rfl)) hk) ?_
    rw [← hL1]; rfl
  generalize hL2 : setKV "found" (.ref H.length) L1 = L2
  have s2 : L2.lookup "self" = some (.ref sr) := by rw [← hL2]; first | exact lkn (by decide) s1 | exact lkn (by decide) (lkn (by decide) s1) | simp [lookup_setKV, s1]
  have k2 : L2.lookup "kind" = some (.str k) := by rw [← hL2]; first | exact lkn (by decide) k1 | exact lkn (by decide) (lkn (by decide) k1) | simp [lookup_setKV, k1]
  have f2 : L2.lookup "found" = some (.ref H.length) := by rw [← hL2]; first | exact lke | exact lkn (by decide) lke | simp [lookup_setKV]
  have q2 : xAssign (eLst lNil) (aN "found") L1 H = some (.next, L2, H ++ [MO.list []]) := by
    refine x_asg (v := .ref H.length) (H1 := H ++ [MO.list []]) rfl ?_
    rw [← hL2]; rfl
  have E1 := Ex'.app H [MO.list []]
  have X1 := X.ex E1
  have halt := X.lt
  generalize hH1 : H ++ [MO.list []] = H1 at q2 E1 X1
  have hf1 : H1[H.length]? = some (.list (([] : List (Int × Bool)).map pr)) := by rw [← hH1]; simp
  have hlen1 : H1.length = H.length + 1 := by rw [← hH1]; simp
  have t1 : tAnd (tCmp geF (eAttr 127 "held" (eN "self")) (eC (.int 0))) (tAnd (tCmp inF (eN "kind") (eC V_SENTENCE_STOPS)) tTrue) L2 H1 = some (decide (0 ≤ held) && stops k, H1) := by
    have g := get_held X1 s2
    have r1 : tCmp geF (eAttr 127 "held" (eN "self")) (eC (.int 0)) L2 H1 = some (decide (0 ≤ held), H1) := tCmp_run g rfl (by show some (decide ((0 : Int) ≤ held)) = _; rfl)
    have r2 : tCmp inF (eN "kind") (eC V_SENTENCE_STOPS) L2 H1 = some (stops k, H1) := tCmp_run (a := .str k) (H1 := H1) (by simp [eN, k2]) rfl (in_STOPS _ _)
    unfold tAnd
    rw [r1, Option.bind_some]
    dsimp only
    cases decide (0 ≤ held) with
    | false => rfl
    | true =>
      rw [if_pos rfl, r2, Option.bind_some]
      dsimp only
      cases stops k <;> rfl
  rw [← put2_putP]
  unfold F_SentenceStream_put
  by_cases c : 0 ≤ held ∧ stops k = true
  · rw [if_pos c, if_pos c]
    obtain ⟨H2, e1, e2, e3, e4⟩ := E_settled X1 (k != "Lower") h60 hh hh2
    generalize hL3 : setKV "found" (.ref H1.length) L2 = L3
    have s3 : L3.lookup "self" = some (.ref sr) := by rw [← hL3]; first | exact lkn (by decide) s2 | exact lkn (by decide) (lkn (by decide) s2) | simp [lookup_setKV, s2]
    have k3 : L3.lookup "kind" = some (.str k) := by rw [← hL3]; first | exact lkn (by decide) k2 | exact lkn (by decide) (lkn (by decide) k2) | simp [lookup_setKV, k2]
    have f3 : L3.lookup "found" = some (.ref H1.length) := by rw [← hL3]; first | exact lke | exact lkn (by decide) lke | simp [lookup_setKV]
    have hcmp : eCmp neF (eN "kind") (eC (.str "Lower")) L2 H1 = some (.bool (k != "Lower"), H1) := by
      simp [eCmp, eN, k2, eC, ne_eq', eq_str, bne]
    have q3 : xAssign (eMeth 127 "settled" F_SentenceStream_settled (eN "self") (lCons (eCmp neF (eN "kind") (eC (.str "Lower"))) lNil)) (aN "found") L2 H1 = some (.next, L3, H2) := by
      refine x_asg (methI_run (o := .ref sr) (H := H1) (H1 := H1) (H2 := H1) (by simp [eN, s2]) X1.instD (by simp [attrsOf, List.lookup_cons]) (lcons_run hcmp rfl) e1) ?_
      rw [← hL3]; rfl
    obtain ⟨l', H', w1, w2, w3, w4, w5⟩ := put_part e3 k e2 (by have := settledP_len held s.at_ (k != "Lower") hh; omega) s3 f3 k3
    refine ⟨H1.length, H', ?_, w2, w3, by omega, ?_⟩
    · refine fn_ret rfl ⟨l', ?_⟩
      have hz : (["self", "code"].zip [MV.ref sr, MV.int cd]).reverse = L0 := by rw [← hL0]; rfl
      rw [hz]
      refine x_next q1 (x_next q2 (x_next (x_if t1 ?_) w1))
      rw [decide_eq_true c.1, c.2, if_pos (by rfl)]
      exact x_next q3 rfl
    · have E14 := (E1.toB a).trans e4
      refine ⟨by rw [w5]; exact E14.len, fun j hj hn => ?_⟩
      rw [w4 j hn (by omega)]
      exact E14.old j hj hn
  · rw [if_neg c, if_neg c]
    obtain ⟨l', H', w1, w2, w3, w4, w5⟩ := put_part X1 k hf1 (by simp) s2 f2 k2
    refine ⟨H.length, H', ?_, w2, w3, by omega, ?_⟩
    · refine fn_ret rfl ⟨l', ?_⟩
      have hz : (["self", "code"].zip [MV.ref sr, MV.int cd]).reverse = L0 := by rw [← hL0]; rfl
      rw [hz]
      refine x_next q1 (x_next q2 (x_next (x_if t1 ?_) w1))
      have : (decide (0 ≤ held) && stops k) = false := by
        cases e : decide (0 ≤ held) with
        | false => rfl
        | true =>
          cases e2 : stops k with
          | false => rfl
          | true => exact absurd ⟨of_decide_eq_true e, e2⟩ c
      rw [this, if_neg (by decide)]
      rfl
    · refine ⟨by rw [w5]; omega, fun j hj hn => ?_⟩
      rw [w4 j hn (by omega)]
      exact E1.old j hj
end Nt
end
section
open PySem PySem.SeqAt
namespace Nt
set_option maxHeartbeats 2000000 in
theorem E_finish {H : MH} {sr a : Nat} {data : MV} {s : SS} {held : Int} (X : StreamAt H sr a data s held) (h60 : s.at_ ≤ 60) (hh : -1 ≤ held) (hh2 : held ≤ s.at_) :
    ∃ H', F_SentenceStream_finish [.ref sr] H = some (.ref H.length, H') ∧ H'[H.length]? = some (.list ((finP s held).map pr)) ∧ ExB a H H' := by
  generalize hL0 : ([("self", MV.ref sr)] : Loc) = L0
  have s0 : L0.lookup "self" = some (.ref sr) := by rw [← hL0]; simp [List.lookup_cons]
  obtain ⟨H2, e1, e2, e3, e4⟩ := E_settled X true h60 hh hh2
  generalize hL3 : setKV "found" (.ref H.length) L0 = L3
  have s3 : L3.lookup "self" = some (.ref sr) := by rw [← hL3]; first | exact lkn (by decide) s0 | exact lkn (by decide) (lkn (by decide) s0) | simp [lookup_setKV, s0]
  have f3 : L3.lookup "found" = some (.ref H.length) := by rw [← hL3]; first | exact lke | exact lkn (by decide) lke | simp [lookup_setKV]
  have q3 : xAssign (eMeth 127 "settled" F_SentenceStream_settled (eN "self") (lCons (eC (.bool true)) lNil)) (aN "found") L0 H = some (.next, L3, H2) := by
    refine x_asg (methI_run (o := .ref sr) (H := H) (H1 := H) (H2 := H) (by simp [eN, s0]) X.instD (by simp [attrsOf, List.lookup_cons]) (lcons_run (v := .bool true) (H1 := H) rfl rfl) e1) ?_
    rw [← hL3]; rfl
  have t1 : tCmp gtF (eAttr 127 "at" (eN "self")) (eC (.int 0)) L3 H2 = some (decide (0 < s.at_), H2) := by
    refine tCmp_run (get_at e3 s3) rfl ?_
    show some (decide ((0 : Int) < (s.at_ : Int))) = _
    congr 1
    exact decide_eq_decide.mpr (by omega)
  have hz : (["self"].zip [MV.ref sr]).reverse = L0 := by rw [← hL0]; rfl
  have hsl := settledP_len held s.at_ true hh
  unfold F_SentenceStream_finish finP
  by_cases c : 0 < s.at_
  · rw [if_pos c]
    have flt : H.length < H2.length := (List.getElem?_eq_some_iff.mp e2).1
    refine ⟨H2.set H.length (.list ((settledP held s.at_ true).map pr ++ [.tup [.int s.at_, .bool true]])), ?_, ?_, ?_⟩
    · refine fn_ret rfl ⟨L3, ?_⟩
      rw [hz]
      refine x_next q3 (x_next (l1 := L3) (H1 := H2.set H.length (.list ((settledP held s.at_ true).map pr ++ [.tup [.int s.at_, .bool true]]))) (x_if t1 ?_) (x_ret (x_retv (by simp [eN, f3]))))
      rw [decide_eq_true c, if_pos rfl]
      exact x_next (x_exp (methL_run (g := appendF) (by simp [eN, f3]) e2 (lcons_run (tup_run (lcons_run (get_at e3 s3) (lcons_run (v := .bool true) rfl rfl)) (by simp)) rfl) (append_run e2 (by rw [List.length_map]; omega)))) rfl
    · rw [List.getElem?_set_self flt]; simp [pr]
    · refine ⟨by rw [List.length_set]; exact e4.len, fun j hj hn => ?_⟩
      rw [List.getElem?_set_ne (by omega)]
      exact e4.old j hj hn
  · rw [if_neg c, List.append_nil]
    refine ⟨H2, ?_, e2, e4⟩
    refine fn_ret rfl ⟨L3, ?_⟩
    rw [hz]
    refine x_next q3 (x_next (l1 := L3) (H1 := H2) (x_if t1 ?_) (x_ret (x_retv (by simp [eN, f3]))))
    rw [decide_eq_false c, if_neg (by decide)]
    rfl
set_option maxHeartbeats 2000000 in
theorem E_new {H : MH} {data : MV} (hd : isData data = true) :
    newF 127 F_SentenceStream___init__ [data] H = some (.ref (H.length + 1), H ++ [MO.attrs (attrsOf data SS.init (-1)), MO.inst 127 H.length]) := by
  unfold newF
  have key : F_SentenceStream___init__ (.ref (H.length + 1) :: [data]) (H ++ [MO.attrs [], MO.inst 127 H.length]) = some (.none, H ++ [MO.attrs (attrsOf data SS.init (-1)), MO.inst 127 H.length]) := by
    generalize hL0 : ([("data", data), ("self", MV.ref (H.length + 1))] : Loc) = L0
    have s0 : L0.lookup "self" = some (.ref (H.length + 1)) := by rw [← hL0]; simp [List.lookup_cons]
    have d0 : L0.lookup "data" = some data := by rw [← hL0]; simp [List.lookup_cons]
    have put : ∀ (fs : List (String × MV)) (x : String) (v : MV) (fs' : List (String × MV)), fs.length ≤ 1000 → setKV x v fs = fs' → aAttr 127 x (eN "self") v L0 (H ++ [MO.attrs fs, MO.inst 127 H.length]) = some (L0, H ++ [MO.attrs fs', MO.inst 127 H.length]) := by
      intro fs x v fs' hl he
      have hi := inst_at (H := H ++ [MO.attrs fs, MO.inst 127 H.length]) (sr := H.length + 1) (a := H.length) (fs := fs) (by simp) (by simp)
      rw [put_run s0 hi hl, he]
      simp
    unfold F_SentenceStream___init__
    refine fn_end rfl ⟨L0, ?_⟩
    have hz : (["self", "data"].zip [MV.ref (H.length + 1), data]).reverse = L0 := by rw [← hL0]; rfl
    rw [hz]
    refine x_next (x_asg (v := data) (H1 := H ++ [MO.attrs [], MO.inst 127 H.length]) (by simp [eN, d0]) (put [] "data" (data) [("data", data)] (by simp) (by simp [setKV]))) ?_
    refine x_next (x_asg (v := .int 0) (H1 := H ++ [MO.attrs [("data", data)], MO.inst 127 H.length]) rfl (put [("data", data)] "at" (.int 0) [("data", data), ("at", .int 0)] (by simp) (by simp [setKV]))) ?_
    refine x_next (x_asg (v := .str "") (H1 := H ++ [MO.attrs [("data", data), ("at", .int 0)], MO.inst 127 H.length]) rfl (put [("data", data), ("at", .int 0)] "last" (.str "") [("data", data), ("at", .int 0), ("last", .str "")] (by simp) (by simp [setKV]))) ?_
    refine x_next (x_asg (v := .str "") (H1 := H ++ [MO.attrs [("data", data), ("at", .int 0), ("last", .str "")], MO.inst 127 H.length]) rfl (put [("data", data), ("at", .int 0), ("last", .str "")] "base" (.str "") [("data", data), ("at", .int 0), ("last", .str ""), ("base", .str "")] (by simp) (by simp [setKV]))) ?_
    refine x_next (x_asg (v := .str "") (H1 := H ++ [MO.attrs [("data", data), ("at", .int 0), ("last", .str ""), ("base", .str "")], MO.inst 127 H.length]) rfl (put [("data", data), ("at", .int 0), ("last", .str ""), ("base", .str "")] "prior" (.str "") [("data", data), ("at", .int 0), ("last", .str ""), ("base", .str ""), ("prior", .str "")] (by simp) (by simp [setKV]))) ?_
    refine x_next (x_asg (v := .str "") (H1 := H ++ [MO.attrs [("data", data), ("at", .int 0), ("last", .str ""), ("base", .str ""), ("prior", .str "")], MO.inst 127 H.length]) rfl (put [("data", data), ("at", .int 0), ("last", .str ""), ("base", .str ""), ("prior", .str "")] "term" (.str "") [("data", data), ("at", .int 0), ("last", .str ""), ("base", .str ""), ("prior", .str ""), ("term", .str "")] (by simp) (by simp [setKV]))) ?_
    refine x_next (x_asg (v := .bool false) (H1 := H ++ [MO.attrs [("data", data), ("at", .int 0), ("last", .str ""), ("base", .str ""), ("prior", .str ""), ("term", .str "")], MO.inst 127 H.length]) rfl (put [("data", data), ("at", .int 0), ("last", .str ""), ("base", .str ""), ("prior", .str ""), ("term", .str "")] "is_spaced" (.bool false) [("data", data), ("at", .int 0), ("last", .str ""), ("base", .str ""), ("prior", .str ""), ("term", .str ""), ("is_spaced", .bool false)] (by simp) (by simp [setKV]))) ?_
    refine x_next (x_asg (v := .int (-1)) (H1 := H ++ [MO.attrs [("data", data), ("at", .int 0), ("last", .str ""), ("base", .str ""), ("prior", .str ""), ("term", .str ""), ("is_spaced", .bool false)], MO.inst 127 H.length]) rfl (put [("data", data), ("at", .int 0), ("last", .str ""), ("base", .str ""), ("prior", .str ""), ("term", .str ""), ("is_spaced", .bool false)] "held" (.int (-1)) [("data", data), ("at", .int 0), ("last", .str ""), ("base", .str ""), ("prior", .str ""), ("term", .str ""), ("is_spaced", .bool false), ("held", .int (-1))] (by simp) (by simp [setKV]))) ?_
    rfl
  rw [key]
  rfl
theorem StreamAt.new {H : MH} {data : MV} (hd : isData data = true) : StreamAt (H ++ [MO.attrs (attrsOf data SS.init (-1)), MO.inst 127 H.length]) (H.length + 1) H.length data SS.init (-1) := ⟨by simp, by simp, hd⟩
end Nt
end
section
open PySem PySem.SeqAt
namespace Nt
set_option maxHeartbeats 2000000 in
theorem E_safe {text data : MV} {ks : List String} {H : MH} (V : View text data ks H) (i : Int) (hi : i ≤ 60) : F_sentence_safe [text, .int i, data] H = some (.int (safeP ks i.toNat), H) := by
  have K := E_kind V
  have loop : ∀ (m k : Nat) (l : Loc), m < k → l.lookup "text" = some text → l.lookup "at" = some (.int (m : Int)) → l.lookup "data" = some data →
      ∃ l', whileF (tCmp gtF (eN "at") (eC (.int 0))) (xCons (xAssign (eCall F_sentence_kind (lCons (eN "text") (lCons (eBin subF (eN "at") (eC (.int 1))) (lCons (eN "data") lNil)))) (aN "last")) (xCons (xIf (tAnd (tCmp inF (eN "last") (eC V_SENTENCE_PARAS)) (tAnd (tOr (tCmp neF (eN "last") (eC (.str "CR"))) (tOr (tCmp neF (eCall F_sentence_kind (lCons (eN "text") (lCons (eN "at") (lCons (eN "data") lNil)))) (eC (.str "LF"))) tFalse)) tTrue)) (xCons (xRet (eN "at")) xNil) xNil) (xCons (xAssign (eBin subF (eN "at") (eC (.int 1))) (aN "at")) xNil))) k l H
        = some (if safeP ks m = 0 then .next else .ret (.int (safeP ks m)), l', H) := by
    intro m
    induction m with
    | zero =>
      intro k l hk h1 h2 h3
      obtain ⟨k, rfl⟩ : ∃ m, k = m + 1 := ⟨k - 1, by omega⟩
      refine ⟨l, ?_⟩
      rw [w_false (H1 := H) (tCmp_run (a := .int ((0 : Nat) : Int)) (H1 := H) (by simp [eN, h2]) rfl rfl)]
      rfl
    | succ m ih =>
      intro k l hk h1 h2 h3
      obtain ⟨k, rfl⟩ : ∃ m, k = m + 1 := ⟨k - 1, by omega⟩
      have ht : tCmp gtF (eN "at") (eC (.int 0)) l H = some (true, H) := tCmp_run (a := .int ((m + 1 : Nat) : Int)) (H1 := H) (by simp [eN, h2]) rfl (by rw [gt_int]; congr 1; exact decide_eq_true (by omega))
      generalize hL : setKV "last" (.str (kd ks (m : Int))) l = L
      have t1 : L.lookup "text" = some text := by rw [← hL]; first | exact lkn (by decide) h1 | exact lkn (by decide) (lkn (by decide) h1) | simp [lookup_setKV, h1]
      have a1 : L.lookup "at" = some (.int ((m + 1 : Nat) : Int)) := by rw [← hL]; first | exact lkn (by decide) h2 | exact lkn (by decide) (lkn (by decide) h2) | simp [lookup_setKV, h2]
      have d1 : L.lookup "data" = some data := by rw [← hL]; first | exact lkn (by decide) h3 | exact lkn (by decide) (lkn (by decide) h3) | simp [lookup_setKV, h3]
      have l1 : L.lookup "last" = some (.str (kd ks (m : Int))) := by rw [← hL]; first | exact lke | exact lkn (by decide) lke | simp [lookup_setKV]
      have q1 : xAssign (eCall F_sentence_kind (lCons (eN "text") (lCons (eBin subF (eN "at") (eC (.int 1))) (lCons (eN "data") lNil)))) (aN "last") l H = some (.next, L, H) := by
        refine x_asg (call_run (lcons_run (v := text) (H1 := H) (by simp [eN, h1]) (lcons_run (v := .int (m : Int)) (H1 := H) ?_ (lcons_run (v := data) (H1 := H) (by simp [eN, h3]) rfl))) (K _)) ?_
        · exact bin_run (n_run h2) rfl (by rw [sub_int]; congr 3; omega)
        · rw [← hL]; rfl
      have r1 : tCmp inF (eN "last") (eC V_SENTENCE_PARAS) L H = some (para (kd ks (m : Int)), H) := tCmp_run (a := .str (kd ks (m : Int))) (H1 := H) (by simp [eN, l1]) rfl (in_PARAS _ _)
      have r2 : tCmp neF (eN "last") (eC (.str "CR")) L H = some (!(kd ks (m : Int) == "CR"), H) := tCmp_run (a := .str (kd ks (m : Int))) (H1 := H) (by simp [eN, l1]) rfl (by rw [ne_eq', eq_str]; rfl)
      have r3 : tCmp neF (eCall F_sentence_kind (lCons (eN "text") (lCons (eN "at") (lCons (eN "data") lNil)))) (eC (.str "LF")) L H = some (!(kd ks ((m + 1 : Nat) : Int) == "LF"), H) := by
        refine tCmp_run (a := .str (kd ks ((m + 1 : Nat) : Int))) (H1 := H) (call_run (lcons_run (v := text) (H1 := H) (by simp [eN, t1]) (lcons_run (v := .int ((m + 1 : Nat) : Int)) (H1 := H) (by simp [eN, a1]) (lcons_run (v := data) (H1 := H) (by simp [eN, d1]) rfl))) (K _)) rfl (by rw [ne_eq', eq_str]; rfl)
      have r : tAnd (tCmp inF (eN "last") (eC V_SENTENCE_PARAS)) (tAnd (tOr (tCmp neF (eN "last") (eC (.str "CR"))) (tOr (tCmp neF (eCall F_sentence_kind (lCons (eN "text") (lCons (eN "at") (lCons (eN "data") lNil)))) (eC (.str "LF"))) tFalse)) tTrue) L H = some (para (kd ks (m : Int)) && (!(kd ks (m : Int) == "CR") || !(kd ks ((m + 1 : Nat) : Int) == "LF")), H) := by
        simp only [tAnd, tOr, r1, r2, r3, Option.bind_some]
        cases para (kd ks (m : Int)) <;> cases (kd ks (m : Int) == "CR") <;> cases (kd ks ((m + 1 : Nat) : Int) == "LF") <;> rfl
      have hs : safeP ks (m + 1) = if (para (kd ks (m : Int)) && (!(kd ks (m : Int) == "CR") || !(kd ks ((m + 1 : Nat) : Int) == "LF"))) = true then m + 1 else safeP ks m := by
        conv => lhs; unfold safeP
        congr 1
        simp
      rw [hs]
      by_cases c : (para (kd ks (m : Int)) && (!(kd ks (m : Int) == "CR") || !(kd ks ((m + 1 : Nat) : Int) == "LF"))) = true
      · rw [if_pos c]
        rw [c] at r
        refine ⟨L, ?_⟩
        rw [w_ret ht (v := .int ((m + 1 : Nat) : Int)) (l2 := L) (H2 := H) (x_next q1 (x_ret (x_if r (by rw [if_pos rfl]; exact x_ret (x_retv (by simp [eN, a1]))))))]
        rw [if_neg (by omega)]
      · rw [if_neg c]
        rw [Bool.not_eq_true] at c
        rw [c] at r
        obtain ⟨l', q⟩ := ih k (setKV "at" (.int (m : Int)) L) (by omega) (by first | exact lkn (by decide) t1 | exact lkn (by decide) (lkn (by decide) t1) | simp [lookup_setKV, t1]) (by first | exact lke | exact lkn (by decide) lke | simp [lookup_setKV]) (by first | exact lkn (by decide) d1 | exact lkn (by decide) (lkn (by decide) d1) | simp [lookup_setKV, d1])
        refine ⟨l', ?_⟩
        rw [w_true ht (l2 := setKV "at" (.int (m : Int)) L) (H2 := H) (x_next q1 (x_next (x_if r (by rw [if_neg (by decide)]; rfl)) (x_next (x_asg (v := .int (m : Int)) (H1 := H) (bin_run (n_run a1) rfl (by rw [sub_int]; congr 3; omega)) rfl) rfl))), q]
  have hz : (["text", "at", "data"].zip [text, MV.int i, data]).reverse = [("data", data), ("at", .int i), ("text", text)] := rfl
  unfold F_sentence_safe
  refine fn_ret rfl ?_
  rw [hz]
  by_cases h0 : 0 < i
  · obtain ⟨m, rfl⟩ : ∃ m : Nat, i = (m : Int) := ⟨i.toNat, by omega⟩
    obtain ⟨l', q⟩ := loop m FU [("data", data), ("at", .int (m : Int)), ("text", text)] (by unfold FU; omega) (by simp [List.lookup_cons]) (by simp [List.lookup_cons]) (by simp [List.lookup_cons])
    rw [Int.toNat_natCast]
    by_cases c : safeP ks m = 0
    · rw [if_pos c] at q
      rw [c]
      apply Exists.intro
      refine x_next q ?_
      exact x_ret (x_retv rfl)
    · rw [if_neg c] at q
      exact ⟨l', x_ret q⟩
  · have e : i.toNat = 0 := by omega
    rw [e]
    apply Exists.intro
    refine x_next (l1 := [("data", data), ("at", .int i), ("text", text)]) (H1 := H) ?_ (x_ret (x_retv rfl))
    exact w_false (H1 := H) (tCmp_run (a := .int i) (H1 := H) (by simp [eN, List.lookup_cons]) rfl (by rw [gt_int]; congr 1; exact decide_eq_false h0))
end Nt
end
section
open PySem PySem.SeqAt
namespace Nt
/-- a view that later heaps keep -/
structure Fix (t : Nat) (cs : List Int) (data : MV) (ks : List String) (N : Nat) (H : MH) : Prop where
  lt : N ≤ H.length
  tN : t < N
  ht : H[t]? = some (.list (cs.map .int))
  len : cs.length = ks.length
  small : ks.length ≤ 60
  isd : isData data = true
  get : ∀ H' : MH, (∀ j, j < N → H'[j]? = H[j]?) → (∀ (i : Nat) (c : Int) (k : String), cs[i]? = some c → ks[i]? = some k → F_Data_get [data, .str "sb", .int c] H' = some (.str k, H')) ∧ ∃ a fs, instD 273 data H' = some (a, fs) ∧ fs.lookup "get" = none
theorem Fix.keep {t : Nat} {cs : List Int} {data : MV} {ks : List String} {N : Nat} {H H' : MH} (F : Fix t cs data ks N H) (hl : H.length ≤ H'.length) (h : ∀ j, j < N → H'[j]? = H[j]?) : Fix t cs data ks N H' :=
  ⟨Nat.le_trans F.lt hl, F.tN, (h t F.tN).trans F.ht, F.len, F.small, F.isd, fun H2 h2 => F.get H2 fun j hj => (h2 j hj).trans (h j hj)⟩
theorem Fix.ex {t : Nat} {cs : List Int} {data : MV} {ks : List String} {N : Nat} {H H' : MH} (F : Fix t cs data ks N H) (E : Ex' H H') : Fix t cs data ks N H' := F.keep E.len fun j hj => E.old j (Nat.lt_of_lt_of_le hj F.lt)
theorem Fix.view {t : Nat} {cs : List Int} {data : MV} {ks : List String} {N : Nat} {H : MH} (F : Fix t cs data ks N H) : View (.ref t) data ks H :=
  ⟨⟨t, cs, rfl, F.ht, F.len, (F.get H fun _ _ => rfl).1⟩, F.small, (F.get H fun _ _ => rfl).2⟩
theorem Fix.later {t : Nat} {cs : List Int} {data : MV} {ks : List String} {N : Nat} {H : MH} (F : Fix t cs data ks N H) : Fix t cs data ks H.length H :=
  ⟨Nat.le_refl _, Nat.lt_of_lt_of_le F.tN F.lt, F.ht, F.len, F.small, F.isd, fun H' h => F.get H' fun j hj => h j (Nat.lt_of_lt_of_le hj F.lt)⟩
/-- comprehensions over pairs -/
theorem comp_two_loop {H1 : MH} {m : Nat} {g : EvF} {l0 : Loc} (xs : List (Int × Bool)) (e : Int → Int) (hm : H1[m]? = some (.list (xs.map pr))) (hlen : xs.length ≤ 62)
    (hg : ∀ (p : Int) (b : Bool) (lx : Loc) (Hx : MH), (∀ y, y ≠ "place" → y ≠ "is_break" → lx.lookup y = l0.lookup y) → g (setKV "is_break" (.bool b) (setKV "place" (.int p) lx)) Hx = some (.int (e p), Hx)) :
    ∀ (d i k : Nat) (l : Loc) (Hx : MH), xs.length - i = d → i ≤ xs.length → d < k → Ex' H1 Hx → Hx[H1.length]? = some (.list (((xs.take i).filter (fun p => p.2)).map fun p => .int (e p.1))) → (∀ y, y ≠ "place" → y ≠ "is_break" → l.lookup y = l0.lookup y) →
      ∃ l' H', compF (.ref m) (aTwo "place" "is_break") (eT (eN "is_break")) g H1.length k i l Hx = some (l', H') ∧ Ex' H1 H' ∧ H'[H1.length]? = some (.list ((xs.filter (fun p => p.2)).map fun p => .int (e p.1)))
  | 0, i, k + 1, l, Hx, hd, hi, hk, hE, hA, hl => by
    have q : i = xs.length := by omega
    subst q
    refine ⟨l, Hx, ?_, hE, by rw [List.take_length] at hA; exact hA⟩
    unfold compF
    rw [iter_list hm hE, Option.bind_some, List.getElem?_eq_none (by rw [List.length_map]; exact Nat.le_refl _)]
  | d + 1, i, k + 1, l, Hx, hd, hi, hk, hE, hA, hl => by
    have hlt : i < xs.length := by omega
    have q : xs[i]? = some xs[i] := by simp
    have hts : xs.take (i + 1) = xs.take i ++ [xs[i]] := by rw [List.take_add_one, q]; rfl
    obtain ⟨p, b, hxi⟩ : ∃ p b, xs[i] = (p, b) := ⟨_, _, rfl⟩
    have hl2 : ∀ y, y ≠ "place" → y ≠ "is_break" → (setKV "is_break" (.bool b) (setKV "place" (.int p) l)).lookup y = l0.lookup y := fun y h1 h2 => by rw [lookup_setKV, if_neg h2, lookup_setKV, if_neg h1]; exact hl y h1 h2
    unfold compF
    rw [iter_list hm hE, Option.bind_some, List.getElem?_map, q, hxi]
    dsimp only [Option.map_some, pr]
    unfold aTwo
    rw [Option.bind_some]
    dsimp only
    have ht : eT (eN "is_break") (setKV "is_break" (.bool b) (setKV "place" (.int p) l)) Hx = some (b, Hx) := by
      unfold eT
      rw [n_run (v := .bool b) (by first | exact lke | exact lkn (by decide) lke | simp [lookup_setKV])]
      rfl
    rw [ht, Option.bind_some]
    dsimp only
    rw [hxi] at hts
    cases hb : b with
    | false =>
      subst hb
      simp only [Bool.false_eq_true, if_false]
      refine comp_two_loop xs e hm hlen hg d (i + 1) k _ Hx (by omega) (by omega) (by omega) hE ?_ hl2
      rw [hA, hts, List.filter_append]
      simp
    | true =>
      subst hb
      simp only [if_true]
      rw [hg p true l Hx hl, Option.bind_some]
      dsimp only
      have hal : ((((xs.take i).filter (fun p => p.2)).map fun p => MV.int (e p.1))).length ≤ 1000 := by
        rw [List.length_map]
        have := List.length_filter_le (fun p : Int × Bool => p.2) (xs.take i)
        rw [List.length_take] at this
        omega
      rw [append_run hA hal, Option.bind_some]
      dsimp only
      have hl3 : H1.length < Hx.length := (List.getElem?_eq_some_iff.mp hA).1
      refine comp_two_loop xs e hm hlen hg d (i + 1) k _ _ (by omega) (by omega) (by omega) ⟨by rw [List.length_set]; exact hE.len, fun j hj => by rw [List.getElem?_set_ne (by omega)]; exact hE.old j hj⟩ ?_ hl2
      rw [List.getElem?_set_self hl3, hts, List.filter_append]
      simp
theorem comp_two {f : EvF} {fs : List String} {g : EvF} {l : Loc} {H H1 : MH} {m : Nat} (xs : List (Int × Bool)) (e : Int → Int) (hf : f l H = some (.ref m, H1)) (hm : H1[m]? = some (.list (xs.map pr))) (hlen : xs.length ≤ 62)
    (hg : ∀ (p : Int) (b : Bool) (lx : Loc) (Hx : MH), (∀ y, y ≠ "place" → y ≠ "is_break" → lx.lookup y = (capt fs l).lookup y) → g (setKV "is_break" (.bool b) (setKV "place" (.int p) lx)) Hx = some (.int (e p), Hx)) :
    ∃ H', eComp f fs (aTwo "place" "is_break") (eT (eN "is_break")) g FU l H = some (.ref H1.length, H') ∧ Ex' H1 H' ∧ H'[H1.length]? = some (.list ((xs.filter (fun p => p.2)).map fun p => .int (e p.1))) := by
  obtain ⟨l', H', q1, q2, q3⟩ := comp_two_loop xs e hm hlen hg xs.length 0 FU (capt fs l) (H1 ++ [.list []]) rfl (Nat.zero_le _) (by unfold FU; omega) (Ex'.app _ _) (by simp) (fun _ _ _ => rfl)
  refine ⟨H', ?_, q2, q3⟩
  unfold eComp
  rw [hf, Option.bind_some]
  dsimp only
  rw [if_pos (iterOk_list hm), q1]
  rfl
/-! bounds -/
theorem tl_len (ks : List String) (m : Nat) : (tl ks m).length = m := by unfold tl; rw [List.length_map, List.length_range]
theorem Told.len {ks : List String} {m : Nat} {s : SS} {held : Int} {told : List (Int × Bool)} (X : Told ks m s held told) : told.length ≤ m := by
  by_cases h : 0 ≤ held
  · obtain ⟨w1, w2, _⟩ := X.wait h
    rw [w1, tl_len]; omega
  · rw [(X.free (by omega)).2, tl_len]; exact Nat.le_refl _
theorem Told.heldOk {ks : List String} {m : Nat} {s : SS} {held : Int} {told : List (Int × Bool)} (X : Told ks m s held told) : -1 ≤ held ∧ held ≤ s.at_ := by
  have hn := X.n
  by_cases h : 0 ≤ held
  · obtain ⟨w1, w2, _⟩ := X.wait h
    omega
  · have := (X.free (by omega)).1
    omega
noncomputable def dueP (ks : List String) : List Nat := (List.range (ks.length + 1)).filter (B ks)
theorem due_tl (ks : List String) : ((if 0 < ks.length then tl ks (ks.length + 1) else []).filter (fun p => p.2)).map (fun p => MV.int p.1) = (dueP ks).map fun (i : Nat) => MV.int (i : Int) := by
  unfold dueP
  by_cases h : 0 < ks.length
  · rw [if_pos h]
    unfold tl
    rw [List.filter_map, List.map_map]
    rfl
  · rw [if_neg h]
    have : ks = [] := List.eq_nil_of_length_eq_zero (by omega)
    subst this
    rfl
end Nt
end
section
open PySem PySem.SeqAt
namespace Nt
theorem for_run {f : EvF} {a : AsF} {g : ExF} {k : Nat} {l : Loc} {H H1 : MH} {src : MV} {r : Option (Fl × Loc × MH)} (hf : f l H = some (src, H1)) (hok : iterOk src H1 = true) (e : forF src a g k 0 l H1 = r) : xFor f a g k l H = r := by
  unfold xFor
  rw [hf, Option.bind_some]
  dsimp only
  rw [if_pos hok]
  exact e
/-- a stream at work, and the list it has filled -/
structure Work (H0 : MH) (ks : List String) (data : MV) (i : Nat) (tr : Nat) (H : MH) (s : SS) (held : Int) (told : List (Int × Bool)) : Prop where
  st : StreamAt H (H0.length + 1) H0.length data s held
  list : H[tr]? = some (.list (told.map pr))
  is : Told ks i s held told
  ex : Ex' H0 H
set_option maxHeartbeats 2000000 in
theorem E_places {t : Nat} {cs : List Int} {data : MV} {ks : List String} {N : Nat} {H : MH} (F : Fix t cs data ks N H) : ∃ r H', F_sentence_places [.ref t, data] H = some (.ref r, H') ∧ H'[r]? = some (.list ((dueP ks).map fun (i : Nat) => MV.int (i : Int))) ∧ Ex' H H' := by
  have hz : (["text", "data"].zip [MV.ref t, data]).reverse = [("data", data), ("text", MV.ref t)] := rfl
  generalize hL0 : ([("data", data), ("text", MV.ref t)] : Loc) = L0 at hz
  have d0 : L0.lookup "data" = some data := by rw [← hL0]; simp [List.lookup_cons]
  have t0 : L0.lookup "text" = some (.ref t) := by rw [← hL0]; simp [List.lookup_cons]
  generalize hL1 : setKV "stream" (.ref (H.length + 1)) L0 = L1
  generalize hL2 : setKV "told" (.ref (H.length + 2)) L1 = L2
  have q1 : xAssign (eCall (newF 127 F_SentenceStream___init__) (lCons (eN "data") lNil)) (aN "stream") L0 H = some (.next, L1, H ++ [MO.attrs (attrsOf data SS.init (-1)), MO.inst 127 H.length]) := by
    refine x_asg (call_run (lcons_run (v := data) (H1 := H) (n_run d0) rfl) (E_new F.isd)) ?_
    rw [← hL1]; rfl
  have E1 := Ex'.app H [MO.attrs (attrsOf data SS.init (-1)), MO.inst 127 H.length]
  have X1 := StreamAt.new (H := H) F.isd
  have hlen1 : (H ++ [MO.attrs (attrsOf data SS.init (-1)), MO.inst 127 H.length]).length = H.length + 2 := by simp
  generalize hH1 : H ++ [MO.attrs (attrsOf data SS.init (-1)), MO.inst 127 H.length] = H1 at q1 E1 X1 hlen1
  have q2 : xAssign (eLst lNil) (aN "told") L1 H1 = some (.next, L2, H1 ++ [MO.list []]) := by
    refine x_asg (v := .ref H1.length) (H1 := H1 ++ [MO.list []]) rfl ?_
    rw [← hL2, hlen1]; rfl
  have E2 := Ex'.app H1 [MO.list []]
  have X2 := X1.ex E2
  have hf2 : (H1 ++ [MO.list []])[H.length + 2]? = some (.list (([] : List (Int × Bool)).map pr)) := by rw [← hlen1]; simp
  generalize hH2 : H1 ++ [MO.list []] = H2 at q2 E2 X2 hf2
  have t2 : L2.lookup "text" = some (.ref t) := by rw [← hL2, ← hL1]; first | exact lkn (by decide) t0 | exact lkn (by decide) (lkn (by decide) t0) | simp [lookup_setKV, t0]
  have s2 : L2.lookup "stream" = some (.ref (H.length + 1)) := by rw [← hL2, ← hL1]; first | exact lke | exact lkn (by decide) lke | simp [lookup_setKV]
  have o2 : L2.lookup "told" = some (.ref (H.length + 2)) := by rw [← hL2]; first | exact lke | exact lkn (by decide) lke | simp [lookup_setKV]
  have E12 := E1.trans E2
  have F2 := F.ex E12
  have hkl := F.len
  have hsm := F.small
  obtain ⟨L3, H3, q3, ⟨z1, z2, s3, held3, told3, W3⟩⟩ := for_list (src := .ref t) (a := aN "code") (g := xCons (xExpr (eMethL extendF (eN "told") (lCons (eMeth 127 "put" F_SentenceStream_put (eN "stream") (lCons (eN "code") lNil)) lNil))) xNil) (cs.map MV.int)
    (fun i l Hx => l.lookup "stream" = some (.ref (H.length + 1)) ∧ l.lookup "told" = some (.ref (H.length + 2)) ∧ ∃ s held told, Work H ks data i (H.length + 2) Hx s held told)
    (fun i l Hx ⟨_, _, s, held, told, W⟩ => iter_list F.ht W.ex i)
    (fun i v l Hx hv ⟨c1, c2, s, held, told, W⟩ => by
      rw [List.getElem?_map] at hv
      obtain ⟨cd, hcd, rfl⟩ := Option.map_eq_some_iff.mp hv
      have hi : i < ks.length := by rw [← hkl]; exact (List.getElem?_eq_some_iff.mp hcd).1
      have hki : ks[i]? = some ks[i] := by simp
      have Fx := F.ex W.ex
      obtain ⟨g1, g2⟩ := Fx.get Hx (fun _ _ => rfl)
      obtain ⟨b1, b2⟩ := W.is.heldOk
      have hat := W.is.n
      obtain ⟨f, H5, p1, p2, p3, p4, p5⟩ := E_put W.st (by omega) b1 b2 (g1 i cd _ hcd hki) g2
      have T' := W.is.put hki
      have hl' := T'.len
      rw [List.length_append] at hl'
      generalize hl1 : setKV "code" (.int cd) l = l1
      have k1 : l1.lookup "stream" = some (.ref (H.length + 1)) := by rw [← hl1]; first | exact lkn (by decide) c1 | exact lkn (by decide) (lkn (by decide) c1) | simp [lookup_setKV, c1]
      have k2 : l1.lookup "told" = some (.ref (H.length + 2)) := by rw [← hl1]; first | exact lkn (by decide) c2 | exact lkn (by decide) (lkn (by decide) c2) | simp [lookup_setKV, c2]
      have k3 : l1.lookup "code" = some (.int cd) := by rw [← hl1]; first | exact lke | exact lkn (by decide) lke | simp [lookup_setKV]
      have hto := p5.get W.list (by omega)
      have hto' := (List.getElem?_eq_some_iff.mp hto).1
      refine ⟨l1, Hx, l1, H5.set (H.length + 2) (.list (told.map pr ++ ((putP s held ks[i]).1.map pr))), by rw [← hl1]; rfl, ?_, k1, k2, _, _, told ++ (putP s held ks[i]).1, ?_, ?_, T', ?_⟩
      · refine x_next (x_exp (methL_run (g := extendF) (n_run k2) W.list (lcons_run (methI_run (o := .ref (H.length + 1)) (H := Hx) (H1 := Hx) (H2 := Hx) (n_run k1) W.st.instD (by simp [attrsOf, List.lookup_cons]) (lcons_run (v := .int cd) (H1 := Hx) (n_run k3) rfl) p1) rfl) (extend_run hto p2 (by rw [List.length_map]; omega) (by rw [List.length_map]; omega)))) rfl
      · exact p3.setL hto _
      · rw [List.getElem?_set_self hto', List.map_append]
      · refine ⟨by rw [List.length_set]; exact Nat.le_trans W.ex.len p5.len, fun j hj => ?_⟩
        rw [List.getElem?_set_ne (by omega), p5.old j (Nat.lt_of_lt_of_le hj W.ex.len) (by omega), W.ex.old j hj])
    cs.length 0 FU L2 H2 (by simp) (Nat.zero_le _) (by unfold FU; omega) ⟨s2, o2, SS.init, -1, [], X2, hf2, Told.init ks, E12⟩
  rw [List.length_map, hkl] at W3
  have hat := W3.is.n
  obtain ⟨b1, b2⟩ := W3.is.heldOk
  obtain ⟨H4, p1, p2, p3⟩ := E_finish W3.st (by omega) b1 b2
  have hfin := W3.is.fin
  have hto := p3.get W3.list (by omega)
  have hto' := (List.getElem?_eq_some_iff.mp hto).1
  have hl3 := W3.is.len
  have hlf : (finP s3 held3).length ≤ 62 := by
    unfold finP
    rw [List.length_append]
    have := settledP_len held3 s3.at_ true b1
    split <;> simp <;> omega
  have q4 : xExpr (eMethL extendF (eN "told") (lCons (eMeth 127 "finish" F_SentenceStream_finish (eN "stream") lNil) lNil)) L3 H3 = some (.next, L3, H4.set (H.length + 2) (.list (told3.map pr ++ (finP s3 held3).map pr))) := by
    refine x_exp (methL_run (g := extendF) (n_run z2) W3.list (lcons_run (methI_run (o := .ref (H.length + 1)) (H := H3) (H1 := H3) (H2 := H3) (n_run z1) W3.st.instD (by simp [attrsOf, List.lookup_cons]) rfl p1) rfl) (extend_run hto p2 (by rw [List.length_map]; omega) (by rw [List.length_map]; omega)))
  rw [← List.map_append, hfin] at q4
  generalize hR : (if 0 < ks.length then tl ks (ks.length + 1) else []) = R at q4
  have hRl : R.length ≤ 61 := by
    rw [← hR]; split
    · rw [tl_len]; omega
    · simp
  have hm5 : (H4.set (H.length + 2) (MO.list (R.map pr)))[H.length + 2]? = some (.list (R.map pr)) := List.getElem?_set_self hto'
  have E5 : Ex' H (H4.set (H.length + 2) (MO.list (R.map pr))) := by
    refine ⟨by rw [List.length_set]; exact Nat.le_trans W3.ex.len p3.len, fun j hj => ?_⟩
    rw [List.getElem?_set_ne (by omega), p3.old j (Nat.lt_of_lt_of_le hj W3.ex.len) (by omega), W3.ex.old j hj]
  generalize H4.set (H.length + 2) (MO.list (R.map pr)) = H5 at q4 hm5 E5
  obtain ⟨H6, r1, r2, r3⟩ := comp_two (f := eN "told") (fs := []) (g := eN "place") (l := L3) (H := H5) R id (n_run z2) hm5 (by omega) (fun p b lx Hx _ => by first | exact n_run lke | exact n_run (lkn (by decide) lke) | simp [eN, lookup_setKV])
  refine ⟨H5.length, H6, ?_, ?_, E5.trans r2⟩
  · unfold F_sentence_places
    refine fn_ret rfl ⟨L3, ?_⟩
    rw [hz]
    exact x_next q1 (x_next q2 (x_next (for_run (n_run t2) (iterOk_list F2.ht) q3) (x_next q4 (x_ret (x_retv r1)))))
  · rw [r3, ← due_tl, hR]
    rfl
end Nt
end
section
open PySem PySem.SeqAt
namespace Nt
theorem sub_run {f g : EvF} {l : Loc} {H H1 H2 : MH} {a b v : MV} (h1 : f l H = some (a, H1)) (h2 : g l H1 = some (b, H2)) (h3 : itemF a b H2 = some v) : eSub f g l H = some (v, H2) := by
  unfold eSub
  rw [h1, Option.bind_some]
  dsimp only
  rw [h2, Option.bind_some]
  dsimp only
  rw [h3]
  rfl
theorem add_int (a b : Int) (H : MH) : addF (.int a) (.int b) H = some (.int (a + b), H) := rfl
theorem filter_all {α : Type} (xs : List α) : xs.filter (fun _ => true) = xs := List.filter_eq_self.mpr fun _ _ => rfl
noncomputable def pairsP (ds : List Nat) : List MV := (ds.zip ds.tail).map fun p => MV.tup [.int (p.1 : Int), .int (p.2 : Int)]
theorem due_len (ks : List String) : (dueP ks).length ≤ ks.length + 1 := by
  unfold dueP
  have := List.length_filter_le (B ks) (List.range (ks.length + 1))
  rw [List.length_range] at this
  exact this
theorem pairs_eq (ds : List Nat) : (rngItems 0 (ds.length - 1)).map (fun v => match v with
    | .int k => MV.tup [((ds.map fun (i : Nat) => MV.int (i : Int))[k.toNat]?).getD .none, ((ds.map fun (i : Nat) => MV.int (i : Int))[k.toNat + 1]?).getD .none]
    | v => v) = pairsP ds := by
  unfold rngItems pairsP
  rw [List.map_map]
  apply List.ext_getElem
  · simp
  · intro i h1 h2
    rw [List.length_map, List.length_range] at h1
    have a1 : i < ds.length := by omega
    have a2 : i + 1 < ds.length := by omega
    simp [a1, a2]
set_option maxHeartbeats 2000000 in
theorem E_sentences {t : Nat} {cs : List Int} {data : MV} {ks : List String} {N : Nat} {H : MH} (F : Fix t cs data ks N H) : ∃ r H', F_sentences [.ref t, data] H = some (.ref r, H') ∧ H'[r]? = some (.list (pairsP (dueP ks))) ∧ Ex' H H' := by
  have hz : (["text", "data"].zip [MV.ref t, data]).reverse = [("data", data), ("text", MV.ref t)] := rfl
  generalize hL0 : ([("data", data), ("text", MV.ref t)] : Loc) = L0 at hz
  have d0 : L0.lookup "data" = some data := by rw [← hL0]; simp [List.lookup_cons]
  have t0 : L0.lookup "text" = some (.ref t) := by rw [← hL0]; simp [List.lookup_cons]
  obtain ⟨r, H1, p1, p2, p3⟩ := E_places F
  generalize hL1 : setKV "places" (.ref r) L0 = L1
  have l1 : L1.lookup "places" = some (.ref r) := by rw [← hL1]; first | exact lke | exact lkn (by decide) lke | simp [lookup_setKV]
  have hsm := F.small
  have hdl := due_len ks
  have q1 : xAssign (eCall F_sentence_places (lCons (eN "text") (lCons (eN "data") lNil))) (aN "places") L0 H = some (.next, L1, H1) := by
    refine x_asg (call_run (lcons_run (v := .ref t) (H1 := H) (n_run t0) (lcons_run (v := data) (H1 := H) (n_run d0) rfl)) p1) ?_
    rw [← hL1]; rfl
  have hrng : eCall rangeF (lCons (eBin subF (eCall lenF (lCons (eN "places") lNil)) (eC (.int 1))) lNil) L1 H1 = some (.rng 0 (((dueP ks).length : Int) - 1), H1) := by
    refine call_run (lcons_run (v := .int (((dueP ks).length : Int) - 1)) (H1 := H1) (bin_run (call_run (lcons_run (n_run l1) rfl) (lenF_list p2 (by rw [List.length_map]; omega))) rfl ?_) rfl) rfl
    rw [sub_int, List.length_map]
  have hitm : ((((dueP ks).length : Int) - 1) - 0).toNat = (dueP ks).length - 1 := by omega
  obtain ⟨H2, r1, r2, r3⟩ := comp_run (fs := ["places"]) (x := "k") (t := tTrue) (g := eTup (lCons (eSub (eN "places") (eN "k")) (lCons (eSub (eN "places") (eBin addF (eN "k") (eC (.int 1)))) lNil))) (items := rngItems 0 ((dueP ks).length - 1)) (fun _ => true) (fun v => match v with
    | .int k => MV.tup [(((dueP ks).map fun (i : Nat) => MV.int (i : Int))[k.toNat]?).getD .none, (((dueP ks).map fun (i : Nat) => MV.int (i : Int))[k.toNat + 1]?).getD .none]
    | v => v) hrng (iterOk_rng (by omega) (by omega) (by omega) (by omega)) (by unfold rngItems; rw [List.length_map, List.length_range]; omega)
    (fun Hx i _ => by rw [iter_rng, hitm])
    (fun i v Hx lx _ _ _ => ⟨Hx, rfl, Ex'.refl Hx⟩)
    (fun i v Hx lx hv _ hE hlx => by
      unfold rngItems at hv
      rw [List.getElem?_map] at hv
      obtain ⟨j, hj, rfl⟩ := Option.map_eq_some_iff.mp hv
      have hjl : j < (dueP ks).length - 1 := by
        have := List.mem_of_getElem? hj
        exact List.mem_range.mp this
      have e0 : (0 + (j : Int)) = (j : Int) := by omega
      rw [e0]
      have g1 : (setKV "k" (MV.int (j : Int)) lx).lookup "places" = some (.ref r) := by
        rw [lookup_setKV, if_neg (by decide), hlx _ (by decide), capt_lookup]
        exact l1
      have g2 : (setKV "k" (MV.int (j : Int)) lx).lookup "k" = some (.int (j : Int)) := by first | exact lke | exact lkn (by decide) lke | simp [lookup_setKV]
      have hx := hE.get p2
      refine ⟨Hx, tup_run (lcons_run (sub_run (n_run g1) (n_run g2) ?_) (lcons_run (sub_run (b := .int ((j + 1 : Nat) : Int)) (n_run g1) (bin_run (n_run g2) rfl (by rw [add_int]; congr 3)) ?_) rfl)) (by simp), Ex'.refl Hx⟩
      · rw [item_ref hx j (by omega)]
        have a1 : j < (dueP ks).length := by omega
        simp [a1]
      · rw [item_ref hx (j + 1) (by omega)]
        have a1 : j + 1 < (dueP ks).length := by omega
        simp [a1])
  refine ⟨H1.length, H2, ?_, ?_, p3.trans r2⟩
  · unfold F_sentences
    refine fn_ret rfl ⟨L1, ?_⟩
    rw [hz]
    exact x_next q1 (x_ret (x_retv r1))
  · rw [r3, filter_all, pairs_eq]
end Nt
end
section
open PySem PySem.SeqAt
namespace Nt
theorem eqv_ints : ∀ (xs ys : List Int), PyData.eqvAll (xs.map PyData.int) (ys.map PyData.int) = (xs == ys) := by
  intro xs
  induction xs with
  | nil => intro ys; cases ys <;> simp [PyData.eqvAll]
  | cons x xs ih =>
    intro ys
    cases ys with
    | nil => simp [PyData.eqvAll]
    | cons y ys => simp [PyData.eqvAll, ih, PyData.eqv]
theorem pyH_list {H : MH} {m : Nat} {items : List MV} {ps : List PyData} (h : H[m]? = some (.list items)) (e : mapO pyT items = some ps) : pyH H (.ref m) = some (.list ps) := by
  unfold pyH
  dsimp only
  rw [h]
  dsimp only
  rw [e]
  rfl
theorem ints_pyT (xs : List Int) : mapO pyT (xs.map MV.int) = some (xs.map PyData.int) := mapO_map (f := pyT) (g := MV.int) (h := PyData.int) (fun _ => rfl) xs
theorem eq_ints {H : MH} {m m' : Nat} {xs ys : List Int} (h1 : H[m]? = some (.list (xs.map .int))) (h2 : H[m']? = some (.list (ys.map .int))) : eqF (.ref m) (.ref m') H = some (xs == ys) := by
  unfold eqF
  rw [pyH_list h1 (ints_pyT xs), pyH_list h2 (ints_pyT ys), Option.bind_some, Option.map_some]
  have : PyData.eqv (.list (xs.map PyData.int)) (.list (ys.map PyData.int)) = PyData.eqvAll (xs.map PyData.int) (ys.map PyData.int) := by simp [PyData.eqv]
  rw [this, eqv_ints]
end Nt
end
section
open PySem PySem.SeqAt
namespace Nt
noncomputable def fromP (ks : List String) (a j : Nat) : List Nat := ((List.range j).filter fun i => B ks (a + i)).map (a + ·)
theorem from_tl {ks : List String} {a : Nat} (S : Safe ks a) {j : Nat} (hj : a + j ≤ ks.length + 1) : ((tl (ks.drop a) j).filter (fun p => p.2)).map (fun p => MV.int ((a : Int) + p.1)) = (fromP ks a j).map fun (i : Nat) => MV.int (i : Int) := by
  unfold tl fromP
  rw [List.filter_map, List.map_map, List.map_map]
  have : (List.range j).filter ((fun p : Int × Bool => p.2) ∘ fun (i : Nat) => ((i : Int), B (ks.drop a) i)) = (List.range j).filter fun i => B ks (a + i) := by
    apply List.filter_congr
    intro i hi
    have := List.mem_range.mp hi
    exact B_suffix ks a S i (by omega)
  rw [this]
  apply List.map_congr_left
  intro i _
  simp
theorem safe_B {ks : List String} {a : Nat} (S : Safe ks a) : B ks a = true := by
  have h := B_suffix ks a S 0 (by have := S.lt; omega)
  rw [Nat.add_zero] at h
  rw [← h]
  have hlt := S.lt
  unfold B
  rw [if_pos (.inl rfl), List.length_drop]
  exact decide_eq_true (by omega)
/-- the first break behind near: told from a -/
theorem from_next {ks : List String} {a j : Nat} {near : Int} (ha : (a : Int) ≤ near ∨ a = 0 ∧ near = -1) (hj : a + j ≤ ks.length + 1) (h : a + j = ks.length + 1 ∨ ∃ x, x ∈ fromP ks a j ∧ near + 1 ≤ (x : Int)) :
    (fromP ks a j).find? (fun (i : Nat) => decide (near < (i : Int))) = (dueP ks).find? (fun (i : Nat) => decide (near < (i : Int))) := by
  obtain ⟨d, hd⟩ : ∃ d, ks.length + 1 = a + (j + d) := ⟨ks.length + 1 - a - j, by omega⟩
  have e : dueP ks = (List.range a).filter (B ks) ++ (fromP ks a j ++ ((List.range d).map fun i => a + j + i).filter (B ks)) := by
    unfold dueP fromP
    rw [hd, List.range_add, List.filter_append, List.range_add, List.map_append, List.filter_append]
    congr 1
    congr 1
    · rw [List.filter_map]; rfl
    · rw [List.map_map]
      congr 1
      apply List.map_congr_left
      intro i _
      show a + (j + i) = a + j + i
      omega
  rw [e, List.find?_append, List.find?_append]
  have h1 : ((List.range a).filter (B ks)).find? (fun (i : Nat) => decide (near < (i : Int))) = none := by
    rw [List.find?_eq_none]
    intro x hx
    have := List.mem_range.mp (List.mem_filter.mp hx).1
    simp
    omega
  rw [h1, Option.none_or]
  rcases h with h | ⟨x, hx, hn⟩
  · have : d = 0 := by omega
    subst this
    simp
  · have : ((fromP ks a j).find? (fun (i : Nat) => decide (near < (i : Int)))).isSome = true := by
      rw [List.find?_isSome]
      exact ⟨x, hx, by simp; omega⟩
    obtain ⟨y, hy⟩ := Option.isSome_iff_exists.mp this
    rw [hy]; rfl
theorem from_prev {ks : List String} {a j : Nat} {at_ : Int} (S : Safe ks a) (ha : (a : Int) < at_) (h0 : 0 < j) (hj : a + j ≤ ks.length + 1) (h : a + j = ks.length + 1 ∨ ∃ x, x ∈ fromP ks a j ∧ at_ ≤ (x : Int)) :
    ((fromP ks a j).filter (fun (i : Nat) => decide ((i : Int) < at_))).getLast? = ((dueP ks).filter (fun (i : Nat) => decide ((i : Int) < at_))).getLast? ∧ ((fromP ks a j).filter (fun (i : Nat) => decide ((i : Int) < at_))) ≠ [] := by
  obtain ⟨d, hd⟩ : ∃ d, ks.length + 1 = a + (j + d) := ⟨ks.length + 1 - a - j, by omega⟩
  have e : dueP ks = (List.range a).filter (B ks) ++ (fromP ks a j ++ ((List.range d).map fun i => a + j + i).filter (B ks)) := by
    unfold dueP fromP
    rw [hd, List.range_add, List.filter_append, List.range_add, List.map_append, List.filter_append]
    congr 1
    congr 1
    · rw [List.filter_map]; rfl
    · rw [List.map_map]
      congr 1
      apply List.map_congr_left
      intro i _
      show a + (j + i) = a + j + i
      omega
  have h3 : (((List.range d).map fun i => a + j + i).filter (B ks)).filter (fun (i : Nat) => decide ((i : Int) < at_)) = [] := by
    rcases h with h | ⟨x, hx, hn⟩
    · have : d = 0 := by omega
      subst this
      rfl
    · rw [List.filter_eq_nil_iff]
      intro y hy
      obtain ⟨i, _, rfl⟩ := List.mem_map.mp (List.mem_filter.mp hy).1
      unfold fromP at hx
      obtain ⟨u, hu, rfl⟩ := List.mem_map.mp hx
      have := List.mem_range.mp (List.mem_filter.mp hu).1
      simp
      omega
  have hne : ((fromP ks a j).filter (fun (i : Nat) => decide ((i : Int) < at_))) ≠ [] := by
    intro q
    have := List.filter_eq_nil_iff.mp q a (by
      unfold fromP
      exact List.mem_map.mpr ⟨0, List.mem_filter.mpr ⟨List.mem_range.mpr h0, safe_B S⟩, rfl⟩)
    simp at this
    omega
  refine ⟨?_, hne⟩
  rw [e, List.filter_append, List.filter_append, h3, List.append_nil, List.getLast?_append]
  cases q : ((fromP ks a j).filter (fun (i : Nat) => decide ((i : Int) < at_))).getLast? with
  | none => exact absurd (List.getLast?_eq_none_iff.mp q) hne
  | some y => rfl
end Nt
end
section
open PySem PySem.SeqAt
namespace Nt
noncomputable def intsL (R : List Nat) : List MV := R.map fun (i : Nat) => MV.int (i : Int)
noncomputable def moreP (R : List Nat) (stop : Int) : Bool := match R.getLast? with
  | none => true
  | some x => decide ((x : Int) < stop)
noncomputable def moreT : TrF := tOr (tCmp eqF (eN "found") (eLst lNil)) (tOr (tCmp ltF (eSub (eN "found") (eNeg (eC (.int 1)))) (eN "stop")) tFalse)
theorem lt_int (a b : Int) (H : MH) : ltF (.int a) (.int b) H = some (decide (a < b)) := rfl
theorem intsL_map (R : List Nat) : intsL R = (R.map fun (i : Nat) => (i : Int)).map MV.int := by unfold intsL; rw [List.map_map]; rfl
theorem empty_run {l : Loc} {H : MH} {fr : Nat} {R : List Nat} (hf : l.lookup "found" = some (.ref fr)) (hm : H[fr]? = some (.list (intsL R))) : ∃ H', tCmp eqF (eN "found") (eLst lNil) l H = some (R.isEmpty, H') ∧ Ex' H H' := by
  have E := Ex'.app H [MO.list []]
  refine ⟨H ++ [MO.list []], tCmp_run (H1 := H) (n_run hf) (b := .ref H.length) (H2 := H ++ [MO.list []]) rfl ?_, E⟩
  have h1 := E.get hm
  rw [intsL_map] at h1
  rw [eq_ints (ys := []) h1 (by simp)]
  cases R <;> rfl
theorem more_run {l : Loc} {H : MH} {fr : Nat} {R : List Nat} {stop : Int} (hf : l.lookup "found" = some (.ref fr)) (hs : l.lookup "stop" = some (.int stop)) (hm : H[fr]? = some (.list (intsL R))) (hl : R.length ≤ 900) : ∃ H', moreT l H = some (moreP R stop, H') ∧ Ex' H H' := by
  obtain ⟨H', e, E⟩ := empty_run hf hm
  refine ⟨H', ?_, E⟩
  unfold moreT tOr
  rw [e, Option.bind_some]
  dsimp only
  unfold moreP
  cases q : R.getLast? with
  | none =>
    have : R = [] := List.getLast?_eq_none_iff.mp q
    subst this
    rfl
  | some x =>
    have hne : R ≠ [] := by rintro rfl; cases q
    have he : R.isEmpty = false := by cases R with | nil => exact absurd rfl hne | cons _ _ => rfl
    have hpos : 0 < R.length := List.length_pos_iff.mpr hne
    rw [he, if_neg (by decide)]
    have hx : itemF (.ref fr) (.int (-1)) H' = some (.int (x : Int)) := by
      rw [item_last (E.get hm) (by unfold intsL; rw [List.length_map]; exact hpos) (by unfold intsL; rw [List.length_map]; omega)]
      unfold intsL
      rw [List.length_map, List.getElem?_map, ← List.getLast?_eq_getElem?, q]
      rfl
    have t1 : tCmp ltF (eSub (eN "found") (eNeg (eC (.int 1)))) (eN "stop") l H' = some (decide ((x : Int) < stop), H') := tCmp_run (sub_run (n_run hf) (b := .int (-1)) rfl hx) (n_run hs) (lt_int _ _ _)
    rw [t1, Option.bind_some]
    dsimp only
    cases decide ((x : Int) < stop) <;> rfl
end Nt
end
section
open PySem PySem.SeqAt
namespace Nt
/-- what has been found of what was told -/
noncomputable def hits (a : Nat) (told : List (Int × Bool)) : List MV := (told.filter (fun p => p.2)).map fun p => MV.int ((a : Int) + p.1)
theorem hits_append (a : Nat) (x y : List (Int × Bool)) : hits a (x ++ y) = hits a x ++ hits a y := by unfold hits; rw [List.filter_append, List.map_append]
theorem hits_from {ks : List String} {a : Nat} (S : Safe ks a) {j : Nat} (hj : a + j ≤ ks.length + 1) : hits a (tl (ks.drop a) j) = intsL (fromP ks a j) := from_tl S hj
theorem hits_len (a : Nat) (told : List (Int × Bool)) : (hits a told).length ≤ told.length := by unfold hits; rw [List.length_map]; exact List.length_filter_le _ _
theorem Told.tl {ks : List String} {m : Nat} {s : SS} {held : Int} {told : List (Int × Bool)} (X : Told ks m s held told) : ∃ j, j ≤ m ∧ told = Nt.tl ks j := by
  by_cases h : 0 ≤ held
  · obtain ⟨w1, w2, _⟩ := X.wait h
    exact ⟨held.toNat, by omega, w1⟩
  · exact ⟨m, Nat.le_refl _, (X.free (by omega)).2⟩
structure Seek (H0 : MH) (ks : List String) (data : MV) (a i fr : Nat) (H : MH) (s : SS) (held : Int) (told : List (Int × Bool)) : Prop where
  st : StreamAt H (H0.length + 1) H0.length data s held
  list : H[fr]? = some (.list (hits a told))
  is : Told (ks.drop a) i s held told
  ex : Ex' H0 H
structure SeekL (l : Loc) (H0 : MH) (t a : Nat) (stop : Int) (i fr : Nat) : Prop where
  text : l.lookup "text" = some (.ref t)
  start : l.lookup "start" = some (.int (a : Int))
  stop : l.lookup "stop" = some (.int stop)
  stream : l.lookup "stream" = some (.ref (H0.length + 1))
  found : l.lookup "found" = some (.ref fr)
  at_ : l.lookup "at" = some (.int ((a + i : Nat) : Int))
end Nt
end
section
open PySem PySem.SeqAt
namespace Nt
noncomputable def seekB : ExF := xCons (xExpr (eMethL extendF (eN "found") (lCons (eComp (eMeth 127 "put" F_SentenceStream_put (eN "stream") (lCons (eSub (eN "text") (eN "at")) lNil)) ["start"] (aTwo "place" "is_break") (eT (eN "is_break")) (eBin addF (eN "start") (eN "place")) FU) lNil))) (xCons (xAssign (eBin addF (eN "at") (eC (.int 1))) (aN "at")) xNil)
set_option maxHeartbeats 2000000 in
theorem seek_body {t : Nat} {cs : List Int} {data : MV} {ks : List String} {N a i fr : Nat} {H0 H : MH} {l : Loc} {stop : Int} {s : SS} {held : Int} {told : List (Int × Bool)} (F : Fix t cs data ks N H0) (hfr : H0.length + 2 ≤ fr) (X : SeekL l H0 t a stop i fr) (W : Seek H0 ks data a i fr H s held told) (hi : a + i < ks.length) :
    ∃ l' H' s' held' told', seekB l H = some (.next, l', H') ∧ SeekL l' H0 t a stop (i + 1) fr ∧ Seek H0 ks data a (i + 1) fr H' s' held' told' := by
  have Fx := F.ex W.ex
  have hkl := F.len
  have hsm := F.small
  obtain ⟨g1, g2⟩ := Fx.get H (fun _ _ => rfl)
  obtain ⟨b1, b2⟩ := W.is.heldOk
  have hat := W.is.n
  have hki : ks[a + i]? = some ks[a + i] := by simp
  have hkd : (ks.drop a)[i]? = some ks[a + i] := by rw [List.getElem?_drop, hki]
  have hci : cs[a + i]? = some cs[a + i] := by simp
  obtain ⟨f, H5, p1, p2, p3, p4, p5⟩ := E_put W.st (by omega) b1 b2 (g1 (a + i) _ _ hci hki) g2
  have T' := W.is.put hkd
  have hl' := T'.len
  rw [List.length_append] at hl'
  have hto := p5.get W.list (by omega)
  have hsub : eSub (eN "text") (eN "at") l H = some (.int cs[a + i], H) := sub_run (n_run X.text) (n_run X.at_) (by rw [item_ref Fx.ht _ (by omega), List.getElem?_map, hci]; rfl)
  have hput : eMeth 127 "put" F_SentenceStream_put (eN "stream") (lCons (eSub (eN "text") (eN "at")) lNil) l H = some (.ref f, H5) :=
    methI_run (o := .ref (H0.length + 1)) (H := H) (H1 := H) (H2 := H) (n_run X.stream) W.st.instD (by simp [attrsOf, List.lookup_cons]) (lcons_run hsub rfl) p1
  obtain ⟨H6, r1, r2, r3⟩ := comp_two (fs := ["start"]) (g := eBin addF (eN "start") (eN "place")) (putP s held ks[a + i]).1 (fun p => (a : Int) + p) hput p2 (by omega) (fun p b lx Hx hlx => by
    have c1 : (setKV "is_break" (MV.bool b) (setKV "place" (MV.int p) lx)).lookup "start" = some (.int (a : Int)) := by
      rw [lookup_setKV, if_neg (by decide), lookup_setKV, if_neg (by decide), hlx _ (by decide) (by decide), capt_lookup]
      exact X.start
    have c2 : (setKV "is_break" (MV.bool b) (setKV "place" (MV.int p) lx)).lookup "place" = some (.int p) := by first | exact lke | exact lkn (by decide) lke | simp [lookup_setKV]
    exact bin_run (n_run c1) (n_run c2) (add_int _ _ _))
  have hto6 := r2.get hto
  have hto6' := (List.getElem?_eq_some_iff.mp hto6).1
  have hl1 := hits_len a told
  have hl2 := hits_len a (putP s held ks[a + i]).1
  have q1 : xExpr (eMethL extendF (eN "found") (lCons (eComp (eMeth 127 "put" F_SentenceStream_put (eN "stream") (lCons (eSub (eN "text") (eN "at")) lNil)) ["start"] (aTwo "place" "is_break") (eT (eN "is_break")) (eBin addF (eN "start") (eN "place")) FU) lNil)) l H = some (.next, l, H6.set fr (.list (hits a told ++ hits a (putP s held ks[a + i]).1))) :=
    x_exp (methL_run (g := extendF) (n_run X.found) W.list (lcons_run r1 rfl) (extend_run hto6 r3 (by omega) (by omega)))
  refine ⟨setKV "at" (.int (((a + i : Nat) : Int) + 1)) l, _, (putP s held ks[a + i]).2.1, (putP s held ks[a + i]).2.2, told ++ (putP s held ks[a + i]).1, x_next q1 (x_next (x_asg (bin_run (n_run X.at_) rfl (add_int _ _ _)) rfl) rfl), ?_, ?_⟩
  · refine ⟨?_, ?_, ?_, ?_, ?_, ?_⟩
    · exact lkn (by decide) X.text
    · exact lkn (by decide) X.start
    · exact lkn (by decide) X.stop
    · exact lkn (by decide) X.stream
    · exact lkn (by decide) X.found
    · rw [lookup_setKV, if_pos rfl]
      congr 2
  · refine ⟨(p3.ex r2).setL hto6 _, ?_, T', ?_⟩
    · rw [List.getElem?_set_self hto6', hits_append]
    · refine ⟨by rw [List.length_set]; exact Nat.le_trans W.ex.len (Nat.le_trans p5.len r2.len), fun j hj => ?_⟩
      rw [List.getElem?_set_ne (by omega), r2.old j (Nat.lt_of_lt_of_le hj (Nat.le_trans W.ex.len p5.len)), p5.old j (Nat.lt_of_lt_of_le hj W.ex.len) (by omega), W.ex.old j hj]
end Nt
end
section
open PySem PySem.SeqAt
namespace Nt
noncomputable def Good (ks : List String) (a : Nat) : Prop := Safe ks a ∨ (ks = [] ∧ a = 0)
theorem Good.le {ks : List String} {a : Nat} (G : Good ks a) : a ≤ ks.length := by
  rcases G with S | ⟨rfl, rfl⟩
  · exact Nat.le_of_lt S.lt
  · exact Nat.le_refl _
theorem hits_good {ks : List String} {a : Nat} (G : Good ks a) {j : Nat} (hj : a + j ≤ ks.length + 1) : hits a (tl (ks.drop a) j) = intsL (fromP ks a j) := by
  rcases G with S | ⟨rfl, rfl⟩
  · exact hits_from S hj
  · have hj' : j ≤ 1 := by simpa using hj
    rcases Nat.lt_or_ge 0 j with q | q
    · obtain rfl : j = 1 := by omega
      rfl
    · obtain rfl : j = 0 := by omega
      rfl
theorem hits_fin {ks : List String} {a : Nat} (G : Good ks a) {s : SS} {held : Int} {told : List (Int × Bool)} (X : Told (ks.drop a) (ks.drop a).length s held told) : hits a (told ++ finP s held) = intsL (fromP ks a (ks.length - a + 1)) := by
  have hle := G.le
  rw [X.fin]
  by_cases h : 0 < (ks.drop a).length
  · rw [if_pos h, hits_good G (by rw [List.length_drop]; omega), List.length_drop]
  · rw [if_neg h]
    rcases G with S | ⟨rfl, rfl⟩
    · have := S.lt
      rw [List.length_drop] at h
      omega
    · rfl
theorem Seek.ext {H0 : MH} {ks : List String} {data : MV} {a i fr : Nat} {H H' : MH} {s : SS} {held : Int} {told : List (Int × Bool)} (W : Seek H0 ks data a i fr H s held told) (E : Ex' H H') : Seek H0 ks data a i fr H' s held told :=
  ⟨W.st.ex E, E.get W.list, W.is, W.ex.trans E⟩
theorem Seek.found {H0 : MH} {ks : List String} {data : MV} {a i fr : Nat} {H : MH} {s : SS} {held : Int} {told : List (Int × Bool)} (G : Good ks a) (W : Seek H0 ks data a i fr H s held told) (hi : a + i ≤ ks.length) :
    ∃ j, j ≤ i ∧ hits a told = intsL (fromP ks a j) := by
  obtain ⟨j, hj, e⟩ := W.is.tl
  exact ⟨j, hj, by rw [e, hits_good G (by omega)]⟩
theorem fromP_len (ks : List String) (a j : Nat) : (fromP ks a j).length ≤ j := by
  unfold fromP
  rw [List.length_map]
  have := List.length_filter_le (fun i => B ks (a + i)) (List.range j)
  rw [List.length_range] at this
  exact this
noncomputable def seekT : TrF := tAnd (tCmp ltF (eN "at") (eCall lenF (lCons (eN "text") lNil))) (tAnd moreT tTrue)
theorem more_and {l : Loc} {H : MH} {b : Bool} (h : ∃ H', moreT l H = some (b, H') ∧ Ex' H H') : ∃ H', tAnd moreT tTrue l H = some (b, H') ∧ Ex' H H' := by
  obtain ⟨H', e, E⟩ := h
  cases b with
  | true => exact ⟨H', and_go e rfl, E⟩
  | false => exact ⟨H', and_no e, E⟩
theorem seek_len {t : Nat} {cs : List Int} {data : MV} {ks : List String} {N a i fr : Nat} {H0 H : MH} {l : Loc} {stop : Int} {s : SS} {held : Int} {told : List (Int × Bool)} (F : Fix t cs data ks N H0) (X : SeekL l H0 t a stop i fr) (W : Seek H0 ks data a i fr H s held told) :
    eCall lenF (lCons (eN "text") lNil) l H = some (.int ks.length, H) :=
  call_run (lcons_run (n_run X.text) rfl) (E_len (F.ex W.ex).view)
theorem seek_test {t : Nat} {cs : List Int} {data : MV} {ks : List String} {N a i fr : Nat} {H0 H : MH} {l : Loc} {stop : Int} {s : SS} {held : Int} {told : List (Int × Bool)} (F : Fix t cs data ks N H0) (G : Good ks a) (X : SeekL l H0 t a stop i fr) (W : Seek H0 ks data a i fr H s held told) (hi : a + i ≤ ks.length) :
    ∃ j H', j ≤ i ∧ hits a told = intsL (fromP ks a j) ∧ tAnd moreT tTrue l H = some (moreP (fromP ks a j) stop, H') ∧ Ex' H H' := by
  obtain ⟨j, hj, e⟩ := W.found G hi
  have hl := W.list
  rw [e] at hl
  have hs := F.small
  have := fromP_len ks a j
  obtain ⟨H', e1, e2⟩ := more_and (more_run X.found X.stop hl (by omega))
  exact ⟨j, H', hj, e, e1, e2⟩
theorem seek_loop {t : Nat} {cs : List Int} {data : MV} {ks : List String} {N a fr : Nat} {H0 : MH} {stop : Int} (F : Fix t cs data ks N H0) (G : Good ks a) (hfr : H0.length + 2 ≤ fr) :
    ∀ (d i k : Nat) (l : Loc) (H : MH) (s : SS) (held : Int) (told : List (Int × Bool)), ks.length - (a + i) = d → a + i ≤ ks.length → d < k → SeekL l H0 t a stop i fr → Seek H0 ks data a i fr H s held told →
      ∃ l' H' i' s' held' told', whileF seekT seekB k l H = some (.next, l', H') ∧ SeekL l' H0 t a stop i' fr ∧ Seek H0 ks data a i' fr H' s' held' told' ∧ a + i' ≤ ks.length ∧ (a + i' = ks.length ∨ ∃ j, j ≤ i' ∧ hits a told' = intsL (fromP ks a j) ∧ moreP (fromP ks a j) stop = false) := by
  intro d
  induction d with
  | zero =>
    intro i k l H s held told hd hi hk X W
    obtain ⟨k, rfl⟩ : ∃ m, k = m + 1 := ⟨k - 1, by omega⟩
    have ht : seekT l H = some (false, H) := and_no (tCmp_run (n_run X.at_) (seek_len F X W) (by rw [lt_int]; congr 1; exact decide_eq_false (by omega)))
    exact ⟨l, H, i, s, held, told, w_false ht, X, W, hi, .inl (by omega)⟩
  | succ d ih =>
    intro i k l H s held told hd hi hk X W
    obtain ⟨k, rfl⟩ : ∃ m, k = m + 1 := ⟨k - 1, by omega⟩
    obtain ⟨j, H', hj, e1, e2, e3⟩ := seek_test F G X W hi
    have ht : seekT l H = some (moreP (fromP ks a j) stop, H') := and_go (tCmp_run (n_run X.at_) (seek_len F X W) (by rw [lt_int]; congr 1; exact decide_eq_true (by omega))) e2
    have W' := W.ext e3
    cases c : moreP (fromP ks a j) stop with
    | false =>
      rw [c] at ht
      exact ⟨l, H', i, s, held, told, w_false ht, X, W', hi, .inr ⟨j, hj, e1, c⟩⟩
    | true =>
      rw [c] at ht
      obtain ⟨l2, H2, s2, held2, told2, q1, q2, q3⟩ := seek_body F hfr X W' (by omega)
      obtain ⟨l3, H3, i3, s3, held3, told3, r1, r2⟩ := ih (i + 1) k l2 H2 s2 held2 told2 (by omega) (by omega) (by omega) q2 q3
      exact ⟨l3, H3, i3, s3, held3, told3, by rw [w_true ht q1, r1], r2⟩
end Nt
end
section
open PySem PySem.SeqAt
namespace Nt
theorem more_last {R : List Nat} {stop : Int} (h : moreP R stop = false) : ∃ x, x ∈ R ∧ stop ≤ (x : Int) := by
  unfold moreP at h
  cases q : R.getLast? with
  | none => rw [q] at h; cases h
  | some x =>
    rw [q] at h
    exact ⟨x, List.mem_of_getLast? q, by have := of_decide_eq_false h; omega⟩
noncomputable def seekE : ExF := xCons (xIf (tAnd (tCmp eqF (eN "at") (eCall lenF (lCons (eN "text") lNil))) (tAnd moreT tTrue)) (xCons (xExpr (eMethL extendF (eN "found") (lCons (eComp (eMeth 127 "finish" F_SentenceStream_finish (eN "stream") lNil) ["start"] (aTwo "place" "is_break") (eT (eN "is_break")) (eBin addF (eN "start") (eN "place")) FU) lNil))) xNil) xNil) (xCons (xRet (eN "found")) xNil)
set_option maxHeartbeats 2000000 in
theorem seek_end {t : Nat} {cs : List Int} {data : MV} {ks : List String} {N a i fr : Nat} {H0 H : MH} {l : Loc} {stop : Int} {s : SS} {held : Int} {told : List (Int × Bool)} (F : Fix t cs data ks N H0) (G : Good ks a) (hfr : H0.length + 2 ≤ fr) (X : SeekL l H0 t a stop i fr) (W : Seek H0 ks data a i fr H s held told) (hi : a + i ≤ ks.length)
    (hx : a + i = ks.length ∨ ∃ j, j ≤ i ∧ hits a told = intsL (fromP ks a j) ∧ moreP (fromP ks a j) stop = false) :
    ∃ l' H' j, seekE l H = some (.ret (.ref fr), l', H') ∧ H'[fr]? = some (.list (intsL (fromP ks a j))) ∧ Ex' H0 H' ∧ a + j ≤ ks.length + 1 ∧ (a + j = ks.length + 1 ∨ ∃ x, x ∈ fromP ks a j ∧ stop ≤ (x : Int)) := by
  unfold seekE
  have hq : tCmp eqF (eN "at") (eCall lenF (lCons (eN "text") lNil)) l H = some (((a + i : Nat) : Int) == (ks.length : Int), H) := tCmp_run (n_run X.at_) (seek_len F X W) (eq_int _ _ _)
  by_cases c : a + i = ks.length
  · have hb : (((a + i : Nat) : Int) == (ks.length : Int)) = true := by rw [c]; simp
    rw [hb] at hq
    obtain ⟨j, H1, hj, e1, e2, e3⟩ := seek_test F G X W hi
    have ht := and_go hq e2
    have W' := W.ext e3
    cases d : moreP (fromP ks a j) stop with
    | false =>
      rw [d] at ht
      have hl := W'.list
      rw [e1] at hl
      exact ⟨l, H1, j, x_next (x_if ht (by rw [if_neg (by decide)]; rfl)) (x_ret (x_retv (n_run X.found))), hl, W'.ex, by omega, .inr (more_last d)⟩
    | true =>
      rw [d] at ht
      obtain ⟨b1, b2⟩ := W'.is.heldOk
      have hat := W'.is.n
      have hsm := F.small
      obtain ⟨H4, p1, p2, p3⟩ := E_finish W'.st (by omega) b1 b2
      have hto := p3.get W'.list (by have := W'.ex.len; omega)
      have hfl : (finP s held).length ≤ 62 := by
        unfold finP
        rw [List.length_append]
        have := settledP_len held s.at_ true b1
        split <;> simp <;> omega
      have hput : eMeth 127 "finish" F_SentenceStream_finish (eN "stream") lNil l H1 = some (.ref H1.length, H4) :=
        methI_run (o := .ref (H0.length + 1)) (H := H1) (H1 := H1) (H2 := H1) (n_run X.stream) W'.st.instD (by simp [attrsOf, List.lookup_cons]) rfl p1
      obtain ⟨H6, r1, r2, r3⟩ := comp_two (fs := ["start"]) (g := eBin addF (eN "start") (eN "place")) (finP s held) (fun p => (a : Int) + p) hput p2 (by omega) (fun p b lx Hx hlx => by
        have c1 : (setKV "is_break" (MV.bool b) (setKV "place" (MV.int p) lx)).lookup "start" = some (.int (a : Int)) := by
          rw [lookup_setKV, if_neg (by decide), lookup_setKV, if_neg (by decide), hlx _ (by decide) (by decide), capt_lookup]
          exact X.start
        have c2 : (setKV "is_break" (MV.bool b) (setKV "place" (MV.int p) lx)).lookup "place" = some (.int p) := by first | exact lke | exact lkn (by decide) lke | simp [lookup_setKV]
        exact bin_run (n_run c1) (n_run c2) (add_int _ _ _))
      have hto6 := r2.get hto
      have hto6' := (List.getElem?_eq_some_iff.mp hto6).1
      have hl1 := hits_len a told
      have hl2 := hits_len a (finP s held)
      have htl := W.is.len
      have q1 : xExpr (eMethL extendF (eN "found") (lCons (eComp (eMeth 127 "finish" F_SentenceStream_finish (eN "stream") lNil) ["start"] (aTwo "place" "is_break") (eT (eN "is_break")) (eBin addF (eN "start") (eN "place")) FU) lNil)) l H1 = some (.next, l, H6.set fr (.list (hits a told ++ hits a (finP s held)))) :=
        x_exp (methL_run (g := extendF) (n_run X.found) W'.list (lcons_run r1 rfl) (extend_run hto6 r3 (by omega) (by omega)))
      refine ⟨l, _, ks.length - a + 1, x_next (x_if ht (by rw [if_pos rfl]; exact x_next q1 rfl)) (x_ret (x_retv (n_run X.found))), ?_, ?_, by omega, .inl (by omega)⟩
      · rw [List.getElem?_set_self hto6', ← hits_append]
        have hil : i = (ks.drop a).length := by rw [List.length_drop]; omega
        have := W.is
        rw [hil] at this
        rw [hits_fin G this]
      · refine ⟨by rw [List.length_set]; exact Nat.le_trans W'.ex.len (Nat.le_trans p3.len r2.len), fun j hj => ?_⟩
        rw [List.getElem?_set_ne (by omega), r2.old j (Nat.lt_of_lt_of_le hj (Nat.le_trans W'.ex.len p3.len)), p3.old j (Nat.lt_of_lt_of_le hj W'.ex.len) (by omega), W'.ex.old j hj]
  · have hb : (((a + i : Nat) : Int) == (ks.length : Int)) = false := beq_eq_false_iff_ne.mpr (by omega)
    rw [hb] at hq
    rcases hx with hx | ⟨j, hj, e1, d⟩
    · exact absurd hx c
    · have hl := W.list
      rw [e1] at hl
      exact ⟨l, H, j, x_next (x_if (and_no hq) (by rw [if_neg (by decide)]; rfl)) (x_ret (x_retv (n_run X.found))), hl, W.ex, by omega, .inr (more_last d)⟩
set_option maxHeartbeats 2000000 in
theorem E_from {t : Nat} {cs : List Int} {data : MV} {ks : List String} {N : Nat} {H : MH} (F : Fix t cs data ks N H) {a : Nat} (G : Good ks a) (stop : Int) :
    ∃ r H' j, F_sentence_places_from [.ref t, .int (a : Int), .int stop, data] H = some (.ref r, H') ∧ H'[r]? = some (.list (intsL (fromP ks a j))) ∧ Ex' H H' ∧ a + j ≤ ks.length + 1 ∧ (a + j = ks.length + 1 ∨ ∃ x, x ∈ fromP ks a j ∧ stop ≤ (x : Int)) := by
  have hz : (["text", "start", "stop", "data"].zip [MV.ref t, .int (a : Int), .int stop, data]).reverse = [("data", data), ("stop", .int stop), ("start", .int (a : Int)), ("text", MV.ref t)] := rfl
  generalize hL0 : ([("data", data), ("stop", .int stop), ("start", .int (a : Int)), ("text", MV.ref t)] : Loc) = L0 at hz
  have d0 : L0.lookup "data" = some data := by rw [← hL0]; simp [List.lookup_cons]
  have t0 : L0.lookup "text" = some (.ref t) := by rw [← hL0]; simp [List.lookup_cons]
  have s0 : L0.lookup "start" = some (.int (a : Int)) := by rw [← hL0]; simp [List.lookup_cons]
  have p0 : L0.lookup "stop" = some (.int stop) := by rw [← hL0]; simp [List.lookup_cons]
  generalize hL1 : setKV "stream" (.ref (H.length + 1)) L0 = L1
  generalize hL2 : setKV "found" (.ref (H.length + 2)) L1 = L2
  generalize hL3 : setKV "at" (.int (a : Int)) L2 = L3
  have q1 : xAssign (eCall (newF 127 F_SentenceStream___init__) (lCons (eN "data") lNil)) (aN "stream") L0 H = some (.next, L1, H ++ [MO.attrs (attrsOf data SS.init (-1)), MO.inst 127 H.length]) := by
    refine x_asg (call_run (lcons_run (v := data) (H1 := H) (n_run d0) rfl) (E_new F.isd)) ?_
    rw [← hL1]; rfl
  have E1 := Ex'.app H [MO.attrs (attrsOf data SS.init (-1)), MO.inst 127 H.length]
  have X1 := StreamAt.new (H := H) F.isd
  have hlen1 : (H ++ [MO.attrs (attrsOf data SS.init (-1)), MO.inst 127 H.length]).length = H.length + 2 := by simp
  generalize hH1 : H ++ [MO.attrs (attrsOf data SS.init (-1)), MO.inst 127 H.length] = H1 at q1 E1 X1 hlen1
  have q2 : xAssign (eLst lNil) (aN "found") L1 H1 = some (.next, L2, H1 ++ [MO.list []]) := by
    refine x_asg (v := .ref H1.length) (H1 := H1 ++ [MO.list []]) rfl ?_
    rw [← hL2, hlen1]; rfl
  have E2 := Ex'.app H1 [MO.list []]
  have X2 := X1.ex E2
  have hf2 : (H1 ++ [MO.list []])[H.length + 2]? = some (.list (hits a [])) := by rw [← hlen1]; simp [hits]
  generalize hH2 : H1 ++ [MO.list []] = H2 at q2 E2 X2 hf2
  have q3 : xAssign (eN "start") (aN "at") L2 H2 = some (.next, L3, H2) := by
    refine x_asg (v := .int (a : Int)) (H1 := H2) (n_run (by rw [← hL2, ← hL1]; first | exact lkn (by decide) s0 | exact lkn (by decide) (lkn (by decide) s0) | simp [lookup_setKV, s0])) ?_
    rw [← hL3]; rfl
  have X3 : SeekL L3 H t a stop 0 (H.length + 2) := by
    refine ⟨?_, ?_, ?_, ?_, ?_, ?_⟩ <;> rw [← hL3] <;> simp only [lookup_setKV] <;> simp <;> rw [← hL2] <;> simp only [lookup_setKV] <;> simp <;> rw [← hL1] <;> simp only [lookup_setKV] <;> simp <;> assumption
  have hsm := F.small
  have W3 : Seek H ks data a 0 (H.length + 2) H2 SS.init (-1) [] := ⟨X2, hf2, Told.init _, E1.trans E2⟩
  obtain ⟨l4, H4, i4, s4, held4, told4, r1, r2, r3, r4, r5⟩ := seek_loop F G (Nat.le_refl _) (ks.length - a) 0 FU L3 H2 SS.init (-1) [] (by omega) (by have := G.le; omega) (by unfold FU; omega) X3 W3
  obtain ⟨l5, H5, j, u1, u2, u3, u4, u5⟩ := seek_end F G (Nat.le_refl _) r2 r3 r4 r5
  refine ⟨H.length + 2, H5, j, ?_, u2, u3, u4, u5⟩
  unfold F_sentence_places_from
  refine fn_ret rfl ⟨l5, ?_⟩
  rw [hz]
  exact x_next q1 (x_next q2 (x_next q3 (x_next r1 u1)))
end Nt
end
section
open PySem PySem.SeqAt
namespace Nt
noncomputable def optI : Option Nat → MV
  | none => .none
  | some x => .int (x : Int)
theorem intsL_len (R : List Nat) : (intsL R).length = R.length := by unfold intsL; rw [List.length_map]
theorem ne_empty {x : String} {l : Loc} {H : MH} {fr : Nat} {R : List Nat} (hf : l.lookup x = some (.ref fr)) (hm : H[fr]? = some (.list (intsL R))) : ∃ H', tCmp neF (eN x) (eLst lNil) l H = some (!R.isEmpty, H') ∧ Ex' H H' := by
  have E := Ex'.app H [MO.list []]
  refine ⟨H ++ [MO.list []], tCmp_run (H1 := H) (n_run hf) (b := .ref H.length) (H2 := H ++ [MO.list []]) rfl ?_, E⟩
  have h1 := E.get hm
  rw [intsL_map] at h1
  rw [ne_eq', eq_ints (ys := []) h1 (by simp)]
  cases R <;> rfl
theorem eif_run {t : TrF} {f g : EvF} {l : Loc} {H H1 : MH} {b : Bool} {r : Option (MV × MH)} (h : t l H = some (b, H1)) (e : (if b = true then f l H1 else g l H1) = r) : eIf t f g l H = r := by
  unfold eIf; rw [h]; exact e
theorem last_or {x : String} {l : Loc} {H : MH} {fr : Nat} {R : List Nat} (hf : l.lookup x = some (.ref fr)) (hm : H[fr]? = some (.list (intsL R))) (hl : R.length ≤ 900) :
    ∃ H', eIf (tCmp neF (eN x) (eLst lNil)) (eSub (eN x) (eNeg (eC (.int 1)))) (eC .none) l H = some (optI R.getLast?, H') ∧ Ex' H H' := by
  obtain ⟨H', e, E⟩ := ne_empty hf hm
  refine ⟨H', eif_run e ?_, E⟩
  cases q : R.getLast? with
  | none =>
    have : R = [] := List.getLast?_eq_none_iff.mp q
    subst this
    rfl
  | some y =>
    have hne : R ≠ [] := by rintro rfl; cases q
    have hpos : 0 < R.length := List.length_pos_iff.mpr hne
    have he : R.isEmpty = false := by cases R with | nil => exact absurd rfl hne | cons _ _ => rfl
    rw [he]
    show eSub _ _ l H' = _
    refine sub_run (b := .int (-1)) (n_run hf) rfl ?_
    rw [item_last (E.get hm) (by rw [intsL_len]; exact hpos) (by rw [intsL_len]; omega)]
    unfold intsL
    rw [List.length_map, List.getElem?_map, ← List.getLast?_eq_getElem?, q]
    rfl
theorem first_or {x : String} {l : Loc} {H : MH} {fr : Nat} {R : List Nat} (hf : l.lookup x = some (.ref fr)) (hm : H[fr]? = some (.list (intsL R))) (hl : R.length ≤ 900) :
    ∃ H', eIf (tCmp neF (eN x) (eLst lNil)) (eSub (eN x) (eC (.int 0))) (eC .none) l H = some (optI R.head?, H') ∧ Ex' H H' := by
  obtain ⟨H', e, E⟩ := ne_empty hf hm
  refine ⟨H', eif_run e ?_, E⟩
  cases R with
  | nil => rfl
  | cons y R =>
    show eSub _ _ l H' = _
    refine sub_run (b := .int 0) (n_run hf) rfl ?_
    exact item_ref (E.get hm) 0 (by omega)
theorem for_find {r : Nat} {R : List Nat} {H : MH} {near : Int} (hm : H[r]? = some (.list (intsL R))) :
    ∀ (d i k : Nat) (l : Loc), R.length - i = d → i ≤ R.length → d < k → l.lookup "near" = some (.int near) →
      ∃ l', l'.lookup "near" = some (.int near) ∧ forF (.ref r) (aN "place") (xCons (xIf (tCmp gtF (eN "place") (eN "near")) (xCons (xRet (eN "place")) xNil) xNil) xNil) k i l H = some (match (R.drop i).find? (fun (i : Nat) => decide (near < (i : Int))) with | none => Fl.next | some x => Fl.ret (.int (x : Int)), l', H) := by
  intro d
  induction d with
  | zero =>
    intro i k l hd hi hk hn
    obtain ⟨k, rfl⟩ : ∃ m, k = m + 1 := ⟨k - 1, by omega⟩
    refine ⟨l, hn, ?_⟩
    unfold forF
    rw [iter_list hm (Ex'.refl H), List.getElem?_eq_none (by rw [intsL_len]; omega), List.drop_of_length_le (by omega)]
    rfl
  | succ d ih =>
    intro i k l hd hi hk hn
    obtain ⟨k, rfl⟩ : ∃ m, k = m + 1 := ⟨k - 1, by omega⟩
    have q : R[i]? = some R[i] := by simp
    have q2 : (intsL R)[i]? = some (.int (R[i] : Int)) := by unfold intsL; rw [List.getElem?_map, q]; rfl
    have q3 : R.drop i = R[i] :: R.drop (i + 1) := by rw [List.drop_eq_getElem_cons]
    have n1 : (setKV "place" (.int (R[i] : Int)) l).lookup "near" = some (.int near) := by exact lkn (by decide) hn
    have p1 : (setKV "place" (.int (R[i] : Int)) l).lookup "place" = some (.int (R[i] : Int)) := by first | exact lke | exact lkn (by decide) lke | simp [lookup_setKV]
    have ht : tCmp gtF (eN "place") (eN "near") (setKV "place" (.int (R[i] : Int)) l) H = some (decide (near < (R[i] : Int)), H) := tCmp_run (n_run p1) (n_run n1) rfl
    unfold forF
    rw [iter_list hm (Ex'.refl H), q2, Option.bind_some]
    dsimp only [aN]
    rw [Option.bind_some]
    dsimp only
    rw [q3, List.find?_cons]
    cases c : decide (near < (R[i] : Int)) with
    | true =>
      rw [c] at ht
      refine ⟨_, n1, ?_⟩
      rw [x_ret (x_if ht (by rw [if_pos rfl]; exact x_ret (x_retv (n_run p1))))]
      rfl
    | false =>
      rw [c] at ht
      obtain ⟨l', a1, a2⟩ := ih (i + 1) k _ (by omega) (by omega) (by omega) n1
      refine ⟨l', a1, ?_⟩
      rw [x_next (x_if ht (by rw [if_neg (by decide)]; rfl)) rfl]
      exact a2
theorem find_none {ks : List String} {at_ : Int} (h : (ks.length : Int) ≤ at_) : (dueP ks).find? (fun (i : Nat) => decide (at_ < (i : Int))) = none := by
  rw [List.find?_eq_none]
  intro x hx
  have := List.mem_range.mp (List.mem_filter.mp hx).1
  simp
  omega
theorem good_safe {ks : List String} {near : Int} (h : near < ks.length) (h1 : -1 ≤ near) : Good ks (safeP ks near.toNat) ∧ ((safeP ks near.toNat : Int) ≤ near ∨ safeP ks near.toNat = 0 ∧ near = -1) := by
  by_cases c : 0 < ks.length
  · have := safe_spec ks near.toNat (by omega)
    refine ⟨.inl this.1, ?_⟩
    by_cases d : near = -1
    · right; subst d; exact ⟨rfl, rfl⟩
    · left; have := this.2; omega
  · have e : ks = [] := List.eq_nil_of_length_eq_zero (by omega)
    subst e
    have : near = -1 := by
      have : near < 0 := by simpa using h
      omega
    subst this
    exact ⟨.inr ⟨rfl, rfl⟩, .inr ⟨rfl, rfl⟩⟩
set_option maxHeartbeats 2000000 in
theorem E_next {t : Nat} {cs : List Int} {data : MV} {ks : List String} {N : Nat} {H : MH} (F : Fix t cs data ks N H) (at_ : Int) :
    ∃ H', F_sentence_next [.ref t, .int at_, data] H = some (optI ((dueP ks).find? (fun (i : Nat) => decide (at_ < (i : Int)))), H') ∧ Ex' H H' := by
  have hz : (["text", "at", "data"].zip [MV.ref t, .int at_, data]).reverse = [("data", data), ("at", .int at_), ("text", MV.ref t)] := rfl
  generalize hL0 : ([("data", data), ("at", .int at_), ("text", MV.ref t)] : Loc) = L0 at hz
  have d0 : L0.lookup "data" = some data := by rw [← hL0]; simp [List.lookup_cons]
  have t0 : L0.lookup "text" = some (.ref t) := by rw [← hL0]; simp [List.lookup_cons]
  have a0 : L0.lookup "at" = some (.int at_) := by rw [← hL0]; simp [List.lookup_cons]
  have V := F.view
  have hsm := F.small
  have hlen : eCall lenF (lCons (eN "text") lNil) L0 H = some (.int ks.length, H) := call_run (lcons_run (n_run t0) rfl) (E_len V)
  have hge : tCmp geF (eN "at") (eCall lenF (lCons (eN "text") lNil)) L0 H = some (decide ((ks.length : Int) ≤ at_), H) := tCmp_run (n_run a0) hlen rfl
  unfold F_sentence_next
  by_cases c : (ks.length : Int) ≤ at_
  · rw [decide_eq_true c] at hge
    rw [find_none c]
    refine ⟨H, fn_ret rfl ⟨L0, ?_⟩, Ex'.refl H⟩
    rw [hz]
    exact x_ret (x_if hge (by rw [if_pos rfl]; exact x_ret (x_retv rfl)))
  · rw [decide_eq_false c] at hge
    have q0 : xIf (tCmp geF (eN "at") (eCall lenF (lCons (eN "text") lNil))) (xCons (xRet (eC .none)) xNil) xNil L0 H = some (.next, L0, H) := x_if hge (by rw [if_neg (by decide)]; rfl)
    generalize hnear : (if (-1 : Int) > at_ then (-1 : Int) else at_) = near
    have hn1 : -1 ≤ near := by rw [← hnear]; split <;> omega
    have hn2 : near < ks.length := by rw [← hnear]; split <;> omega
    have hfd : (fun (i : Nat) => decide (at_ < (i : Int))) = fun (i : Nat) => decide (near < (i : Int)) := by
      funext i
      rw [← hnear]
      split
      · exact decide_eq_decide.mpr (by omega)
      · rfl
    rw [hfd]
    generalize hL1 : setKV "near" (.int near) L0 = L1
    have q1 : xAssign (eCall maxF (lCons (eN "at") (lCons (eNeg (eC (.int 1))) lNil))) (aN "near") L0 H = some (.next, L1, H) := by
      refine x_asg (call_run (lcons_run (n_run a0) (lcons_run (v := .int (-1)) (H1 := H) rfl rfl)) (r := some (.int near, H)) ?_) (by rw [← hL1]; rfl)
      rw [← hnear]; rfl
    have d1 : L1.lookup "data" = some data := by rw [← hL1]; first | exact lkn (by decide) d0 | exact lkn (by decide) (lkn (by decide) d0) | simp [lookup_setKV, d0]
    have t1 : L1.lookup "text" = some (.ref t) := by rw [← hL1]; first | exact lkn (by decide) t0 | exact lkn (by decide) (lkn (by decide) t0) | simp [lookup_setKV, t0]
    have n1 : L1.lookup "near" = some (.int near) := by rw [← hL1]; first | exact lke | exact lkn (by decide) lke | simp [lookup_setKV]
    obtain ⟨G, ha⟩ := good_safe hn2 hn1
    have es := E_safe V near (by omega)
    generalize safeP ks near.toNat = a at G ha es
    obtain ⟨r, H1, j, p1, p2, p3, p4, p5⟩ := E_from F G (near + 1)
    have q2 : eCall F_sentence_places_from (lCons (eN "text") (lCons (eCall F_sentence_safe (lCons (eN "text") (lCons (eN "near") (lCons (eN "data") lNil)))) (lCons (eBin addF (eN "near") (eC (.int 1))) (lCons (eN "data") lNil)))) L1 H = some (.ref r, H1) :=
      call_run (lcons_run (n_run t1) (lcons_run (call_run (lcons_run (n_run t1) (lcons_run (n_run n1) (lcons_run (n_run d1) rfl))) es) (lcons_run (bin_run (n_run n1) rfl (add_int _ _ _)) (lcons_run (n_run d1) rfl)))) p1
    have hfl := fromP_len ks a j
    obtain ⟨l', m1, m2⟩ := for_find (near := near) p2 (fromP ks a j).length 0 FU L1 (by omega) (Nat.zero_le _) (by unfold FU; omega) n1
    rw [List.drop_zero, from_next ha p4 p5] at m2
    have q3 := for_run q2 (iterOk_list p2) m2
    generalize (dueP ks).find? (fun (i : Nat) => decide (near < (i : Int))) = o at q3
    cases o with
    | none =>
      refine ⟨H1, fn_ret rfl ⟨l', ?_⟩, p3⟩
      rw [hz]
      exact x_next q0 (x_next q1 (x_next q3 (x_ret (x_retv rfl))))
    | some x =>
      refine ⟨H1, fn_ret rfl ⟨l', ?_⟩, p3⟩
      rw [hz]
      exact x_next q0 (x_next q1 (x_ret q3))
theorem due_last {ks : List String} (h : 0 < ks.length) : (dueP ks).getLast? = some ks.length := by
  have hB : B ks ks.length = true := by
    unfold B
    rw [if_pos (.inr rfl)]
    exact decide_eq_true h
  have e : dueP ks = (List.range ks.length).filter (B ks) ++ [ks.length] := by
    unfold dueP
    rw [List.range_succ, List.filter_append, List.filter_cons, hB]
    rfl
  rw [e, List.getLast?_append]
  rfl
theorem prev_none {ks : List String} {at_ : Int} (h : at_ ≤ 0 ∨ ks.length = 0) : (dueP ks).filter (fun (i : Nat) => decide ((i : Int) < at_)) = [] := by
  rw [List.filter_eq_nil_iff]
  intro x hx
  rcases h with h | h
  · simp; omega
  · have : ks = [] := List.eq_nil_of_length_eq_zero h
    subst this
    have : dueP [] = [] := rfl
    rw [this] at hx
    cases hx
theorem prev_all {ks : List String} {at_ : Int} (h : (ks.length : Int) < at_) : (dueP ks).filter (fun (i : Nat) => decide ((i : Int) < at_)) = dueP ks := by
  rw [List.filter_eq_self]
  intro x hx
  have := List.mem_range.mp (List.mem_filter.mp hx).1
  simp
  omega
/-- ints of a list, picked by a test -/
theorem pick_ints {f : EvF} {fs : List String} {F : CmpF} {l : Loc} {H H1 : MH} {r : Nat} {R : List Nat} {at_ : Int} {p : Int → Bool} (hF : ∀ x Hx, F (.int x) (.int at_) Hx = some (p x)) (hf : f l H = some (.ref r, H1)) (hm : H1[r]? = some (.list (intsL R))) (hl : R.length ≤ 60) (ha : (capt fs l).lookup "at" = some (.int at_)) :
    ∃ H', eComp f fs (aN "place") (tCmp F (eN "place") (eN "at")) (eN "place") FU l H = some (.ref H1.length, H') ∧ Ex' H1 H' ∧ H'[H1.length]? = some (.list (intsL (R.filter (fun (i : Nat) => p (i : Int))))) := by
  obtain ⟨H', e1, e2, e3⟩ := comp_run (fs := fs) (x := "place") (t := tCmp F (eN "place") (eN "at")) (g := eN "place") (items := intsL R) (fun v => match v with | .int i => p i | _ => false) id hf (iterOk_list hm) (by rw [intsL_len]; omega)
    (fun Hx i hE => iter_list hm hE i)
    (fun i v Hx lx hv _ hlx => by
      unfold intsL at hv
      rw [List.getElem?_map] at hv
      obtain ⟨y, _, rfl⟩ := Option.map_eq_some_iff.mp hv
      exact ⟨Hx, tCmp_run (n_run (by first | exact lke | exact lkn (by decide) lke | simp [lookup_setKV])) (n_run (by rw [lookup_setKV, if_neg (by decide), hlx _ (by decide)]; exact ha)) (hF _ _), Ex'.refl Hx⟩)
    (fun i v Hx lx hv _ _ hlx => ⟨Hx, n_run (by first | exact lke | exact lkn (by decide) lke | simp [lookup_setKV]), Ex'.refl Hx⟩)
  refine ⟨H', e1, e2, ?_⟩
  rw [e3, List.map_id]
  unfold intsL
  rw [List.filter_map]
  rfl
set_option maxHeartbeats 2000000 in
theorem E_prev {t : Nat} {cs : List Int} {data : MV} {ks : List String} {N : Nat} {H : MH} (F : Fix t cs data ks N H) (h50 : ks.length ≤ 50) (at_ : Int) :
    ∃ H', F_sentence_previous [.ref t, .int at_, data] H = some (optI ((dueP ks).filter (fun (i : Nat) => decide ((i : Int) < at_))).getLast?, H') ∧ Ex' H H' := by
  have hz : (["text", "at", "data"].zip [MV.ref t, .int at_, data]).reverse = [("data", data), ("at", .int at_), ("text", MV.ref t)] := rfl
  generalize hL0 : ([("data", data), ("at", .int at_), ("text", MV.ref t)] : Loc) = L0 at hz
  have d0 : L0.lookup "data" = some data := by rw [← hL0]; simp [List.lookup_cons]
  have t0 : L0.lookup "text" = some (.ref t) := by rw [← hL0]; simp [List.lookup_cons]
  have a0 : L0.lookup "at" = some (.int at_) := by rw [← hL0]; simp [List.lookup_cons]
  have V := F.view
  have hsm := F.small
  have hlen : eCall lenF (lCons (eN "text") lNil) L0 H = some (.int ks.length, H) := call_run (lcons_run (n_run t0) rfl) (E_len V)
  have h1 : tCmp leF (eN "at") (eC (.int 0)) L0 H = some (decide (at_ ≤ 0), H) := tCmp_run (n_run a0) rfl rfl
  have h2 : tCmp eqF (eCall lenF (lCons (eN "text") lNil)) (eC (.int 0)) L0 H = some ((ks.length : Int) == 0, H) := tCmp_run hlen rfl (eq_int _ _ _)
  have h3 : tCmp gtF (eN "at") (eCall lenF (lCons (eN "text") lNil)) L0 H = some (decide ((ks.length : Int) < at_), H) := tCmp_run (n_run a0) hlen rfl
  have h12 : tOr (tCmp leF (eN "at") (eC (.int 0))) (tOr (tCmp eqF (eCall lenF (lCons (eN "text") lNil)) (eC (.int 0))) tFalse) L0 H = some (decide (at_ ≤ 0) || ((ks.length : Int) == 0), H) := by
    simp only [tOr, h1, h2, Option.bind_some]
    cases decide (at_ ≤ 0) <;> cases ((ks.length : Int) == 0) <;> rfl
  unfold F_sentence_previous
  by_cases c : (decide (at_ ≤ 0) || ((ks.length : Int) == 0)) = true
  · rw [c] at h12
    have c' : at_ ≤ 0 ∨ ks.length = 0 := by simpa using c
    rw [prev_none c']
    refine ⟨H, fn_ret rfl ⟨L0, ?_⟩, Ex'.refl H⟩
    rw [hz]
    exact x_ret (x_if h12 (by rw [if_pos rfl]; exact x_ret (x_retv rfl)))
  · rw [Bool.not_eq_true] at c
    rw [c] at h12
    have c' : 0 < at_ ∧ 0 < ks.length := by
      rw [Bool.or_eq_false_iff] at c
      have c1 := of_decide_eq_false c.1
      have c2 := beq_eq_false_iff_ne.mp c.2
      omega
    have q0 : xIf (tOr (tCmp leF (eN "at") (eC (.int 0))) (tOr (tCmp eqF (eCall lenF (lCons (eN "text") lNil)) (eC (.int 0))) tFalse)) (xCons (xRet (eC .none)) xNil) xNil L0 H = some (.next, L0, H) := x_if h12 (by rw [if_neg (by decide)]; rfl)
    by_cases d : (ks.length : Int) < at_
    · rw [decide_eq_true d] at h3
      rw [prev_all d, due_last c'.2]
      refine ⟨H, fn_ret rfl ⟨L0, ?_⟩, Ex'.refl H⟩
      rw [hz]
      exact x_next q0 (x_ret (x_if h3 (by rw [if_pos rfl]; exact x_ret (x_retv hlen))))
    · rw [decide_eq_false d] at h3
      have q1 : xIf (tCmp gtF (eN "at") (eCall lenF (lCons (eN "text") lNil))) (xCons (xRet (eCall lenF (lCons (eN "text") lNil))) xNil) xNil L0 H = some (.next, L0, H) := x_if h3 (by rw [if_neg (by decide)]; rfl)
      have es := E_safe V (at_ - 1) (by omega)
      have sp := safe_spec ks (at_ - 1).toNat (by omega)
      generalize safeP ks (at_ - 1).toNat = a at es sp
      have hlt : (a : Int) < at_ := by have := sp.2; omega
      obtain ⟨r, H1, j, p1, p2, p3, p4, p5⟩ := E_from F (.inl sp.1) at_
      have hj : 0 < j := by
        rcases p5 with p5 | ⟨x, hx, _⟩
        · have := sp.1.lt; omega
        · rcases Nat.lt_or_ge 0 j with g | g
          · exact g
          · have : j = 0 := by omega
            subst this
            cases hx
      obtain ⟨g1, g2⟩ := from_prev sp.1 hlt hj p4 p5
      generalize hL1 : setKV "start" (.int (a : Int)) L0 = L1
      have d1 : L1.lookup "data" = some data := by rw [← hL1]; first | exact lkn (by decide) d0 | exact lkn (by decide) (lkn (by decide) d0) | simp [lookup_setKV, d0]
      have t1 : L1.lookup "text" = some (.ref t) := by rw [← hL1]; first | exact lkn (by decide) t0 | exact lkn (by decide) (lkn (by decide) t0) | simp [lookup_setKV, t0]
      have a1 : L1.lookup "at" = some (.int at_) := by rw [← hL1]; first | exact lkn (by decide) a0 | exact lkn (by decide) (lkn (by decide) a0) | simp [lookup_setKV, a0]
      have s1 : L1.lookup "start" = some (.int (a : Int)) := by rw [← hL1]; first | exact lke | exact lkn (by decide) lke | simp [lookup_setKV]
      have q2 : xAssign (eCall F_sentence_safe (lCons (eN "text") (lCons (eBin subF (eN "at") (eC (.int 1))) (lCons (eN "data") lNil)))) (aN "start") L0 H = some (.next, L1, H) :=
        x_asg (call_run (lcons_run (n_run t0) (lcons_run (bin_run (n_run a0) rfl (sub_int _ _ _)) (lcons_run (n_run d0) rfl))) es) (by rw [← hL1]; rfl)
      have q3 : eCall F_sentence_places_from (lCons (eN "text") (lCons (eN "start") (lCons (eN "at") (lCons (eN "data") lNil)))) L1 H = some (.ref r, H1) :=
        call_run (lcons_run (n_run t1) (lcons_run (n_run s1) (lcons_run (n_run a1) (lcons_run (n_run d1) rfl)))) p1
      have hfl := fromP_len ks a j
      have hfl2 := List.length_filter_le (fun (i : Nat) => decide ((i : Int) < at_)) (fromP ks a j)
      have hfl3 : (fromP ks a j).length ≤ 60 := by omega
      obtain ⟨H2, u1, u2, u3⟩ := pick_ints (fs := ["at"]) (F := ltF) (p := fun x => decide (x < at_)) (fun _ _ => rfl) q3 p2 hfl3 (by rw [capt_lookup]; exact a1)
      generalize hL2 : setKV "found" (.ref H1.length) L1 = L2
      have f2 : L2.lookup "found" = some (.ref H1.length) := by rw [← hL2]; first | exact lke | exact lkn (by decide) lke | simp [lookup_setKV]
      obtain ⟨H3, v1, v2⟩ := last_or f2 u3 (by omega)
      refine ⟨H3, fn_ret rfl ⟨L2, ?_⟩, p3.trans (u2.trans v2)⟩
      rw [hz, ← g1]
      exact x_next q0 (x_next q1 (x_next q2 (x_next (x_asg u1 (by rw [← hL2]; rfl)) (x_ret (x_retv v1)))))
end Nt
end
section
open PySem PySem.SeqAt
namespace Nt
/-! the table of ranges: pairs of a first code and a kind -/
noncomputable abbrev Tab := List (Int × String)
noncomputable def cnt (ps : Tab) (n : Int) : Nat := (ps.filter fun p => decide (p.1 ≤ n)).length
noncomputable def Up (ps : Tab) : Prop := ps.Pairwise fun p q => p.1 < q.1
theorem cnt_le (ps : Tab) (n : Int) : cnt ps n ≤ ps.length := List.length_filter_le _ _
theorem up_none {p : Int × String} {ps : Tab} (h : Up (p :: ps)) {n : Int} (hn : n ≤ p.1) : (ps.filter fun q => decide (q.1 ≤ n)) = [] := by
  rw [List.filter_eq_nil_iff]
  intro q hq
  have := (List.pairwise_cons.mp h).1 q hq
  simp
  omega
theorem cnt_iff : ∀ {ps : Tab}, Up ps → ∀ (n : Int) (i : Nat) (p : Int × String), ps[i]? = some p → (p.1 ≤ n ↔ i < cnt ps n)
  | [], _, _, _, _, h => by simp at h
  | q :: ps, U, n, i, p, h => by
    have U' := (List.pairwise_cons.mp U).2
    unfold cnt
    rw [List.filter_cons]
    by_cases c : q.1 ≤ n
    · rw [if_pos (decide_eq_true c), List.length_cons]
      cases i with
      | zero => simp at h; subst h; simp [c]
      | succ i =>
        have := cnt_iff U' n i p (by simpa using h)
        unfold cnt at this
        omega
    · rw [if_neg (by simpa using c), up_none U (by omega)]
      cases i with
      | zero => simp at h; subst h; simp; omega
      | succ i =>
        have hm : p ∈ ps := List.mem_of_getElem? (i := i) (by simpa using h)
        have := (List.pairwise_cons.mp U).1 p hm
        simp
        omega
theorem take_cnt : ∀ {ps : Tab}, Up ps → ∀ n : Int, (ps.filter fun p => decide (p.1 ≤ n)) = ps.take (cnt ps n)
  | [], _, _ => rfl
  | q :: ps, U, n => by
    have U' := (List.pairwise_cons.mp U).2
    unfold cnt
    rw [List.filter_cons]
    by_cases c : q.1 ≤ n
    · rw [if_pos (decide_eq_true c), List.length_cons, List.take_succ_cons]
      congr 1
      exact take_cnt U' n
    · rw [if_neg (by simpa using c), up_none U (by omega)]
      rfl
noncomputable def intsZ (xs : List Int) : List MV := xs.map MV.int
theorem le_int (a b : Int) (H : MH) : leF (.int a) (.int b) H = some (decide (a ≤ b)) := rfl
theorem div_two (a : Nat) (H : MH) : intB divF (.int (a : Int)) (.int 2) H = some (.int ((a / 2 : Nat) : Int), H) := by
  unfold intB divF
  dsimp only
  rw [if_pos (by decide), Option.map_some]
  congr 3
  rw [Int.fdiv_eq_ediv_of_nonneg _ (by decide)]
  rfl
set_option maxHeartbeats 2000000 in
theorem E_half {H : MH} {f : Nat} {ps : Tab} (U : Up ps) (hf : H[f]? = some (.list (ps.map fun p => MV.int p.1))) (hl : ps.length ≤ 60) (n : Int) : F_place_by_half [.ref f, .int n] H = some (.int ((cnt ps n : Int) - 1), H) := by
  have loop : ∀ (d lo hi k : Nat) (l : Loc), hi - lo = d → d < k → lo ≤ cnt ps n → cnt ps n ≤ hi → hi ≤ ps.length → l.lookup "firsts" = some (.ref f) → l.lookup "number" = some (.int n) → l.lookup "low" = some (.int (lo : Int)) → l.lookup "high" = some (.int (hi : Int)) →
      ∃ l', whileF (tCmp ltF (eN "low") (eN "high")) (xCons (xAssign (eBin (intB divF) (eBin addF (eN "low") (eN "high")) (eC (.int 2))) (aN "middle")) (xCons (xIf (tCmp leF (eSub (eN "firsts") (eN "middle")) (eN "number")) (xCons (xAssign (eBin addF (eN "middle") (eC (.int 1))) (aN "low")) xNil) (xCons (xAssign (eN "middle") (aN "high")) xNil)) xNil)) k l H = some (.next, l', H) ∧ l'.lookup "low" = some (.int (cnt ps n : Int)) := by
    intro d
    induction d using Nat.strongRecOn with
    | ind d ih =>
      intro lo hi k l hd hk h1 h2 h3 lf ln ll lh
      obtain ⟨k, rfl⟩ : ∃ m, k = m + 1 := ⟨k - 1, by omega⟩
      have ht : tCmp ltF (eN "low") (eN "high") l H = some (decide ((lo : Int) < (hi : Int)), H) := tCmp_run (n_run ll) (n_run lh) (lt_int _ _ _)
      by_cases c : lo < hi
      · rw [decide_eq_true (by omega)] at ht
        have hm1 : (lo + hi) / 2 < hi := by omega
        have hm2 : lo ≤ (lo + hi) / 2 := by omega
        generalize hmid : (lo + hi) / 2 = mid at hm1 hm2
        have hq : ps[mid]? = some ps[mid] := by simp
        generalize hL : setKV "middle" (.int (mid : Int)) l = L
        have f1 : L.lookup "firsts" = some (.ref f) := by rw [← hL]; first | exact lkn (by decide) lf | exact lkn (by decide) (lkn (by decide) lf) | simp [lookup_setKV, lf]
        have n1 : L.lookup "number" = some (.int n) := by rw [← hL]; first | exact lkn (by decide) ln | exact lkn (by decide) (lkn (by decide) ln) | simp [lookup_setKV, ln]
        have l1 : L.lookup "low" = some (.int (lo : Int)) := by rw [← hL]; first | exact lkn (by decide) ll | exact lkn (by decide) (lkn (by decide) ll) | simp [lookup_setKV, ll]
        have g1 : L.lookup "high" = some (.int (hi : Int)) := by rw [← hL]; first | exact lkn (by decide) lh | exact lkn (by decide) (lkn (by decide) lh) | simp [lookup_setKV, lh]
        have m1 : L.lookup "middle" = some (.int (mid : Int)) := by rw [← hL]; first | exact lke | exact lkn (by decide) lke | simp [lookup_setKV]
        have q1 : xAssign (eBin (intB divF) (eBin addF (eN "low") (eN "high")) (eC (.int 2))) (aN "middle") l H = some (.next, L, H) := by
          refine x_asg (v := .int (mid : Int)) (H1 := H) (bin_run (a := .int ((lo + hi : Nat) : Int)) (bin_run (n_run ll) (n_run lh) (by rw [add_int]; congr 3)) rfl ?_) (by rw [← hL]; rfl)
          rw [div_two, hmid]
        have q2 : tCmp leF (eSub (eN "firsts") (eN "middle")) (eN "number") L H = some (decide (ps[mid].1 ≤ n), H) :=
          tCmp_run (sub_run (n_run f1) (n_run m1) (by rw [item_ref hf mid (by omega), List.getElem?_map, hq]; rfl)) (n_run n1) (le_int _ _ _)
        have hiff := cnt_iff U n mid _ hq
        by_cases e : ps[mid].1 ≤ n
        · rw [decide_eq_true e] at q2
          have := hiff.mp e
          obtain ⟨l', r1, r2⟩ := ih (hi - (mid + 1)) (by omega) (mid + 1) hi k (setKV "low" (.int ((mid + 1 : Nat) : Int)) L) rfl (by omega) (by omega) h2 h3 (by first | exact lkn (by decide) f1 | exact lkn (by decide) (lkn (by decide) f1) | simp [lookup_setKV, f1]) (by first | exact lkn (by decide) n1 | exact lkn (by decide) (lkn (by decide) n1) | simp [lookup_setKV, n1]) (by first | exact lke | exact lkn (by decide) lke | simp [lookup_setKV]) (by first | exact lkn (by decide) g1 | exact lkn (by decide) (lkn (by decide) g1) | simp [lookup_setKV, g1])
          refine ⟨l', ?_, r2⟩
          rw [w_true (l2 := setKV "low" (.int ((mid + 1 : Nat) : Int)) L) (H2 := H) ht (x_next q1 (x_next (x_if q2 (by rw [if_pos rfl]; exact x_next (x_asg (bin_run (n_run m1) rfl (add_int _ _ _)) rfl) rfl)) rfl)), r1]
        · rw [decide_eq_false e] at q2
          have hc : cnt ps n ≤ mid := by
            rcases Nat.lt_or_ge mid (cnt ps n) with w | w
            · exact absurd (hiff.mpr w) e
            · exact w
          obtain ⟨l', r1, r2⟩ := ih (mid - lo) (by omega) lo mid k (setKV "high" (.int (mid : Int)) L) rfl (by omega) h1 hc (by omega) (by first | exact lkn (by decide) f1 | exact lkn (by decide) (lkn (by decide) f1) | simp [lookup_setKV, f1]) (by first | exact lkn (by decide) n1 | exact lkn (by decide) (lkn (by decide) n1) | simp [lookup_setKV, n1]) (by first | exact lkn (by decide) l1 | exact lkn (by decide) (lkn (by decide) l1) | simp [lookup_setKV, l1]) (by first | exact lke | exact lkn (by decide) lke | simp [lookup_setKV])
          refine ⟨l', ?_, r2⟩
          rw [w_true (l2 := setKV "high" (.int (mid : Int)) L) (H2 := H) ht (x_next q1 (x_next (x_if q2 (by rw [if_neg (by decide)]; exact x_next (x_asg (n_run m1) rfl) rfl)) rfl)), r1]
      · rw [decide_eq_false (by omega)] at ht
        have : lo = cnt ps n := by omega
        exact ⟨l, w_false ht, by rw [ll, this]⟩
  have hz : (["firsts", "number"].zip [MV.ref f, .int n]).reverse = [("number", .int n), ("firsts", .ref f)] := rfl
  have hcl := cnt_le ps n
  obtain ⟨l', r1, r2⟩ := loop ps.length 0 ps.length FU [("number", .int n), ("firsts", .ref f), ("low", .int 0), ("high", .int (ps.length : Int))] rfl (by unfold FU; omega) (Nat.zero_le _) hcl (Nat.le_refl _) (by simp [List.lookup_cons]) (by simp [List.lookup_cons]) (by simp [List.lookup_cons]) (by simp [List.lookup_cons])
  unfold F_place_by_half
  refine fn_ret rfl ⟨l', ?_⟩
  rw [hz]
  refine x_next (l1 := [("number", .int n), ("firsts", .ref f), ("low", .int 0)]) (H1 := H) rfl ?_
  refine x_next (l1 := [("number", .int n), ("firsts", .ref f), ("low", .int 0), ("high", .int (ps.length : Int))]) (H1 := H) (x_asg (call_run (lcons_run (n_run (v := .ref f) (by simp [List.lookup_cons])) rfl) (lenF_list hf (by rw [List.length_map]; omega))) ?_) ?_
  · rw [List.length_map]; rfl
  · exact x_next r1 (x_ret (x_retv (bin_run (n_run r2) rfl (sub_int _ _ _))))
end Nt
end
section
open PySem PySem.SeqAt
namespace Nt
theorem instC {C : Addr} {H : MH} {sr a : Nat} {fs : List (String × MV)} (h1 : H[sr]? = some (.inst C a)) (h2 : H[a]? = some (.attrs fs)) : instD C (.ref sr) H = some (a, fs) := by
  unfold instD
  dsimp only
  rw [h1]
  dsimp only
  rw [if_pos rfl, h2]
theorem attrC {C : Addr} {H : MH} {sr a : Nat} {l : Loc} {nm x : String} {v : MV} {fs : List (String × MV)} (hs : l.lookup nm = some (.ref sr)) (h : instD C (.ref sr) H = some (a, fs)) (hx : fs.lookup x = some v) (hd : isData v = true) : eAttr C x (eN nm) l H = some (v, H) := by
  have e : eN nm l H = some (.ref sr, H) := n_run hs
  unfold eAttr
  rw [e, Option.bind_some]
  dsimp only
  rw [h, Option.bind_some]
  dsimp only
  rw [hx, Option.bind_some, if_pos hd]
theorem putC {C : Addr} {H : MH} {sr a : Nat} {l : Loc} {nm x : String} {v : MV} {fs : List (String × MV)} (hs : l.lookup nm = some (.ref sr)) (h : instD C (.ref sr) H = some (a, fs)) (hl : fs.length ≤ 1000) : aAttr C x (eN nm) v l H = some (l, H.set a (.attrs (setKV x v fs))) := by
  have e : eN nm l H = some (.ref sr, H) := n_run hs
  unfold aAttr
  rw [e, Option.bind_some]
  dsimp only
  unfold putAttr
  rw [h, Option.bind_some]
  dsimp only
  rw [if_pos hl]
  rfl
/-! the table, pure -/
noncomputable def getM (ps : Tab) (n : Int) : String := (((ps.filter fun p => decide (p.1 ≤ n)).getLast?).map fun p => p.2).getD "Other"
noncomputable def putM (ps : Tab) (c : Int) (k : String) : Tab := (ps.filter fun p => decide (p.1 ≤ c - 1)) ++ [(c, k), (c + 1, "Other")]
theorem get_put (ps : Tab) (c : Int) (k : String) (n : Int) : getM (putM ps c k) n = if n < c then getM ps n else if n = c then k else "Other" := by
  unfold getM putM
  rw [List.filter_append]
  by_cases h1 : n < c
  · rw [if_pos h1]
    have e1 : ([(c, k), (c + 1, "Other")] : Tab).filter (fun p => decide (p.1 ≤ n)) = [] := by
      rw [List.filter_eq_nil_iff]
      intro p hp
      simp at hp
      rcases hp with rfl | rfl <;> simp <;> omega
    rw [e1, List.append_nil, List.filter_filter]
    congr 3
    apply List.filter_congr
    intro p hp
    by_cases q : p.1 ≤ n
    · simp [q]; omega
    · simp [q]
  · rw [if_neg h1]
    by_cases h2 : n = c
    · subst h2
      rw [if_pos rfl]
      have e1 : ([(n, k), (n + 1, "Other")] : Tab).filter (fun p => decide (p.1 ≤ n)) = [(n, k)] := by
        simp [List.filter_cons]
        omega
      rw [e1, List.getLast?_append]
      rfl
    · rw [if_neg h2]
      have e1 : ([(c, k), (c + 1, "Other")] : Tab).filter (fun p => decide (p.1 ≤ n)) = [(c, k), (c + 1, "Other")] := by
        rw [List.filter_eq_self]
        intro p hp
        simp at hp
        rcases hp with rfl | rfl <;> simp <;> omega
      rw [e1, List.getLast?_append]
      rfl
theorem cnt_pos {ps : Tab} {v : String} {r : Tab} (h : ps = (0, v) :: r) {n : Int} (hn : 0 ≤ n) : 0 < cnt ps n := by
  subst h
  unfold cnt
  rw [List.filter_cons, if_pos (decide_eq_true hn), List.length_cons]
  omega
theorem cnt_all {ps : Tab} {n : Int} (h : ∀ p ∈ ps, p.1 ≤ n) : cnt ps n = ps.length := by
  unfold cnt
  rw [List.filter_eq_self.mpr (fun p hp => decide_eq_true (h p hp))]
theorem val_at {ps : Tab} (U : Up ps) {n : Int} (h : 0 < cnt ps n) : (ps.map fun p => MV.str p.2)[cnt ps n - 1]? = some (.str (getM ps n)) := by
  have hl := cnt_le ps n
  unfold getM
  rw [take_cnt U, List.getLast?_eq_getElem?, List.length_take, List.getElem?_map]
  have e : min (cnt ps n) ps.length = cnt ps n := by omega
  rw [e, List.getElem?_take, if_pos (by omega)]
  have hq : ps[cnt ps n - 1]? = some (ps[cnt ps n - 1]'(by omega)) := by simp
  rw [hq]
  rfl
structure Tb (ps : Tab) (top : Int) (b : Nat) : Prop where
  up : Up ps
  zero : ∃ v r, ps = (0, v) :: r
  le : ∀ p ∈ ps, p.1 ≤ top
  len : ps.length ≤ b
theorem Tb.put {ps : Tab} {top : Int} {b : Nat} (T : Tb ps top b) {c : Int} (k : String) (hc : 0 < c) : Tb (putM ps c k) (c + 1) (b + 2) := by
  refine ⟨?_, ?_, ?_, ?_⟩
  · unfold Up putM
    rw [List.pairwise_append]
    refine ⟨T.up.filter _, by simp; omega, ?_⟩
    intro p hp q hq
    have := of_decide_eq_true (List.mem_filter.mp hp).2
    simp at hq
    rcases hq with rfl | rfl <;> simp <;> omega
  · obtain ⟨v, r, e⟩ := T.zero
    subst e
    refine ⟨v, (r.filter fun p => decide (p.1 ≤ c - 1)) ++ [(c, k), (c + 1, "Other")], ?_⟩
    unfold putM
    rw [List.filter_cons, if_pos (decide_eq_true (by show (0 : Int) ≤ c - 1; omega)), List.cons_append]
  · intro p hp
    unfold putM at hp
    rcases List.mem_append.mp hp with hp | hp
    · have := of_decide_eq_true (List.mem_filter.mp hp).2
      omega
    · simp at hp
      rcases hp with rfl | rfl <;> simp
      omega
  · unfold putM
    rw [List.length_append]
    have := List.length_filter_le (fun p : Int × String => decide (p.1 ≤ c - 1)) ps
    have := T.len
    simp
    omega
structure RM (H : MH) (rm d s v : Nat) (ps : Tab) : Prop where
  inst : H[rm]? = some (.inst 224 d)
  attrs : H[d]? = some (.attrs [("default", .str "Other"), ("starts", .ref s), ("values", .ref v)])
  starts : H[s]? = some (.list (ps.map fun p => MV.int p.1))
  values : H[v]? = some (.list (ps.map fun p => MV.str p.2))
theorem RM.instD {H : MH} {rm d s v : Nat} {ps : Tab} (R : RM H rm d s v ps) : instD 224 (.ref rm) H = some (d, [("default", .str "Other"), ("starts", .ref s), ("values", .ref v)]) := instC R.inst R.attrs
theorem RM.get_starts {H : MH} {rm d s v : Nat} {ps : Tab} (R : RM H rm d s v ps) {l : Loc} (h : l.lookup "self" = some (.ref rm)) : eAttr 224 "starts" (eN "self") l H = some (.ref s, H) := attrC h R.instD (by simp [List.lookup_cons]) rfl
theorem RM.get_values {H : MH} {rm d s v : Nat} {ps : Tab} (R : RM H rm d s v ps) {l : Loc} (h : l.lookup "self" = some (.ref rm)) : eAttr 224 "values" (eN "self") l H = some (.ref v, H) := attrC h R.instD (by simp [List.lookup_cons]) rfl
theorem RM.ex {H H' : MH} {rm d s v : Nat} {ps : Tab} (R : RM H rm d s v ps) (E : Ex' H H') : RM H' rm d s v ps := ⟨E.get R.inst, E.get R.attrs, E.get R.starts, E.get R.values⟩
theorem E_rget {H : MH} {rm d s v : Nat} {ps : Tab} {top : Int} {b : Nat} (R : RM H rm d s v ps) (T : Tb ps top b) (hb : b ≤ 60) {n : Int} (hn : 0 ≤ n) : F_RangeMap_get [.ref rm, .int n] H = some (.str (getM ps n), H) := by
  have hz : (["self", "code"].zip [MV.ref rm, .int n]).reverse = [("code", .int n), ("self", .ref rm)] := rfl
  obtain ⟨w, r, e⟩ := T.zero
  have hp := cnt_pos e hn
  have hl := T.len
  have hcl := cnt_le ps n
  have s1 : ([("code", .int n), ("self", .ref rm)] : Loc).lookup "self" = some (.ref rm) := by simp [List.lookup_cons]
  unfold F_RangeMap_get
  refine fn_ret rfl ⟨[("code", .int n), ("self", .ref rm)], ?_⟩
  rw [hz]
  refine x_ret (x_retv (sub_run (b := .int ((cnt ps n - 1 : Nat) : Int)) (R.get_values s1) (call_run (lcons_run (R.get_starts s1) (lcons_run (n_run (v := .int n) (by simp [List.lookup_cons])) rfl)) ?_) ?_))
  · rw [E_half T.up R.starts (by omega)]
    congr 3
    omega
  · rw [item_ref R.values _ (by omega)]
    exact val_at T.up hp
end Nt
end
section
open PySem PySem.SeqAt
namespace Nt
theorem add_lists {H : MH} {a b : Nat} {xs ys : List MV} (h1 : H[a]? = some (.list xs)) (h2 : H[b]? = some (.list ys)) (hl : xs.length + ys.length ≤ 1000) : addF (.ref a) (.ref b) H = some (.ref H.length, H ++ [.list (xs ++ ys)]) := by
  unfold addF addL listD
  dsimp only
  rw [h1]
  dsimp only [Option.bind_some]
  rw [h2]
  dsimp only [Option.bind_some]
  rw [if_pos hl]
theorem like_run {H : MH} (a b : String) (h : (a == b) = false) : F_range_are_like [.str a, .str b] H = some (.bool false, H) := by
  unfold F_range_are_like
  refine fn_ret rfl ⟨[("other", .str b), ("one", .str a)], ?_⟩
  have hz : (["one", "other"].zip [MV.str a, MV.str b]).reverse = [("other", .str b), ("one", .str a)] := rfl
  rw [hz]
  refine x_ret (x_retv ?_)
  have e : eCmp eqF (eN "one") (eN "other") [("other", .str b), ("one", .str a)] H = some (.bool false, H) := by
    unfold eCmp
    rw [n_run (v := .str a) (by simp [List.lookup_cons]), Option.bind_some]
    dsimp only
    rw [n_run (v := .str b) (by simp [List.lookup_cons]), Option.bind_some]
    dsimp only
    rw [eq_str, h]
    rfl
  unfold eAnd
  rw [e]
  rfl
/-- a cut, something between, a cut -/
theorem cat_run {H : MH} {l : Loc} {rm d s t : Nat} {x y : String} {fs : List (String × MV)} {items tmp : List MV} {lo hi : Nat} (hs : l.lookup "self" = some (.ref rm)) (hi1 : instD 224 (.ref rm) H = some (d, fs)) (hx : fs.lookup x = some (.ref s)) (h1 : H[s]? = some (.list items)) (h2 : l.lookup y = some (.ref t)) (h3 : H[t]? = some (.list tmp)) (hlo : l.lookup "low" = some (.int (lo : Int))) (hhi : l.lookup "high" = some (.int (hi : Int))) (l1 : lo ≤ items.length) (l2 : hi ≤ items.length) (l3 : items.length ≤ 100) (l4 : tmp.length ≤ 100)
    (hin : ∀ H', Ex' H H' → instD 224 (.ref rm) H' = some (d, fs)) :
    ∃ r H', eBin addF (eBin addF (eSlice (eAttr 224 x (eN "self")) pNo (pSo (eN "low")) pNo) (eN y)) (eSlice (eAttr 224 x (eN "self")) (pSo (eN "high")) pNo pNo) l H = some (.ref r, H') ∧ Ex' H H' ∧ H'[r]? = some (.list (items.take lo ++ tmp ++ items.drop hi)) ∧ H.length ≤ r := by
  have E1 := Ex'.app H [MO.list (items.take lo)]
  have e1 : eSlice (eAttr 224 x (eN "self")) pNo (pSo (eN "low")) pNo l H = some (.ref H.length, H ++ [.list (items.take lo)]) := by
    rw [slice_run (a := none) (b := some (lo : Int)) (attrC hs hi1 hx rfl) rfl (by unfold pSo; rw [n_run hlo]; rfl) h1 (by omega), pick_upto _ _ l1]
  have k1 : (H ++ [MO.list (items.take lo)])[H.length]? = some (.list (items.take lo)) := by simp
  have hln1 : (H ++ [MO.list (items.take lo)]).length = H.length + 1 := by simp
  generalize hH1 : H ++ [MO.list (items.take lo)] = H1 at E1 e1 k1 hln1
  have hlt : (items.take lo).length ≤ 100 := by rw [List.length_take]; omega
  have e2 : eBin addF (eSlice (eAttr 224 x (eN "self")) pNo (pSo (eN "low")) pNo) (eN y) l H = some (.ref H1.length, H1 ++ [.list (items.take lo ++ tmp)]) :=
    bin_run e1 (n_run h2) (add_lists k1 (E1.get h3) (by omega))
  have E2 := Ex'.app H1 [MO.list (items.take lo ++ tmp)]
  have k2 : (H1 ++ [MO.list (items.take lo ++ tmp)])[H1.length]? = some (.list (items.take lo ++ tmp)) := by simp
  generalize hH2 : H1 ++ [MO.list (items.take lo ++ tmp)] = H2 at E2 e2 k2
  have E12 := E1.trans E2
  have e3 : eSlice (eAttr 224 x (eN "self")) (pSo (eN "high")) pNo pNo l H2 = some (.ref H2.length, H2 ++ [.list (items.drop hi)]) := by
    rw [slice_run (a := some (hi : Int)) (b := none) (attrC hs (hin _ E12) hx rfl) (by unfold pSo; rw [n_run hhi]; rfl) rfl (E12.get h1) (by omega), pick_from _ _ l2]
  have E3 := Ex'.app H2 [MO.list (items.drop hi)]
  have k3 : (H2 ++ [MO.list (items.drop hi)])[H2.length]? = some (.list (items.drop hi)) := by simp
  have hln3 : (H2 ++ [MO.list (items.drop hi)]).length = H2.length + 1 := by simp
  generalize hH3 : H2 ++ [MO.list (items.drop hi)] = H3 at E3 e3 k3 hln3
  have hl12 := E12.len
  refine ⟨H3.length, H3 ++ [.list (items.take lo ++ tmp ++ items.drop hi)], bin_run e2 e3 (add_lists (E3.get k2) k3 (by rw [List.length_append, List.length_drop]; omega)), (E12.trans E3).trans (Ex'.app _ _), by simp, by omega⟩
set_option maxHeartbeats 2000000 in
theorem E_rput {H : MH} {rm d s v : Nat} {ps : Tab} {top : Int} {b : Nat} (R : RM H rm d s v ps) (T : Tb ps top b) (hb : b ≤ 50) {c : Int} {k : String} (hc : 0 < c) (hm : c < 1114111) (ht : top ≤ c) (h1 : getM ps (c + 1) = "Other") (h2 : getM ps (c - 1) ≠ k) (h3 : k ≠ "Other") :
    ∃ H' s' v', F_RangeMap_put [.ref rm, .int c, .int c, .str k] H = some (.none, H') ∧ RM H' rm d s' v' (putM ps c k) ∧ H.length ≤ H'.length ∧ (∀ j, j < H.length → j ≠ d → H'[j]? = H[j]?) ∧ H.length ≤ s' ∧ H.length ≤ v' := by
  have hz : (["self", "first", "last", "value"].zip [MV.ref rm, .int c, .int c, .str k]).reverse = [("value", .str k), ("last", .int c), ("first", .int c), ("self", .ref rm)] := rfl
  generalize hL0 : ([("value", .str k), ("last", .int c), ("first", .int c), ("self", .ref rm)] : Loc) = L0 at hz
  have s0 : L0.lookup "self" = some (.ref rm) := by rw [← hL0]; simp [List.lookup_cons]
  have v0 : L0.lookup "value" = some (.str k) := by rw [← hL0]; simp [List.lookup_cons]
  have f0 : L0.lookup "first" = some (.int c) := by rw [← hL0]; simp [List.lookup_cons]
  have l0 : L0.lookup "last" = some (.int c) := by rw [← hL0]; simp [List.lookup_cons]
  obtain ⟨w, r, hps⟩ := T.zero
  have hlen := T.len
  have hp1 := cnt_pos hps (n := c - 1) (by omega)
  have hp2 := cnt_pos hps (n := c + 1) (by omega)
  have hall := cnt_all (ps := ps) (n := c + 1) (fun p hp => by have := T.le p hp; omega)
  have hc1 := cnt_le ps (c - 1)
  have q0 : xIf (tCmp gtF (eN "first") (eN "last")) (xCons xRet0 xNil) xNil L0 H = some (.next, L0, H) := x_if (b := false) (tCmp_run (n_run f0) (n_run l0) (by rw [gt_int, decide_eq_false (by omega)])) (by rw [if_neg (by decide)]; rfl)
  generalize hlo : cnt ps (c - 1) = lo at hp1 hc1
  generalize hhi : cnt ps (c + 1) = hi at hp2 hall
  generalize hL1 : setKV "low" (.int (lo : Int)) L0 = L1
  have q1 : xAssign (eBin addF (eCall F_place_by_half (lCons (eAttr 224 "starts" (eN "self")) (lCons (eBin subF (eN "first") (eC (.int 1))) lNil))) (eC (.int 1))) (aN "low") L0 H = some (.next, L1, H) := by
    refine x_asg (v := .int (lo : Int)) (H1 := H) (bin_run (call_run (lcons_run (R.get_starts s0) (lcons_run (bin_run (n_run f0) rfl (sub_int _ _ _)) rfl)) (E_half T.up R.starts (by omega) _)) rfl ?_) (by rw [← hL1]; rfl)
    rw [add_int, hlo]
    congr 3
    omega
  have s1 : L1.lookup "self" = some (.ref rm) := by rw [← hL1]; first | exact lkn (by decide) s0 | exact lkn (by decide) (lkn (by decide) s0) | simp [lookup_setKV, s0]
  have v1 : L1.lookup "value" = some (.str k) := by rw [← hL1]; first | exact lkn (by decide) v0 | exact lkn (by decide) (lkn (by decide) v0) | simp [lookup_setKV, v0]
  have f1 : L1.lookup "first" = some (.int c) := by rw [← hL1]; first | exact lkn (by decide) f0 | exact lkn (by decide) (lkn (by decide) f0) | simp [lookup_setKV, f0]
  have l1 : L1.lookup "last" = some (.int c) := by rw [← hL1]; first | exact lkn (by decide) l0 | exact lkn (by decide) (lkn (by decide) l0) | simp [lookup_setKV, l0]
  have o1 : L1.lookup "low" = some (.int (lo : Int)) := by rw [← hL1]; first | exact lke | exact lkn (by decide) lke | simp [lookup_setKV]
  generalize hL2 : setKV "high" (.int (hi : Int)) L1 = L2
  have q2 : xAssign (eBin addF (eCall F_place_by_half (lCons (eAttr 224 "starts" (eN "self")) (lCons (eBin addF (eN "last") (eC (.int 1))) lNil))) (eC (.int 1))) (aN "high") L1 H = some (.next, L2, H) := by
    refine x_asg (v := .int (hi : Int)) (H1 := H) (bin_run (call_run (lcons_run (R.get_starts s1) (lcons_run (bin_run (n_run l1) rfl (add_int _ _ _)) rfl)) (E_half T.up R.starts (by omega) _)) rfl ?_) (by rw [← hL2]; rfl)
    rw [add_int, hhi]
    congr 3
    omega
  have s2 : L2.lookup "self" = some (.ref rm) := by rw [← hL2]; first | exact lkn (by decide) s1 | exact lkn (by decide) (lkn (by decide) s1) | simp [lookup_setKV, s1]
  have v2 : L2.lookup "value" = some (.str k) := by rw [← hL2]; first | exact lkn (by decide) v1 | exact lkn (by decide) (lkn (by decide) v1) | simp [lookup_setKV, v1]
  have f2 : L2.lookup "first" = some (.int c) := by rw [← hL2]; first | exact lkn (by decide) f1 | exact lkn (by decide) (lkn (by decide) f1) | simp [lookup_setKV, f1]
  have l2 : L2.lookup "last" = some (.int c) := by rw [← hL2]; first | exact lkn (by decide) l1 | exact lkn (by decide) (lkn (by decide) l1) | simp [lookup_setKV, l1]
  have o2 : L2.lookup "low" = some (.int (lo : Int)) := by rw [← hL2]; first | exact lkn (by decide) o1 | exact lkn (by decide) (lkn (by decide) o1) | simp [lookup_setKV, o1]
  have h2' : L2.lookup "high" = some (.int (hi : Int)) := by rw [← hL2]; first | exact lke | exact lkn (by decide) lke | simp [lookup_setKV]
  generalize hL3 : setKV "behind" (.str "Other") L2 = L3
  have q3 : xAssign (eSub (eAttr 224 "values" (eN "self")) (eBin subF (eN "high") (eC (.int 1)))) (aN "behind") L2 H = some (.next, L3, H) := by
    refine x_asg (v := .str "Other") (H1 := H) (sub_run (b := .int ((hi - 1 : Nat) : Int)) (R.get_values s2) (bin_run (n_run h2') rfl (by rw [sub_int]; congr 3; omega)) ?_) (by rw [← hL3]; rfl)
    rw [item_ref R.values _ (by omega), ← hhi, val_at T.up (by omega), h1]
  have s3 : L3.lookup "self" = some (.ref rm) := by rw [← hL3]; first | exact lkn (by decide) s2 | exact lkn (by decide) (lkn (by decide) s2) | simp [lookup_setKV, s2]
  have v3 : L3.lookup "value" = some (.str k) := by rw [← hL3]; first | exact lkn (by decide) v2 | exact lkn (by decide) (lkn (by decide) v2) | simp [lookup_setKV, v2]
  have f3 : L3.lookup "first" = some (.int c) := by rw [← hL3]; first | exact lkn (by decide) f2 | exact lkn (by decide) (lkn (by decide) f2) | simp [lookup_setKV, f2]
  have l3 : L3.lookup "last" = some (.int c) := by rw [← hL3]; first | exact lkn (by decide) l2 | exact lkn (by decide) (lkn (by decide) l2) | simp [lookup_setKV, l2]
  have o3 : L3.lookup "low" = some (.int (lo : Int)) := by rw [← hL3]; first | exact lkn (by decide) o2 | exact lkn (by decide) (lkn (by decide) o2) | simp [lookup_setKV, o2]
  have h3' : L3.lookup "high" = some (.int (hi : Int)) := by rw [← hL3]; first | exact lkn (by decide) h2' | exact lkn (by decide) (lkn (by decide) h2') | simp [lookup_setKV, h2']
  have b3 : L3.lookup "behind" = some (.str "Other") := by rw [← hL3]; first | exact lke | exact lkn (by decide) lke | simp [lookup_setKV]
  -- the two new lists
  generalize hL4 : setKV "starts" (.ref H.length) (setKV "values" (.ref (H.length + 1)) L3) = L4
  have q4 : xAssign (eTup (lCons (eLst (lCons (eN "first") lNil)) (lCons (eLst (lCons (eN "value") lNil)) lNil))) (aRev ["starts", "values"]) L3 H = some (.next, L4, H ++ [.list [.int c], .list [.str k]]) := by
    refine x_asg (v := .tup [.ref H.length, .ref (H.length + 1)]) (H1 := H ++ [.list [.int c], .list [.str k]]) (tup_run (lcons_run (v := .ref H.length) (H1 := H ++ [.list [.int c]]) ?_ (lcons_run (v := .ref (H.length + 1)) (H1 := H ++ [.list [.int c], .list [.str k]]) ?_ rfl)) (by simp)) ?_
    · unfold eLst
      rw [lcons_run (n_run f3) rfl]
      rfl
    · unfold eLst
      rw [lcons_run (n_run v3) rfl, Option.bind_some, if_pos (by simp)]
      simp
    · rw [← hL4]; rfl
  have s4 : L4.lookup "self" = some (.ref rm) := by rw [← hL4]; first | exact lkn (by decide) s3 | exact lkn (by decide) (lkn (by decide) s3) | simp [lookup_setKV, s3]
  have v4 : L4.lookup "value" = some (.str k) := by rw [← hL4]; first | exact lkn (by decide) v3 | exact lkn (by decide) (lkn (by decide) v3) | simp [lookup_setKV, v3]
  have l4 : L4.lookup "last" = some (.int c) := by rw [← hL4]; first | exact lkn (by decide) l3 | exact lkn (by decide) (lkn (by decide) l3) | simp [lookup_setKV, l3]
  have o4 : L4.lookup "low" = some (.int (lo : Int)) := by rw [← hL4]; first | exact lkn (by decide) o3 | exact lkn (by decide) (lkn (by decide) o3) | simp [lookup_setKV, o3]
  have h4' : L4.lookup "high" = some (.int (hi : Int)) := by rw [← hL4]; first | exact lkn (by decide) h3' | exact lkn (by decide) (lkn (by decide) h3') | simp [lookup_setKV, h3']
  have b4 : L4.lookup "behind" = some (.str "Other") := by rw [← hL4]; first | exact lkn (by decide) b3 | exact lkn (by decide) (lkn (by decide) b3) | simp [lookup_setKV, b3]
  have st4 : L4.lookup "starts" = some (.ref H.length) := by rw [← hL4]; first | exact lke | exact lkn (by decide) lke | simp [lookup_setKV]
  have va4 : L4.lookup "values" = some (.ref (H.length + 1)) := by rw [← hL4]; first | exact lke | exact lkn (by decide) lke | simp [lookup_setKV]
  have hok : (("Other" : String) == k) = false := beq_eq_false_iff_ne.mpr (Ne.symm h3)
  have q5 : xIf (tAnd (tCmp ltF (eN "last") (eC V_MAX_CODE)) (tAnd (tNot (eT (eCall F_range_are_like (lCons (eN "behind") (lCons (eN "value") lNil))))) tTrue)) (xCons (xExpr (eMethL appendF (eN "starts") (lCons (eBin addF (eN "last") (eC (.int 1))) lNil))) (xCons (xExpr (eMethL appendF (eN "values") (lCons (eN "behind") lNil))) xNil)) xNil L4 (H ++ [.list [.int c], .list [.str k]]) = some (.next, L4, H ++ [.list [.int c, .int (c + 1)], .list [.str k, .str "Other"]]) := by
    have t1 : tCmp ltF (eN "last") (eC V_MAX_CODE) L4 (H ++ [.list [.int c], .list [.str k]]) = some (true, H ++ [.list [.int c], .list [.str k]]) := tCmp_run (n_run l4) rfl (by show ltF (.int c) (.int 1114111) _ = _; rw [lt_int, decide_eq_true hm])
    have t2 : eT (eCall F_range_are_like (lCons (eN "behind") (lCons (eN "value") lNil))) L4 (H ++ [.list [.int c], .list [.str k]]) = some (false, H ++ [.list [.int c], .list [.str k]]) := by
      unfold eT
      rw [call_run (lcons_run (n_run b4) (lcons_run (n_run v4) rfl)) (like_run _ _ hok)]
      rfl
    have t3 : tNot (eT (eCall F_range_are_like (lCons (eN "behind") (lCons (eN "value") lNil)))) L4 (H ++ [.list [.int c], .list [.str k]]) = some (true, H ++ [.list [.int c], .list [.str k]]) := by
      unfold tNot
      rw [t2]
      rfl
    refine x_if (and_go t1 (and_go t3 rfl)) ?_
    rw [if_pos rfl]
    refine x_next (H1 := H ++ [.list [.int c, .int (c + 1)], .list [.str k]]) (x_exp (v := .none) (methL_run (g := appendF) (n_run st4) (xs := [.int c]) (by simp) (lcons_run (bin_run (n_run l4) rfl (add_int _ _ _)) rfl) ?_)) ?_
    · rw [append_run (xs := [.int c]) (by simp) (by simp)]
      simp
    · refine x_next (H1 := H ++ [.list [.int c, .int (c + 1)], .list [.str k, .str "Other"]]) (x_exp (v := .none) (methL_run (g := appendF) (n_run va4) (xs := [.str k]) (by simp) (lcons_run (n_run b4) rfl) ?_)) rfl
      rw [append_run (xs := [.str k]) (by simp) (by simp)]
      simp
  have E5 := Ex'.app H [MO.list [.int c, .int (c + 1)], MO.list [.str k, .str "Other"]]
  have st5 : (H ++ [MO.list [.int c, .int (c + 1)], MO.list [.str k, .str "Other"]])[H.length]? = some (.list [.int c, .int (c + 1)]) := by simp
  have va5 : (H ++ [MO.list [.int c, .int (c + 1)], MO.list [.str k, .str "Other"]])[H.length + 1]? = some (.list [.str k, .str "Other"]) := by simp
  generalize hH5 : H ++ [MO.list [.int c, .int (c + 1)], MO.list [.str k, .str "Other"]] = H5 at q5 E5 st5 va5
  have R5 := R.ex E5
  have hlk : (getM ps (c - 1) == k) = false := beq_eq_false_iff_ne.mpr h2
  have q6 : xIf (tAnd (tCmp gtF (eN "low") (eC (.int 0))) (tAnd (eT (eCall F_range_are_like (lCons (eSub (eAttr 224 "values" (eN "self")) (eBin subF (eN "low") (eC (.int 1)))) (lCons (eN "value") lNil)))) tTrue)) (xCons (xAssign (eTup (lCons (eSlice (eN "starts") (pSo (eC (.int 1))) pNo pNo) (lCons (eSlice (eN "values") (pSo (eC (.int 1))) pNo pNo) lNil))) (aRev ["starts", "values"])) xNil) xNil L4 H5 = some (.next, L4, H5) := by
    have t1 : tCmp gtF (eN "low") (eC (.int 0)) L4 H5 = some (true, H5) := tCmp_run (n_run o4) rfl (by rw [gt_int, decide_eq_true (by omega)])
    have t2 : eT (eCall F_range_are_like (lCons (eSub (eAttr 224 "values" (eN "self")) (eBin subF (eN "low") (eC (.int 1)))) (lCons (eN "value") lNil))) L4 H5 = some (false, H5) := by
      have e : eSub (eAttr 224 "values" (eN "self")) (eBin subF (eN "low") (eC (.int 1))) L4 H5 = some (.str (getM ps (c - 1)), H5) := by
        refine sub_run (b := .int ((lo - 1 : Nat) : Int)) (R5.get_values s4) (bin_run (n_run o4) rfl (by rw [sub_int]; congr 3; omega)) ?_
        rw [item_ref R5.values _ (by omega), ← hlo, val_at T.up (by omega)]
      unfold eT
      rw [call_run (lcons_run e (lcons_run (n_run v4) rfl)) (like_run _ _ hlk)]
      rfl
    exact x_if (and_go t1 (and_no t2)) (by rw [if_neg (by decide)]; rfl)
  have hdl : d < H.length := (List.getElem?_eq_some_iff.mp R.attrs).1
  have hsl : s < H.length := (List.getElem?_eq_some_iff.mp R.starts).1
  have hvl : v < H.length := (List.getElem?_eq_some_iff.mp R.values).1
  have hrd : rm ≠ d := by
    rintro rfl
    have := R.inst
    rw [R.attrs] at this
    cases this
  have hvd : v ≠ d := by
    rintro rfl
    have := R.values
    rw [R.attrs] at this
    cases this
  have hl5 := E5.len
  obtain ⟨r1, H6, u1, u2, u3, u4⟩ := cat_run (x := "starts") (y := "starts") (lo := lo) (hi := hi) s4 R5.instD (by simp [List.lookup_cons]) R5.starts st4 st5 o4 h4' (by rw [List.length_map]; omega) (by rw [List.length_map]; omega) (by rw [List.length_map]; omega) (by simp) (fun H' E => (R5.ex E).instD)
  have R6 := R5.ex u2
  have hl6 := u2.len
  have q7 := x_asg u1 (putC (x := "starts") (v := .ref r1) s4 R6.instD (by simp))
  have hset7 : setKV "starts" (.ref r1) [("default", MV.str "Other"), ("starts", .ref s), ("values", .ref v)] = [("default", MV.str "Other"), ("starts", .ref r1), ("values", .ref v)] := by simp [setKV]
  rw [hset7] at q7
  have i7 : (H6.set d (.attrs [("default", .str "Other"), ("starts", .ref r1), ("values", .ref v)]))[rm]? = some (.inst 224 d) := by rw [List.getElem?_set_ne hrd.symm]; exact R6.inst
  have a7 : (H6.set d (.attrs [("default", .str "Other"), ("starts", .ref r1), ("values", .ref v)]))[d]? = some (.attrs [("default", .str "Other"), ("starts", .ref r1), ("values", .ref v)]) := List.getElem?_set_self (by omega)
  have v7 : (H6.set d (.attrs [("default", .str "Other"), ("starts", .ref r1), ("values", .ref v)]))[v]? = some (.list (ps.map fun p => MV.str p.2)) := by rw [List.getElem?_set_ne hvd.symm]; exact R6.values
  have w7 : (H6.set d (.attrs [("default", .str "Other"), ("starts", .ref r1), ("values", .ref v)]))[H.length + 1]? = some (.list [.str k, .str "Other"]) := by rw [List.getElem?_set_ne (by omega)]; exact u2.get va5
  have z7 : (H6.set d (.attrs [("default", .str "Other"), ("starts", .ref r1), ("values", .ref v)]))[r1]? = H6[r1]? := List.getElem?_set_ne (by omega)
  rw [u3] at z7
  have hl7 : (H6.set d (.attrs [("default", .str "Other"), ("starts", .ref r1), ("values", .ref v)])).length = H6.length := by rw [List.length_set]
  have o7 : ∀ j, j < H.length → j ≠ d → (H6.set d (.attrs [("default", .str "Other"), ("starts", .ref r1), ("values", .ref v)]))[j]? = H[j]? := fun j hj hn => by rw [List.getElem?_set_ne hn.symm, u2.old j (by omega), E5.old j hj]
  generalize H6.set d (.attrs [("default", .str "Other"), ("starts", .ref r1), ("values", .ref v)]) = H7 at q7 i7 a7 v7 w7 z7 hl7 o7
  obtain ⟨r2, H8, y1, y2, y3, y4⟩ := cat_run (x := "values") (y := "values") (lo := lo) (hi := hi) s4 (instC i7 a7) (by simp [List.lookup_cons]) v7 va4 w7 o4 h4' (by rw [List.length_map]; omega) (by rw [List.length_map]; omega) (by rw [List.length_map]; omega) (by simp) (fun H' E => instC (E.get i7) (E.get a7))
  have hl8 := y2.len
  have q8 := x_asg y1 (putC (x := "values") (v := .ref r2) s4 (instC (y2.get i7) (y2.get a7)) (by simp))
  have hset8 : setKV "values" (.ref r2) [("default", MV.str "Other"), ("starts", .ref r1), ("values", .ref v)] = [("default", MV.str "Other"), ("starts", .ref r1), ("values", .ref r2)] := by simp [setKV]
  rw [hset8] at q8
  have hpm : putM ps c k = ps.take lo ++ [(c, k), (c + 1, "Other")] := by unfold putM; rw [take_cnt T.up, hlo]
  refine ⟨H8.set d (.attrs [("default", .str "Other"), ("starts", .ref r1), ("values", .ref r2)]), r1, r2, ?_, ⟨?_, ?_, ?_, ?_⟩, ?_, ?_, by omega, by omega⟩
  · unfold F_RangeMap_put
    refine fn_end rfl ⟨L4, ?_⟩
    rw [hz]
    exact x_next q0 (x_next q1 (x_next q2 (x_next q3 (x_next q4 (x_next q5 (x_next q6 (x_next q7 (x_next q8 rfl))))))))
  · rw [List.getElem?_set_ne hrd.symm]; exact y2.get i7
  · exact List.getElem?_set_self (by omega)
  · rw [List.getElem?_set_ne (by omega), y2.get z7, hpm, hall]
    simp
  · rw [List.getElem?_set_ne (by omega), y3, hpm, hall]
    simp
  · rw [List.length_set]; omega
  · intro j hj hn
    rw [List.getElem?_set_ne hn.symm, y2.old j (by omega), o7 j hj hn]
end Nt
end
section
open PySem PySem.SeqAt
namespace Nt
noncomputable def fillKV (v : MV) (names : List String) (dl : List (String × MV)) : List (String × MV) := names.foldl (fun acc n => setKV n v acc) dl
theorem fillKV_snoc (v : MV) (names : List String) (n : String) (dl : List (String × MV)) : fillKV v (names ++ [n]) dl = setKV n v (fillKV v names dl) := by unfold fillKV; rw [List.foldl_append]; rfl
theorem fillKV_lookup (v : MV) (x : String) : ∀ (names : List String) (dl : List (String × MV)), (fillKV v names dl).lookup x = if x ∈ names then some v else dl.lookup x
  | [], dl => rfl
  | n :: r, dl => by
    show (fillKV v r (setKV n v dl)).lookup x = _
    rw [fillKV_lookup v x r, lookup_setKV]
    by_cases h1 : x ∈ r
    · simp [h1]
    · by_cases h2 : x = n <;> simp [h1, h2]
theorem setKV_len1 (k : String) (v : MV) : ∀ l : List (String × MV), (setKV k v l).length ≤ l.length + 1
  | [] => Nat.le_refl _
  | (j, u) :: r => by
    unfold setKV
    split
    · simp
    · have := setKV_len1 k v r
      simp
      omega
theorem fillKV_len (v : MV) : ∀ (names : List String) (dl : List (String × MV)), (fillKV v names dl).length ≤ dl.length + names.length
  | [], dl => Nat.le_refl _
  | n :: r, dl => by
    show (fillKV v r (setKV n v dl)).length ≤ _
    have := fillKV_len v r (setKV n v dl)
    have := setKV_len1 n v dl
    simp
    omega
theorem asub_run {f g : EvF} {v : MV} {l : Loc} {H H1 H2 : MH} {m : Nat} {dl : List (String × MV)} {x : String} (hf : f l H = some (.ref m, H1)) (hg : g l H1 = some (.str x, H2)) (hm : H2[m]? = some (.dict dl)) (hl : dl.length ≤ 1000) : aSub f g v l H = some (l, H2.set m (.dict (setKV x v dl))) := by
  unfold aSub
  rw [hf, Option.bind_some]
  dsimp only
  rw [hg, Option.bind_some]
  dsimp only
  unfold dictD
  dsimp only
  rw [hm]
  dsimp only [Option.bind_some]
  rw [if_pos hl]
theorem iter_tup (items : List MV) (i : Nat) (H : MH) : iterAt (.tup items) i H = some items[i]? := rfl
theorem for_store {f e : EvF} {l : Loc} {H : MH} {fd : Nat} {dl : List (String × MV)} {v : MV} (names : List String) (hsrc : f l H = some (.tup (names.map .str), H)) (he : ∀ lx Hx, e lx Hx = some (v, Hx)) (hf : l.lookup "found" = some (.ref fd)) (hm : H[fd]? = some (.dict dl)) (hl : dl.length + names.length ≤ 900) (hn : names.length ≤ 60) :
    ∃ l', xFor f (aN "name") (xCons (xAssign e (aSub (eN "found") (eN "name"))) xNil) FU l H = some (.next, l', H.set fd (.dict (fillKV v names dl))) ∧ l'.lookup "found" = some (.ref fd) := by
  have hfl : fd < H.length := (List.getElem?_eq_some_iff.mp hm).1
  obtain ⟨l', H', q1, q2, q3⟩ := for_list (src := .tup (names.map .str)) (a := aN "name") (g := xCons (xAssign e (aSub (eN "found") (eN "name"))) xNil) (names.map MV.str)
    (fun i lx Hx => lx.lookup "found" = some (.ref fd) ∧ Hx = H.set fd (.dict (fillKV v (names.take i) dl)))
    (fun i lx Hx _ => iter_tup _ _ _)
    (fun i w lx Hx hw hC => by
      obtain ⟨c1, rfl⟩ := hC
      rw [List.getElem?_map] at hw
      obtain ⟨y, hy, rfl⟩ := Option.map_eq_some_iff.mp hw
      have hlt := fillKV_len v (names.take i) dl
      rw [List.length_take] at hlt
      refine ⟨setKV "name" (.str y) lx, H.set fd (.dict (fillKV v (names.take i) dl)), setKV "name" (.str y) lx, H.set fd (.dict (fillKV v (names.take (i + 1)) dl)), rfl, ?_, ?_, rfl⟩
      · refine x_next (x_asg (he _ _) (asub_run (x := y) (dl := fillKV v (names.take i) dl) (n_run (by exact lkn (by decide) c1)) (n_run (by first | exact lke | exact lkn (by decide) lke | simp [lookup_setKV])) (List.getElem?_set_self hfl) (by omega))) ?_
        have hts : names.take (i + 1) = names.take i ++ [y] := by rw [List.take_add_one, hy]; rfl
        rw [hts, fillKV_snoc, List.set_set]
        rfl
      · exact lkn (by decide) c1)
    (names.map MV.str).length 0 FU l H (by simp) (Nat.zero_le _) (by rw [List.length_map]; unfold FU; omega) ⟨hf, by
      show H = H.set fd (.dict dl)
      apply List.ext_getElem?
      intro j
      by_cases hj : j = fd
      · subst hj; rw [List.getElem?_set_self hfl, hm]
      · rw [List.getElem?_set_ne (Ne.symm hj)]⟩
  refine ⟨l', ?_, q2⟩
  rw [List.length_map, List.take_length] at q3
  rw [← q3]
  refine for_run hsrc ?_ q1
  unfold iterOk
  dsimp only
  rw [decide_eq_true]
  rw [List.length_map]; omega
set_option maxHeartbeats 2000000 in
theorem E_defaults (H : MH) : ∃ dl, F_data_defaults [] H = some (.ref H.length, H ++ [.dict dl]) ∧ dl.lookup "sb" = some (.str "Other") ∧ dl.length ≤ 100 := by
  have hz : (([] : List String).zip ([] : List MV)).reverse = ([] : Loc) := rfl
  generalize hD0 : ([("gc", .str "Cn"), ("ccc", .int 0), ("bc", .str "L"), ("lb", .str "XX"), ("ea", .str "N"), ("sc", .str "Zzzz"), ("jt", .str "U"), ("incb", .str "None")] : List (String × MV)) = D0
  have hl0 : D0.length = 8 := by rw [← hD0]; rfl
  have q0 : xAssign (eDict (dCons "gc" (eC (.str "Cn")) (dCons "ccc" (eC (.int 0)) (dCons "bc" (eC (.str "L")) (dCons "lb" (eC (.str "XX")) (dCons "ea" (eC (.str "N")) (dCons "sc" (eC (.str "Zzzz")) (dCons "jt" (eC (.str "U")) (dCons "incb" (eC (.str "None")) dNil))))))))) (aN "found") [] H = some (.next, [("found", .ref H.length)], H ++ [.dict D0]) := by
    refine x_asg (v := .ref H.length) (H1 := H ++ [.dict D0]) ?_ rfl
    have hd : dCons "gc" (eC (.str "Cn")) (dCons "ccc" (eC (.int 0)) (dCons "bc" (eC (.str "L")) (dCons "lb" (eC (.str "XX")) (dCons "ea" (eC (.str "N")) (dCons "sc" (eC (.str "Zzzz")) (dCons "jt" (eC (.str "U")) (dCons "incb" (eC (.str "None")) dNil))))))) [] (H ++ [.dict []]) = some (D0, H ++ [.dict []]) := by rw [← hD0]; rfl
    unfold eDict
    rw [hd, Option.bind_some]
    dsimp only
    have e : (H ++ [MO.dict []])[H.length]? = some (.dict []) := by simp
    rw [e]
    dsimp only
    have hm : mergeKV [] D0 = D0 := by rw [← hD0]; simp [mergeKV, setKV]
    rw [hm]
    simp
  have step : ∀ (dl : List (String × MV)) (d' : List (String × MV)), (H ++ [MO.dict dl]).set H.length (.dict d') = H ++ [.dict d'] := fun dl d' => by simp
  have hget : ∀ dl : List (String × MV), (H ++ [MO.dict dl])[H.length]? = some (.dict dl) := fun dl => by simp
  obtain ⟨l1, q1, f1⟩ := for_store (f := eTup (lCons (eC (.str "gcb")) (lCons (eC (.str "wb")) (lCons (eC (.str "sb")) lNil)))) (e := eC (.str "Other")) (l := [("found", .ref H.length)]) ["gcb", "wb", "sb"] rfl (fun _ _ => rfl) (by simp [List.lookup_cons]) (hget D0) (by rw [hl0]; decide) (by decide)
  rw [step] at q1
  have m1 := fillKV_len (.str "Other") ["gcb", "wb", "sb"] D0
  have k1 := fillKV_lookup (.str "Other") "sb" ["gcb", "wb", "sb"] D0
  rw [if_pos (by decide)] at k1
  generalize fillKV (.str "Other") ["gcb", "wb", "sb"] D0 = D1 at q1 m1 k1
  obtain ⟨l2, q2, f2⟩ := for_store (f := eTup (lCons (eC (.str "ex")) (lCons (eC (.str "sd")) (lCons (eC (.str "cased")) (lCons (eC (.str "ci")) (lCons (eC (.str "ep")) (lCons (eC (.str "di")) (lCons (eC (.str "ids")) (lCons (eC (.str "idc")) (lCons (eC (.str "xids")) (lCons (eC (.str "xidc")) (lCons (eC (.str "pat_syn")) (lCons (eC (.str "pat_ws")) (lCons (eC (.str "idst")) lNil)))))))))))))) (e := eC (.bool false)) (l := l1) ["ex", "sd", "cased", "ci", "ep", "di", "ids", "idc", "xids", "xidc", "pat_syn", "pat_ws", "idst"] rfl (fun _ _ => rfl) f1 (hget D1) (by simp at m1 ⊢; omega) (by decide)
  rw [step] at q2
  have m2 := fillKV_len (.bool false) ["ex", "sd", "cased", "ci", "ep", "di", "ids", "idc", "xids", "xidc", "pat_syn", "pat_ws", "idst"] D1
  have k2 := fillKV_lookup (.bool false) "sb" ["ex", "sd", "cased", "ci", "ep", "di", "ids", "idc", "xids", "xidc", "pat_syn", "pat_ws", "idst"] D1
  rw [if_neg (by decide), k1] at k2
  generalize fillKV (.bool false) ["ex", "sd", "cased", "ci", "ep", "di", "ids", "idc", "xids", "xidc", "pat_syn", "pat_ws", "idst"] D1 = D2 at q2 m2 k2
  obtain ⟨l3, q3, f3⟩ := for_store (f := eTup (lCons (eC (.str "dm")) (lCons (eC (.str "uc")) (lCons (eC (.str "lc")) (lCons (eC (.str "tc")) (lCons (eC (.str "cf")) (lCons (eC (.str "bm")) (lCons (eC (.str "bpb")) (lCons (eC (.str "scx")) (lCons (eC (.str "nt")) (lCons (eC (.str "nv")) (lCons (eC (.str "name")) (lCons (eC (.str "conf")) (lCons (eC (.str "nfkc_cf")) lNil)))))))))))))) (e := eC .none) (l := l2) ["dm", "uc", "lc", "tc", "cf", "bm", "bpb", "scx", "nt", "nv", "name", "conf", "nfkc_cf"] rfl (fun _ _ => rfl) f2 (hget D2) (by simp at m1 m2 ⊢; omega) (by decide)
  rw [step] at q3
  have m3 := fillKV_len .none ["dm", "uc", "lc", "tc", "cf", "bm", "bpb", "scx", "nt", "nv", "name", "conf", "nfkc_cf"] D2
  have k3 := fillKV_lookup .none "sb" ["dm", "uc", "lc", "tc", "cf", "bm", "bpb", "scx", "nt", "nv", "name", "conf", "nfkc_cf"] D2
  rw [if_neg (by decide), k2] at k3
  generalize fillKV .none ["dm", "uc", "lc", "tc", "cf", "bm", "bpb", "scx", "nt", "nv", "name", "conf", "nfkc_cf"] D2 = D3 at q3 m3 k3
  obtain ⟨l4, q4, f4⟩ := for_store (f := eTup (lCons (eC (.str "suc")) (lCons (eC (.str "slc")) (lCons (eC (.str "stc")) (lCons (eC (.str "alias")) lNil))))) (e := eTup lNil) (v := .tup []) (l := l3) ["suc", "slc", "stc", "alias"] rfl (fun _ _ => rfl) f3 (hget D3) (by simp at m1 m2 m3 ⊢; omega) (by decide)
  rw [step] at q4
  have m4 := fillKV_len (.tup []) ["suc", "slc", "stc", "alias"] D3
  have k4 := fillKV_lookup (.tup []) "sb" ["suc", "slc", "stc", "alias"] D3
  rw [if_neg (by decide), k3] at k4
  generalize fillKV (.tup []) ["suc", "slc", "stc", "alias"] D3 = D4 at q4 m4 k4
  simp only [List.length_cons, List.length_nil] at m1 m2 m3 m4
  have q5 : xAssign (eTup (lCons (eC (.str "disallowed")) (lCons (eTup lNil) lNil))) (aSub (eN "found") (eC (.str "idna"))) l4 (H ++ [.dict D4]) = some (.next, l4, H ++ [.dict (setKV "idna" (.tup [.str "disallowed", .tup []]) D4)]) := by
    refine x_asg (v := .tup [.str "disallowed", .tup []]) (H1 := H ++ [.dict D4]) rfl ?_
    rw [asub_run (n_run f4) rfl (hget D4) (by omega), step]
  have m5 := setKV_len1 "idna" (.tup [.str "disallowed", .tup []]) D4
  refine ⟨setKV "idna" (.tup [.str "disallowed", .tup []]) D4, ?_, ?_, by omega⟩
  · unfold F_data_defaults
    refine fn_ret rfl ⟨l4, ?_⟩
    rw [hz]
    exact x_next q0 (x_next q1 (x_next q2 (x_next q3 (x_next q4 (x_next q5 (x_ret (x_retv (n_run f4))))))))
  · exact lkn (by decide) k4
end Nt
end
section
open PySem PySem.SeqAt
namespace Nt
structure DA (H : MH) (da dd df mp : Nat) (ml : List (String × MV)) : Prop where
  inst : H[da]? = some (.inst 273 dd)
  attrs : ∃ p w, H[dd]? = some (.attrs [("defaults", .ref df), ("maps", .ref mp), ("properties", p), ("words", w)])
  defs : ∃ dl, H[df]? = some (.dict dl) ∧ dl.lookup "sb" = some (.str "Other")
  maps : H[mp]? = some (.dict ml)
theorem DA.instD {H : MH} {da dd df mp : Nat} {ml : List (String × MV)} (D : DA H da dd df mp ml) : ∃ fs, instD 273 (.ref da) H = some (dd, fs) ∧ fs.lookup "defaults" = some (.ref df) ∧ fs.lookup "maps" = some (.ref mp) ∧ fs.lookup "get" = none ∧ fs.lookup "put" = none ∧ fs.lookup "map_of" = none := by
  obtain ⟨p, w, e⟩ := D.attrs
  exact ⟨_, instC D.inst e, by simp [List.lookup_cons], by simp [List.lookup_cons], by simp [List.lookup_cons], by simp [List.lookup_cons], by simp [List.lookup_cons]⟩
theorem DA.get_maps {H : MH} {da dd df mp : Nat} {ml : List (String × MV)} (D : DA H da dd df mp ml) {l : Loc} (h : l.lookup "self" = some (.ref da)) : eAttr 273 "maps" (eN "self") l H = some (.ref mp, H) := by
  obtain ⟨fs, e, _, e2, _⟩ := D.instD
  exact attrC h e e2 rfl
theorem DA.get_defaults {H : MH} {da dd df mp : Nat} {ml : List (String × MV)} (D : DA H da dd df mp ml) {l : Loc} (h : l.lookup "self" = some (.ref da)) : eAttr 273 "defaults" (eN "self") l H = some (.ref df, H) := by
  obtain ⟨fs, e, e1, _⟩ := D.instD
  exact attrC h e e1 rfl
theorem DA.mono {H H' : MH} {da dd df mp : Nat} {ml : List (String × MV)} (D : DA H da dd df mp ml) (h1 : H'[da]? = H[da]?) (h2 : H'[dd]? = H[dd]?) (h3 : H'[df]? = H[df]?) {ml' : List (String × MV)} (h4 : H'[mp]? = some (.dict ml')) : DA H' da dd df mp ml' :=
  ⟨h1.trans D.inst, by obtain ⟨p, w, e⟩ := D.attrs; exact ⟨p, w, h2.trans e⟩, by obtain ⟨dl, e, e2⟩ := D.defs; exact ⟨dl, h3.trans e, e2⟩, h4⟩
theorem dget_run {H : MH} {f : EvF} {fa : EvLF} {l : Loc} {m : Nat} {dl : List (String × MV)} {x : String} {v : MV} (hf : f l H = some (.ref m, H)) (hm : H[m]? = some (.dict dl)) (ha : fa l H = some ([.str x], H)) (hx : dl.lookup x = some v) : eMethD getF f fa l H = some (v, H) := by
  unfold eMethD
  rw [hf, Option.bind_some]
  dsimp only
  have e : dictD (.ref m) H = some (m, dl) := by unfold dictD; dsimp only; rw [hm]
  rw [e, Option.bind_some, ha, Option.bind_some]
  dsimp only
  unfold getF
  dsimp only
  rw [e, Option.map_some]
  dsimp only
  rw [hx]
  rfl
theorem in_dict {H : MH} {m : Nat} {dl : List (String × MV)} (h : H[m]? = some (.dict dl)) (x : String) : inF (.str x) (.ref m) H = some (dl.lookup x).isSome := by
  unfold inF
  dsimp only
  rw [h]
theorem item_dict {H : MH} {m : Nat} {dl : List (String × MV)} {x : String} {v : MV} (h : H[m]? = some (.dict dl)) (hx : dl.lookup x = some v) : itemF (.ref m) (.str x) H = some v := by
  unfold itemF
  dsimp only
  rw [h]
  exact hx
theorem E_dget0 {H : MH} {da dd df mp : Nat} (D : DA H da dd df mp []) (n : Int) : F_Data_get [.ref da, .str "sb", .int n] H = some (.str "Other", H) := by
  have hz : (["self", "name", "code"].zip [MV.ref da, .str "sb", .int n]).reverse = [("code", .int n), ("name", .str "sb"), ("self", .ref da)] := rfl
  generalize hL0 : ([("code", .int n), ("name", .str "sb"), ("self", .ref da)] : Loc) = L0 at hz
  have s0 : L0.lookup "self" = some (.ref da) := by rw [← hL0]; simp [List.lookup_cons]
  have n0 : L0.lookup "name" = some (.str "sb") := by rw [← hL0]; simp [List.lookup_cons]
  obtain ⟨dl, e, e2⟩ := D.defs
  have t1 : tCmp inF (eN "name") (eAttr 273 "maps" (eN "self")) L0 H = some (false, H) := tCmp_run (n_run n0) (D.get_maps s0) (in_dict D.maps _)
  unfold F_Data_get
  refine fn_ret rfl ⟨L0, ?_⟩
  rw [hz]
  exact x_next (x_if t1 (by rw [if_neg (by decide)]; rfl)) (x_ret (x_retv (dget_run (D.get_defaults s0) e (lcons_run (n_run n0) rfl) e2)))
theorem E_dget1 {H : MH} {da dd df mp rm d s v : Nat} {ps : Tab} {top : Int} {b : Nat} (D : DA H da dd df mp [("sb", .ref rm)]) (R : RM H rm d s v ps) (T : Tb ps top b) (hb : b ≤ 60) {n : Int} (hn : 0 ≤ n) : F_Data_get [.ref da, .str "sb", .int n] H = some (.str (getM ps n), H) := by
  have hz : (["self", "name", "code"].zip [MV.ref da, .str "sb", .int n]).reverse = [("code", .int n), ("name", .str "sb"), ("self", .ref da)] := rfl
  generalize hL0 : ([("code", .int n), ("name", .str "sb"), ("self", .ref da)] : Loc) = L0 at hz
  have s0 : L0.lookup "self" = some (.ref da) := by rw [← hL0]; simp [List.lookup_cons]
  have n0 : L0.lookup "name" = some (.str "sb") := by rw [← hL0]; simp [List.lookup_cons]
  have c0 : L0.lookup "code" = some (.int n) := by rw [← hL0]; simp [List.lookup_cons]
  have hx : ([("sb", MV.ref rm)] : List (String × MV)).lookup "sb" = some (.ref rm) := by simp [List.lookup_cons]
  have t1 : tCmp inF (eN "name") (eAttr 273 "maps" (eN "self")) L0 H = some (true, H) := tCmp_run (n_run n0) (D.get_maps s0) (by rw [in_dict D.maps, hx]; rfl)
  unfold F_Data_get
  refine fn_ret rfl ⟨L0, ?_⟩
  rw [hz]
  refine x_ret (x_if t1 ?_)
  rw [if_pos rfl]
  exact x_ret (x_retv (methI_run (o := .ref rm) (H1 := H) (sub_run (D.get_maps s0) (n_run n0) (item_dict D.maps hx)) R.instD (by simp [List.lookup_cons]) (lcons_run (n_run c0) rfl) (E_rget R T hb hn)))
set_option maxHeartbeats 2000000 in
theorem E_rnew (H : MH) : newF 224 F_RangeMap___init__ [.str "Other"] H = some (.ref (H.length + 1), H ++ [.attrs [("default", .str "Other"), ("starts", .ref (H.length + 2)), ("values", .ref (H.length + 3))], .inst 224 H.length, .list [.int 0], .list [.str "Other"]]) := by
  have key : F_RangeMap___init__ (.ref (H.length + 1) :: [.str "Other"]) (H ++ [.attrs [], .inst 224 H.length]) = some (.none, H ++ [.attrs [("default", .str "Other"), ("starts", .ref (H.length + 2)), ("values", .ref (H.length + 3))], .inst 224 H.length, .list [.int 0], .list [.str "Other"]]) := by
    have hz : (["self", "default"].zip [MV.ref (H.length + 1), .str "Other"]).reverse = [("default", .str "Other"), ("self", .ref (H.length + 1))] := rfl
    generalize hL0 : ([("default", .str "Other"), ("self", .ref (H.length + 1))] : Loc) = L0 at hz
    have s0 : L0.lookup "self" = some (.ref (H.length + 1)) := by rw [← hL0]; simp [List.lookup_cons]
    have d0 : L0.lookup "default" = some (.str "Other") := by rw [← hL0]; simp [List.lookup_cons]
    have put : ∀ (fs : List (String × MV)) (X : MH) (x : String) (v : MV) (fs' : List (String × MV)), fs.length ≤ 1000 → setKV x v fs = fs' → aAttr 224 x (eN "self") v L0 (H ++ (.attrs fs :: .inst 224 H.length :: X)) = some (L0, H ++ (.attrs fs' :: .inst 224 H.length :: X)) := by
      intro fs X x v fs' hl he
      have hi := instC (C := 224) (H := H ++ (.attrs fs :: .inst 224 H.length :: X)) (sr := H.length + 1) (a := H.length) (fs := fs) (by simp) (by simp)
      rw [putC s0 hi hl, he]
      simp
    unfold F_RangeMap___init__
    refine fn_end rfl ⟨L0, ?_⟩
    rw [hz]
    refine x_next (x_asg (v := .str "Other") (H1 := H ++ [.attrs [], .inst 224 H.length]) (n_run d0) (put [] [] "default" (.str "Other") [("default", .str "Other")] (by simp) (by simp [setKV]))) ?_
    refine x_next (x_asg (v := .ref (H.length + 2)) (H1 := H ++ [.attrs [("default", .str "Other")], .inst 224 H.length, .list [.int 0]]) ?_ (put [("default", .str "Other")] [.list [.int 0]] "starts" (.ref (H.length + 2)) [("default", .str "Other"), ("starts", .ref (H.length + 2))] (by simp) (by simp [setKV]))) ?_
    · unfold eLst
      rw [lcons_run (v := .int 0) (vs := []) (H1 := H ++ [.attrs [("default", .str "Other")], .inst 224 H.length]) rfl rfl, Option.bind_some, if_pos (by simp)]
      simp
    refine x_next (x_asg (v := .ref (H.length + 3)) (H1 := H ++ [.attrs [("default", .str "Other"), ("starts", .ref (H.length + 2))], .inst 224 H.length, .list [.int 0], .list [.str "Other"]]) ?_ (put [("default", .str "Other"), ("starts", .ref (H.length + 2))] [.list [.int 0], .list [.str "Other"]] "values" (.ref (H.length + 3)) [("default", .str "Other"), ("starts", .ref (H.length + 2)), ("values", .ref (H.length + 3))] (by simp) (by simp [setKV]))) ?_
    · unfold eLst
      have e3 : lCons (eN "default") lNil L0 (H ++ [MO.attrs [("default", .str "Other"), ("starts", .ref (H.length + 2))], MO.inst 224 H.length, MO.list [.int 0]]) = some ([.str "Other"], H ++ [MO.attrs [("default", .str "Other"), ("starts", .ref (H.length + 2))], MO.inst 224 H.length, MO.list [.int 0]]) := lcons_run (n_run d0) rfl
      rw [e3, Option.bind_some, if_pos (by simp)]
      simp
    · rfl
  unfold newF
  rw [key]
  rfl
theorem RM.new (H : MH) : RM (H ++ [MO.attrs [("default", .str "Other"), ("starts", .ref (H.length + 2)), ("values", .ref (H.length + 3))], MO.inst 224 H.length, MO.list [.int 0], MO.list [.str "Other"]]) (H.length + 1) H.length (H.length + 2) (H.length + 3) [(0, "Other")] := ⟨by simp, by simp, by simp, by simp⟩
theorem E_mapof0 {H : MH} {da dd df mp : Nat} (D : DA H da dd df mp []) : F_Data_map_of [.ref da, .str "sb"] H = some (.ref (H.length + 1), (H ++ [MO.attrs [("default", .str "Other"), ("starts", .ref (H.length + 2)), ("values", .ref (H.length + 3))], MO.inst 224 H.length, MO.list [.int 0], MO.list [.str "Other"]]).set mp (.dict [("sb", .ref (H.length + 1))])) := by
  have hz : (["self", "name"].zip [MV.ref da, .str "sb"]).reverse = [("name", .str "sb"), ("self", .ref da)] := rfl
  generalize hL0 : ([("name", .str "sb"), ("self", .ref da)] : Loc) = L0 at hz
  have s0 : L0.lookup "self" = some (.ref da) := by rw [← hL0]; simp [List.lookup_cons]
  have n0 : L0.lookup "name" = some (.str "sb") := by rw [← hL0]; simp [List.lookup_cons]
  obtain ⟨dl, e, e2⟩ := D.defs
  have hml : mp < H.length := (List.getElem?_eq_some_iff.mp D.maps).1
  have hne : df ≠ mp := by
    rintro rfl
    have := D.maps
    rw [e] at this
    cases this
    cases e2
  have t1 : tCmp notInF (eN "name") (eAttr 273 "maps" (eN "self")) L0 H = some (true, H) := tCmp_run (n_run n0) (D.get_maps s0) (by rw [notIn_eq, in_dict D.maps]; rfl)
  have E := Ex'.app H [MO.attrs [("default", .str "Other"), ("starts", .ref (H.length + 2)), ("values", .ref (H.length + 3))], MO.inst 224 H.length, MO.list [.int 0], MO.list [.str "Other"]]
  have r1 := E_rnew H
  generalize H ++ [MO.attrs [("default", .str "Other"), ("starts", .ref (H.length + 2)), ("values", .ref (H.length + 3))], MO.inst 224 H.length, MO.list [.int 0], MO.list [.str "Other"]] = H1 at E r1
  have D1 : DA H1 da dd df mp [] := D.mono (E.old _ (List.getElem?_eq_some_iff.mp D.inst).1) (E.old _ (by obtain ⟨p, w, q⟩ := D.attrs; exact (List.getElem?_eq_some_iff.mp q).1)) (E.old _ (List.getElem?_eq_some_iff.mp e).1) (E.get D.maps)
  have q1 : xAssign (eCall (newF 224 F_RangeMap___init__) (lCons (eMethD getF (eAttr 273 "defaults" (eN "self")) (lCons (eN "name") lNil)) lNil)) (aSub (eAttr 273 "maps" (eN "self")) (eN "name")) L0 H = some (.next, L0, H1.set mp (.dict (setKV "sb" (.ref (H.length + 1)) []))) := x_asg (call_run (l := L0) (lcons_run (dget_run (D.get_defaults s0) e (lcons_run (n_run n0) rfl) e2) rfl) r1) (asub_run (x := "sb") (g := eN "name") (v := .ref (H.length + 1)) (D1.get_maps s0) (n_run n0) D1.maps (by simp))
  have hs : setKV "sb" (.ref (H.length + 1)) [] = [("sb", MV.ref (H.length + 1))] := rfl
  rw [hs] at q1
  have hl1 := E.len
  have hm2 : (H1.set mp (.dict [("sb", .ref (H.length + 1))]))[mp]? = some (.dict [("sb", .ref (H.length + 1))]) := List.getElem?_set_self (by omega)
  have D2 : DA (H1.set mp (.dict [("sb", .ref (H.length + 1))])) da dd df mp [("sb", .ref (H.length + 1))] := by
    refine D1.mono ?_ ?_ ?_ hm2
    · refine List.getElem?_set_ne ?_
      rintro rfl
      have := D.inst
      rw [D.maps] at this
      cases this
    · refine List.getElem?_set_ne ?_
      rintro rfl
      obtain ⟨p, w, q⟩ := D.attrs
      rw [D.maps] at q
      cases q
    · exact List.getElem?_set_ne (Ne.symm hne)
  unfold F_Data_map_of
  refine fn_ret rfl ⟨L0, ?_⟩
  rw [hz]
  refine x_next (x_if t1 (by rw [if_pos rfl]; exact x_next q1 rfl)) (x_ret (x_retv (sub_run (D2.get_maps s0) (n_run n0) (item_dict D2.maps (by simp [List.lookup_cons])))))
theorem E_mapof1 {H : MH} {da dd df mp rm : Nat} (D : DA H da dd df mp [("sb", .ref rm)]) : F_Data_map_of [.ref da, .str "sb"] H = some (.ref rm, H) := by
  have hz : (["self", "name"].zip [MV.ref da, .str "sb"]).reverse = [("name", .str "sb"), ("self", .ref da)] := rfl
  generalize hL0 : ([("name", .str "sb"), ("self", .ref da)] : Loc) = L0 at hz
  have s0 : L0.lookup "self" = some (.ref da) := by rw [← hL0]; simp [List.lookup_cons]
  have n0 : L0.lookup "name" = some (.str "sb") := by rw [← hL0]; simp [List.lookup_cons]
  have hx : ([("sb", MV.ref rm)] : List (String × MV)).lookup "sb" = some (.ref rm) := by simp [List.lookup_cons]
  have t1 : tCmp notInF (eN "name") (eAttr 273 "maps" (eN "self")) L0 H = some (false, H) := tCmp_run (n_run n0) (D.get_maps s0) (by rw [notIn_eq, in_dict D.maps, hx]; rfl)
  unfold F_Data_map_of
  refine fn_ret rfl ⟨L0, ?_⟩
  rw [hz]
  exact x_next (x_if t1 (by rw [if_neg (by decide)]; rfl)) (x_ret (x_retv (sub_run (D.get_maps s0) (n_run n0) (item_dict D.maps hx))))
end Nt
end
section
open PySem PySem.SeqAt
namespace Nt
set_option maxHeartbeats 2000000 in
theorem E_dnew (H : MH) : ∃ X, newF 273 F_Data___init__ [] H = some (.ref (H.length + 1), H ++ X) ∧ X.length = 6 ∧ DA (H ++ X) (H.length + 1) H.length (H.length + 2) (H.length + 3) [] := by
  obtain ⟨dl, e, e1, e2⟩ := E_defaults (H ++ [.attrs [], .inst 273 H.length])
  have hl2 : (H ++ [MO.attrs [], MO.inst 273 H.length]).length = H.length + 2 := by simp
  rw [hl2] at e
  have key : F_Data___init__ (.ref (H.length + 1) :: []) (H ++ [.attrs [], .inst 273 H.length]) = some (.none, H ++ [.attrs [("defaults", .ref (H.length + 2)), ("maps", .ref (H.length + 3)), ("properties", .ref (H.length + 4)), ("words", .ref (H.length + 5))], .inst 273 H.length, .dict dl, .dict [], .dict [], .dict []]) := by
    have hz : (["self"].zip [MV.ref (H.length + 1)]).reverse = [("self", .ref (H.length + 1))] := rfl
    generalize hL0 : ([("self", .ref (H.length + 1))] : Loc) = L0 at hz
    have s0 : L0.lookup "self" = some (.ref (H.length + 1)) := by rw [← hL0]; simp [List.lookup_cons]
    have put : ∀ (fs : List (String × MV)) (X : MH) (x : String) (v : MV) (fs' : List (String × MV)), fs.length ≤ 1000 → setKV x v fs = fs' → aAttr 273 x (eN "self") v L0 (H ++ (.attrs fs :: .inst 273 H.length :: X)) = some (L0, H ++ (.attrs fs' :: .inst 273 H.length :: X)) := by
      intro fs X x v fs' hl he
      have hi := instC (C := 273) (H := H ++ (.attrs fs :: .inst 273 H.length :: X)) (sr := H.length + 1) (a := H.length) (fs := fs) (by simp) (by simp)
      rw [putC s0 hi hl, he]
      simp
    have d0 : ∀ (fs : List (String × MV)) (X : MH) (n : Nat), H.length + 2 + X.length = n → eDict0 L0 (H ++ (.attrs fs :: .inst 273 H.length :: X)) = some (.ref n, H ++ (.attrs fs :: .inst 273 H.length :: (X ++ [.dict []]))) := by
      intro fs X n hn
      subst hn
      unfold eDict0
      simp
      omega
    unfold F_Data___init__
    refine fn_end rfl ⟨L0, ?_⟩
    rw [hz]
    refine x_next (x_asg (v := .ref (H.length + 2)) (H1 := H ++ [.attrs [], .inst 273 H.length, .dict dl]) (call_run (l := L0) rfl (by rw [e]; simp)) (put [] [.dict dl] "defaults" (.ref (H.length + 2)) [("defaults", .ref (H.length + 2))] (by simp) (by simp [setKV]))) ?_
    refine x_next (x_asg (d0 _ [.dict dl] (H.length + 3) rfl) (put _ [.dict dl, .dict []] "maps" (.ref (H.length + 3)) [("defaults", .ref (H.length + 2)), ("maps", .ref (H.length + 3))] (by simp) (by simp [setKV]))) ?_
    refine x_next (x_asg (d0 _ [.dict dl, .dict []] (H.length + 4) rfl) (put _ [.dict dl, .dict [], .dict []] "properties" (.ref (H.length + 4)) [("defaults", .ref (H.length + 2)), ("maps", .ref (H.length + 3)), ("properties", .ref (H.length + 4))] (by simp) (by simp [setKV]))) ?_
    refine x_next (x_asg (d0 _ [.dict dl, .dict [], .dict []] (H.length + 5) rfl) (put _ [.dict dl, .dict [], .dict [], .dict []] "words" (.ref (H.length + 5)) [("defaults", .ref (H.length + 2)), ("maps", .ref (H.length + 3)), ("properties", .ref (H.length + 4)), ("words", .ref (H.length + 5))] (by simp) (by simp [setKV]))) ?_
    rfl
  refine ⟨[.attrs [("defaults", .ref (H.length + 2)), ("maps", .ref (H.length + 3)), ("properties", .ref (H.length + 4)), ("words", .ref (H.length + 5))], .inst 273 H.length, .dict dl, .dict [], .dict [], .dict []], ?_, ?_, ?_⟩
  · unfold newF
    rw [key]
    rfl
  · rfl
  · exact ⟨by simp, ⟨_, _, by simp; exact ⟨rfl, rfl⟩⟩, ⟨dl, by simp, e1⟩, by simp⟩
noncomputable def DState (H : MH) (L da mp N : Nat) (top : Int) (b : Nat) (f : Int → String) : Prop :=
  ∃ dd df ml, DA H da dd df mp ml ∧ N ≤ H.length ∧ (L ≤ da ∧ da < N) ∧ (L ≤ dd ∧ dd < N) ∧ (L ≤ df ∧ df < N) ∧ (L ≤ mp ∧ mp < N) ∧ ((ml = [] ∧ ∀ n, f n = "Other") ∨ ∃ rm d s v ps, ml = [("sb", .ref rm)] ∧ (N ≤ rm ∧ N ≤ d ∧ N ≤ s ∧ N ≤ v) ∧ RM H rm d s v ps ∧ Tb ps top b ∧ ∀ n, f n = getM ps n)
noncomputable def fput (f : Int → String) (c : Int) (k : String) : Int → String := fun n => if n < c then f n else if n = c then k else "Other"
theorem DState.turn {H H' : MH} {L da mp N : Nat} {top : Int} {b : Nat} {f : Int → String} (D : DState H L da mp N top b f) (h : ∀ j, L ≤ j → j < H.length → H'[j]? = H[j]?) (hl : N ≤ H'.length) : DState H' L da mp N top b f := by
  have get : ∀ {j : Nat} {o : MO}, L ≤ j → H[j]? = some o → H'[j]? = some o := fun w q => (h _ w (List.getElem?_eq_some_iff.mp q).1).trans q
  obtain ⟨dd, df, ml, D, h1, h2, h3, h4, h5, h6⟩ := D
  refine ⟨dd, df, ml, D.mono (h _ h2.1 (by omega)) (h _ h3.1 (by omega)) (h _ h4.1 (by omega)) (get h5.1 D.maps), hl, h2, h3, h4, h5, ?_⟩
  rcases h6 with h6 | ⟨rm, d, s, v, ps, e, g1, g2, g3⟩
  · exact .inl h6
  · exact .inr ⟨rm, d, s, v, ps, e, g1, ⟨get (by omega) g2.inst, get (by omega) g2.attrs, get (by omega) g2.starts, get (by omega) g2.values⟩, g3⟩
theorem DState.ex {H H' : MH} {L da mp N : Nat} {top : Int} {b : Nat} {f : Int → String} (D : DState H L da mp N top b f) (E : Ex' H H') : DState H' L da mp N top b f :=
  D.turn (fun j _ hj => E.old j hj) (by obtain ⟨_, _, _, _, h, _⟩ := D; exact Nat.le_trans h E.len)
theorem DState.more {H : MH} {L da mp N : Nat} {top top' : Int} {b b' : Nat} {f f' : Int → String} (D : DState H L da mp N top b f) (ht : top ≤ top') (hb : b ≤ b') (hf : ∀ n, f' n = f n) : DState H L da mp N top' b' f' := by
  obtain ⟨dd, df, ml, D, h1, h2, h3, h4, h5, h6⟩ := D
  refine ⟨dd, df, ml, D, h1, h2, h3, h4, h5, ?_⟩
  rcases h6 with ⟨h6, h7⟩ | ⟨rm, d, s, v, ps, e, g1, g2, g3, g4⟩
  · exact .inl ⟨h6, fun n => (hf n).trans (h7 n)⟩
  · exact .inr ⟨rm, d, s, v, ps, e, g1, g2, ⟨g3.up, g3.zero, fun p hp => Int.le_trans (g3.le p hp) ht, Nat.le_trans g3.len hb⟩, fun n => (hf n).trans (g4 n)⟩
theorem DState.get {H : MH} {L da mp N : Nat} {top : Int} {b : Nat} {f : Int → String} (D : DState H L da mp N top b f) (hb : b ≤ 60) : (∀ n, 0 ≤ n → F_Data_get [.ref da, .str "sb", .int n] H = some (.str (f n), H)) ∧ ∃ a fs, instD 273 (.ref da) H = some (a, fs) ∧ fs.lookup "get" = none := by
  obtain ⟨dd, df, ml, D, h1, h2, h3, h4, h5, h6⟩ := D
  refine ⟨fun n hn => ?_, ?_⟩
  · rcases h6 with ⟨rfl, hf⟩ | ⟨rm, d, s, v, ps, rfl, g1, g2, g3, g4⟩
    · rw [hf, E_dget0 D]
    · rw [g4, E_dget1 D g2 g3 hb hn]
  · obtain ⟨fs, e, _, _, e4, _⟩ := D.instD
    exact ⟨dd, fs, e, e4⟩
theorem E_dput {H : MH} {L da mp N : Nat} {top : Int} {b : Nat} {f : Int → String} (D : DState H L da mp N top b f) (hb : b ≤ 48) (hb1 : 1 ≤ b) (h0 : 0 ≤ top) {c : Int} {k : String} (hc : 0 < c) (hm : c < 1114111) (ht : top ≤ c) (h1 : f (c + 1) = "Other") (h2 : f (c - 1) ≠ k) (h3 : k ≠ "Other") :
    ∃ H', F_Data_put [.ref da, .str "sb", .int c, .int c, .str k] H = some (.none, H') ∧ DState H' L da mp N (c + 1) (b + 2) (fput f c k) ∧ H.length ≤ H'.length ∧ (∀ j, j < N → j ≠ mp → H'[j]? = H[j]?) := by
  have hz : (["self", "name", "first", "last", "value"].zip [MV.ref da, .str "sb", .int c, .int c, .str k]).reverse = [("value", .str k), ("last", .int c), ("first", .int c), ("name", .str "sb"), ("self", .ref da)] := rfl
  generalize hL0 : ([("value", .str k), ("last", .int c), ("first", .int c), ("name", .str "sb"), ("self", .ref da)] : Loc) = L0 at hz
  have s0 : L0.lookup "self" = some (.ref da) := by rw [← hL0]; simp [List.lookup_cons]
  have n0 : L0.lookup "name" = some (.str "sb") := by rw [← hL0]; simp [List.lookup_cons]
  have v0 : L0.lookup "value" = some (.str k) := by rw [← hL0]; simp [List.lookup_cons]
  have f0 : L0.lookup "first" = some (.int c) := by rw [← hL0]; simp [List.lookup_cons]
  have l0 : L0.lookup "last" = some (.int c) := by rw [← hL0]; simp [List.lookup_cons]
  obtain ⟨dd, df, ml, D, g1, g2, g3, g4, g5, g6⟩ := D
  obtain ⟨fs, i1, _, _, _, _, i2⟩ := D.instD
  -- the second half, from a range map that stands
  have half : ∀ (H1 : MH) (rm d s v : Nat) (ps : Tab), DA H1 da dd df mp [("sb", .ref rm)] → (N ≤ rm ∧ N ≤ d ∧ N ≤ s ∧ N ≤ v) → RM H1 rm d s v ps → Tb ps top b → (∀ n, f n = getM ps n) → F_Data_map_of [.ref da, .str "sb"] H = some (.ref rm, H1) →
      H.length ≤ H1.length → (∀ j, j < N → j ≠ mp → H1[j]? = H[j]?) → ∃ H', F_Data_put [.ref da, .str "sb", .int c, .int c, .str k] H = some (.none, H') ∧ DState H' L da mp N (c + 1) (b + 2) (fput f c k) ∧ H.length ≤ H'.length ∧ (∀ j, j < N → j ≠ mp → H'[j]? = H[j]?) := by
    intro H1 rm d s v ps D1 a6 R T hf hmo hl ho
    obtain ⟨H', s', v', e1, e2, e3, e4, e5, e6⟩ := E_rput R T (by omega) hc hm ht (by rw [← hf]; exact h1) (by rw [← hf]; exact h2) h3
    refine ⟨H', ?_, ⟨dd, df, [("sb", .ref rm)], D1.mono (e4 _ (by omega) (by omega)) (e4 _ (by omega) (by omega)) (e4 _ (by omega) (by omega)) ((e4 _ (by omega) (by omega)).trans D1.maps), by omega, g2, g3, g4, g5, .inr ⟨rm, d, s', v', putM ps c k, rfl, ⟨a6.1, a6.2.1, by omega, by omega⟩, e2, T.put k hc, fun n => ?_⟩⟩, by omega, fun j hj hn => (e4 j (by omega) (by omega)).trans (ho j hj hn)⟩
    · unfold F_Data_put
      refine fn_end rfl ⟨L0, ?_⟩
      rw [hz]
      refine x_next (x_exp (methI_run (o := .ref rm) (H1 := H1) (methI_run (o := .ref da) (H1 := H) (n_run s0) i1 i2 (lcons_run (n_run n0) rfl) hmo) R.instD (by simp [List.lookup_cons]) (lcons_run (n_run f0) (lcons_run (n_run l0) (lcons_run (n_run v0) rfl))) e1)) rfl
    · rw [get_put, ← hf]; rfl
  rcases g6 with ⟨rfl, hf⟩ | ⟨rm, d, s, v, ps, rfl, a6, R, T, hf⟩
  · have r1 := E_mapof0 D
    have E := Ex'.app H [MO.attrs [("default", .str "Other"), ("starts", .ref (H.length + 2)), ("values", .ref (H.length + 3))], MO.inst 224 H.length, MO.list [.int 0], MO.list [.str "Other"]]
    have R1 := RM.new H
    have hlen : (H ++ [MO.attrs [("default", .str "Other"), ("starts", .ref (H.length + 2)), ("values", .ref (H.length + 3))], MO.inst 224 H.length, MO.list [.int 0], MO.list [.str "Other"]]).length = H.length + 4 := by simp
    generalize H ++ [MO.attrs [("default", .str "Other"), ("starts", .ref (H.length + 2)), ("values", .ref (H.length + 3))], MO.inst 224 H.length, MO.list [.int 0], MO.list [.str "Other"]] = H1 at r1 E R1 hlen
    have n1 : da ≠ mp := by
      rintro rfl
      have := D.inst
      rw [D.maps] at this
      cases this
    have n2 : dd ≠ mp := by
      rintro rfl
      obtain ⟨p, w, q⟩ := D.attrs
      rw [D.maps] at q
      cases q
    have n3 : df ≠ mp := by
      rintro rfl
      obtain ⟨dl, e, e2⟩ := D.defs
      have := D.maps
      rw [e] at this
      cases this
      cases e2
    have old : ∀ j, j < N → j ≠ mp → (H1.set mp (.dict [("sb", .ref (H.length + 1))]))[j]? = H[j]? := fun j hj hn => by rw [List.getElem?_set_ne (Ne.symm hn), E.old j (by omega)]
    have new : ∀ j, H.length ≤ j → (H1.set mp (.dict [("sb", .ref (H.length + 1))]))[j]? = H1[j]? := fun j hj => List.getElem?_set_ne (by omega)
    refine half _ (H.length + 1) H.length (H.length + 2) (H.length + 3) [(0, "Other")] (D.mono (old _ g2.2 n1) (old _ g3.2 n2) (old _ g4.2 n3) (List.getElem?_set_self (by omega))) (by omega) ⟨(new _ (by omega)).trans R1.inst, (new _ (by omega)).trans R1.attrs, (new _ (by omega)).trans R1.starts, (new _ (by omega)).trans R1.values⟩ ⟨List.pairwise_singleton _ _, ⟨"Other", [], rfl⟩, ?_, hb1⟩ ?_ r1 (by rw [List.length_set]; omega) old
    · intro p hp
      simp at hp
      subst hp
      exact h0
    · intro n
      rw [hf]
      unfold getM
      by_cases q : (0 : Int) ≤ n
      · simp [List.filter_cons, q]
      · simp [List.filter_cons, q]
  · exact half H rm d s v ps D a6 R T hf (E_mapof1 D) (Nat.le_refl _) (fun _ _ _ => rfl)
end Nt
end
section
open PySem PySem.SeqAt
namespace Nt
theorem pick_mem {l : List MV} {lo hi st : Option Int} {v : MV} (h : v ∈ pickS l lo hi st) : v ∈ l := by
  unfold pickS at h
  obtain ⟨i, _, hi⟩ := List.mem_filterMap.mp h
  exact List.mem_of_getElem? hi
theorem ints_of {xs : List Int} : ∀ {L : List MV}, (∀ v ∈ L, v ∈ xs.map MV.int) → ∃ cs : List Int, L = cs.map .int
  | [], _ => ⟨[], rfl⟩
  | v :: L, h => by
    obtain ⟨cs, e⟩ := ints_of (L := L) fun w hw => h w (List.mem_cons_of_mem _ hw)
    obtain ⟨c, _, rfl⟩ := List.mem_map.mp (h v (List.mem_cons_self ..))
    exact ⟨c :: cs, by rw [e]; rfl⟩
theorem pick_upto_len (l : List MV) (b : Nat) : (pickS l none (some (b : Int)) none).length ≤ b := by
  unfold pickS
  refine Nat.le_trans (List.length_filterMap_le _ _) ?_
  refine sliceRange_length_le _ _ _ b ?_ ?_
  · intro _
    simp [sliceBounds]
    omega
  · intro h
    exact absurd (by simp [sliceBounds] : (sliceBounds none (some (b : Int)) none l.length).2.2 > 0) h
theorem pick_rev_len (l : List MV) : (pickS l none none (some (-1))).length ≤ l.length := by
  unfold pickS
  refine Nat.le_trans (List.length_filterMap_le _ _) ?_
  refine sliceRange_length_le _ _ _ l.length ?_ ?_
  · intro h
    exact absurd h (by simp [sliceBounds])
  · intro _
    simp [sliceBounds]
structure Deck (H : MH) (dk cl t : Nat) : Prop where
  dict : ∃ m : Int, H[dk]? = some (.dict [("cells", .ref cl), ("mixed", .int m), ("turn", .int (t : Int))])
  cells : ∃ cs : List Int, H[cl]? = some (.list (cs.map .int)) ∧ cs.length ≤ 24
theorem mul_run {i j : Int} {H : MH} (h1 : -(2 ^ 64) < j) (h2 : j < 2 ^ 64) : intB mulF (.int i) (.int j) H = some (.int (i * j), H) := by
  unfold intB mulF
  dsimp only
  rw [if_pos ⟨h1, h2⟩]
  rfl
theorem mod_run {i j : Int} {H : MH} (h : j ≠ 0) : intB modF (.int i) (.int j) H = some (.int (i.fmod j), H) := by
  unfold intB modF
  dsimp only
  rw [if_neg h]
  rfl
theorem div_run {i j : Int} {H : MH} (h1 : 0 < j) (h2 : j < 1073741824) : intB divF (.int i) (.int j) H = some (.int (i.fdiv j), H) := by
  unfold intB divF
  dsimp only
  rw [if_pos ⟨h1, h2⟩]
  rfl
set_option maxHeartbeats 2000000 in
theorem E_deck (ns : List Int) (hn : ns.length ≤ 63) (H : MH) : ∃ dk cl H', F_law_deck [.lst (ns.map .int)] H = some (.ref dk, H') ∧ Deck H' dk cl 0 := by
  have hz : (["script"].zip [MV.lst (ns.map .int)]).reverse = [("script", .lst (ns.map .int))] := rfl
  generalize hL0 : ([("script", .lst (ns.map .int))] : Loc) = L0 at hz
  have s0 : L0.lookup "script" = some (.lst (ns.map .int)) := by rw [← hL0]; simp [List.lookup_cons]
  obtain ⟨cs, hcs⟩ := ints_of (xs := ns) (L := pickS (ns.map .int) none (some ((24 : Nat) : Int)) none) (fun v hv => pick_mem hv)
  have hcl := pick_upto_len (ns.map .int) 24
  rw [hcs, List.length_map] at hcl
  have e1 : eSlice (eN "script") pNo (pSo (eC (.int 24))) pNo L0 H = some (.ref H.length, H ++ [.list (cs.map .int)]) := by
    unfold eSlice
    rw [n_run s0]
    show (if (ns.map MV.int).length ≤ 1000 ∧ (none : Option Int) ≠ some 0 then some (MV.ref H.length, H ++ [.list (pickS (ns.map .int) none (some 24) none)]) else none) = _
    rw [if_pos ⟨by rw [List.length_map]; omega, by simp⟩]
    have : (24 : Int) = ((24 : Nat) : Int) := rfl
    rw [this, hcs]
  have m1 : (H ++ [MO.list (cs.map .int)])[H.length]? = some (.list (cs.map .int)) := by simp
  generalize H ++ [MO.list (cs.map .int)] = H1 at e1 m1
  obtain ⟨H2, c1, c2, c3⟩ := comp_run (fs := []) (x := "cell") (t := tTrue) (g := eCall intF (lCons (eN "cell") lNil)) (items := cs.map .int) (fun _ => true) id e1 (iterOk_list m1) (by rw [List.length_map]; omega)
    (fun Hx i hE => iter_list m1 hE i)
    (fun i v Hx lx _ _ _ => ⟨Hx, rfl, Ex'.refl Hx⟩)
    (fun i v Hx lx hv _ _ _ => by
      rw [List.getElem?_map] at hv
      obtain ⟨y, _, rfl⟩ := Option.map_eq_some_iff.mp hv
      exact ⟨Hx, call_run (lcons_run (n_run (v := .int y) (by first | exact lke | exact lkn (by decide) lke | simp [lookup_setKV])) rfl) rfl, Ex'.refl Hx⟩)
  rw [filter_all, List.map_id] at c3
  generalize H1.length = cl at c1 c3
  generalize hL1 : setKV "cells" (.ref cl) (setKV "mixed" (.int 6617) L0) = L1
  have q1 : xAssign (eTup (lCons (eComp (eSlice (eN "script") pNo (pSo (eC (.int 24))) pNo) [] (aN "cell") tTrue (eCall intF (lCons (eN "cell") lNil)) FU) (lCons (eC (.int 6617)) lNil))) (aRev ["cells", "mixed"]) L0 H = some (.next, L1, H2) :=
    x_asg (tup_run (lcons_run c1 rfl) (by simp)) (by rw [← hL1]; rfl)
  have k1 : L1.lookup "cells" = some (.ref cl) := by rw [← hL1]; first | exact lke | exact lkn (by decide) lke | simp [lookup_setKV]
  have x1 : L1.lookup "mixed" = some (.int 6617) := by rw [← hL1]; first | exact lke | exact lkn (by decide) lke | simp [lookup_setKV]
  obtain ⟨L2, H3, q2, q3, ⟨mx, q4⟩, q5⟩ := for_list (src := .ref cl) (a := aN "cell") (g := xCons (xAssign (eBin (intB modF) (eBin addF (eBin addF (eBin (intB mulF) (eN "mixed") (eC (.int 48271))) (eBin (intB modF) (eN "cell") (eC (.int 2147483629)))) (eC (.int 6617))) (eC (.int 2147483587))) (aN "mixed")) xNil) (cs.map MV.int)
    (fun i lx Hx => lx.lookup "cells" = some (.ref cl) ∧ (∃ m : Int, lx.lookup "mixed" = some (.int m)) ∧ Hx = H2)
    (fun i lx Hx hC => by obtain ⟨_, _, rfl⟩ := hC; exact iter_list c3 (Ex'.refl _) i)
    (fun i w lx Hx hw hC => by
      obtain ⟨a1, ⟨m, a2⟩, rfl⟩ := hC
      rw [List.getElem?_map] at hw
      obtain ⟨y, _, rfl⟩ := Option.map_eq_some_iff.mp hw
      refine ⟨setKV "cell" (.int y) lx, Hx, _, Hx, rfl, x_next (x_asg (bin_run (bin_run (bin_run (bin_run (n_run (v := .int m) (by exact lkn (by decide) a2)) rfl (mul_run (by decide) (by decide))) (bin_run (n_run (v := .int y) (by first | exact lke | exact lkn (by decide) lke | simp [lookup_setKV])) rfl (mod_run (by decide))) (add_int _ _ _)) rfl (add_int _ _ _)) rfl (mod_run (by decide))) rfl) rfl, ?_, ?_, rfl⟩
      · exact lkn (by decide) (lkn (by decide) a1)
      · exact ⟨_, by rw [lookup_setKV, if_pos rfl]⟩)
    (cs.map MV.int).length 0 FU L1 H2 (by simp) (Nat.zero_le _) (by rw [List.length_map]; unfold FU; omega) ⟨k1, ⟨_, x1⟩, rfl⟩
  subst q5
  have q6 := for_run (f := eN "cells") (n_run k1) (iterOk_list c3) q2
  -- the dict
  obtain ⟨rs, hrs⟩ := ints_of (xs := cs) (L := pickS (cs.map .int) none none (some (-1))) (fun v hv => pick_mem hv)
  have hrl := pick_rev_len (cs.map .int)
  rw [hrs, List.length_map, List.length_map] at hrl
  have e2 : eSlice (eN "cells") pNo pNo (pSo (eNeg (eC (.int 1)))) L2 (H3 ++ [.dict []]) = some (.ref (H3.length + 1), H3 ++ [.dict [], .list (rs.map .int)]) := by
    have ha : anyL (.ref cl) (H3 ++ [.dict []]) = some (cs.map .int) := by unfold anyL; dsimp only; rw [(Ex'.app H3 [MO.dict []]).get c3]
    unfold eSlice
    rw [n_run q3]
    show (anyL (.ref cl) (H3 ++ [.dict []])).bind _ = _
    rw [ha, Option.bind_some]
    rw [if_pos ⟨by rw [List.length_map]; omega, by show (some (-1 : Int)) ≠ some 0; decide⟩]
    show some (MV.ref (H3 ++ [MO.dict []]).length, (H3 ++ [MO.dict []]) ++ [MO.list (pickS (cs.map .int) none none (some (-1)))]) = _
    rw [hrs]
    simp
  have e3 : dCons "cells" (eSlice (eN "cells") pNo pNo (pSo (eNeg (eC (.int 1))))) (dCons "mixed" (eN "mixed") (dCons "turn" (eC (.int 0)) dNil)) L2 (H3 ++ [.dict []]) = some ([("cells", .ref (H3.length + 1)), ("mixed", .int mx), ("turn", .int 0)], H3 ++ [.dict [], .list (rs.map .int)]) := by
    unfold dCons
    rw [e2, Option.bind_some]
    dsimp only
    rw [n_run q4]
    rfl
  have e4 : eDict (dCons "cells" (eSlice (eN "cells") pNo pNo (pSo (eNeg (eC (.int 1))))) (dCons "mixed" (eN "mixed") (dCons "turn" (eC (.int 0)) dNil))) L2 H3 = some (.ref H3.length, H3 ++ [.dict [("cells", .ref (H3.length + 1)), ("mixed", .int mx), ("turn", .int 0)], .list (rs.map .int)]) := by
    unfold eDict
    rw [e3, Option.bind_some]
    dsimp only
    have e : (H3 ++ [MO.dict [], MO.list (rs.map .int)])[H3.length]? = some (.dict []) := by simp
    rw [e]
    dsimp only
    have hm : mergeKV [] [("cells", MV.ref (H3.length + 1)), ("mixed", .int mx), ("turn", .int 0)] = [("cells", .ref (H3.length + 1)), ("mixed", .int mx), ("turn", .int 0)] := by simp [mergeKV, setKV]
    rw [hm]
    simp
  refine ⟨H3.length, H3.length + 1, H3 ++ [.dict [("cells", .ref (H3.length + 1)), ("mixed", .int mx), ("turn", .int 0)], .list (rs.map .int)], ?_, ⟨⟨mx, ?_⟩, ⟨rs, ?_, by omega⟩⟩⟩
  · unfold F_law_deck
    refine fn_ret rfl ⟨L2, ?_⟩
    rw [hz]
    exact x_next q1 (x_next q6 (x_ret (x_retv e4)))
  · simp
  · simp
end Nt
end
section
open PySem PySem.SeqAt
namespace Nt
/-- only the deck is turned -/
structure DK (dk cl : Nat) (H H' : MH) : Prop where
  len : H.length ≤ H'.length
  old : ∀ j, j < H.length → j ≠ dk → j ≠ cl → H'[j]? = H[j]?
theorem DK.trans {dk cl : Nat} {H1 H2 H3 : MH} (a : DK dk cl H1 H2) (b : DK dk cl H2 H3) : DK dk cl H1 H3 := ⟨Nat.le_trans a.len b.len, fun j hj h1 h2 => (b.old j (Nat.lt_of_lt_of_le hj a.len) h1 h2).trans (a.old j hj h1 h2)⟩
theorem Ex'.dk {H H' : MH} (E : Ex' H H') (dk cl : Nat) : DK dk cl H H' := ⟨E.len, fun j hj _ _ => E.old j hj⟩
theorem Deck.ne {H : MH} {dk cl t : Nat} (D : Deck H dk cl t) : dk ≠ cl := by
  rintro rfl
  obtain ⟨m, e⟩ := D.dict
  obtain ⟨cs, e2, _⟩ := D.cells
  rw [e] at e2
  cases e2
theorem Deck.ex {H H' : MH} {dk cl t : Nat} (D : Deck H dk cl t) (E : Ex' H H') : Deck H' dk cl t := by
  obtain ⟨m, e⟩ := D.dict
  obtain ⟨cs, e2, h⟩ := D.cells
  exact ⟨⟨m, E.get e⟩, ⟨cs, E.get e2, h⟩⟩
noncomputable def drawT : ExF := xCons (xAssign (eBin (intB modF) (eBin (intB mulF) (eBin (intB modF) (eN "figure") (eC (.int 2147483629))) (eC (.int 40692))) (eC (.int 2147483647))) (aN "figure")) (xCons (xAssign (eBin (intB modF) (eBin addF (eBin (intB mulF) (eN "figure") (eN "figure")) (eC (.int 6619))) (eC (.int 2147483587))) (aN "figure")) (xCons (xRet (eBin (intB modF) (eBin (intB divF) (eBin (intB modF) (eBin (intB mulF) (eN "figure") (eC (.int 39373))) (eC (.int 2147483579))) (eC (.int 64))) (eN "below"))) xNil))
theorem fmod_in {i j : Int} (h : 0 < j) : 0 ≤ i.fmod j ∧ i.fmod j < j := ⟨Int.fmod_nonneg_of_pos _ h, Int.fmod_lt_of_pos _ h⟩
theorem draw_tail {l : Loc} {H : MH} {x b : Int} (h1 : l.lookup "figure" = some (.int x)) (h2 : l.lookup "below" = some (.int b)) (hb : 0 < b) : ∃ r l', drawT l H = some (.ret (.int r), l', H) ∧ 0 ≤ r ∧ r < b := by
  unfold drawT
  have f1 := fmod_in (i := (x.fmod 2147483629) * 40692) (j := 2147483647) (by decide)
  have q1 : xAssign (eBin (intB modF) (eBin (intB mulF) (eBin (intB modF) (eN "figure") (eC (.int 2147483629))) (eC (.int 40692))) (eC (.int 2147483647))) (aN "figure") l H = some (.next, setKV "figure" (.int (((x.fmod 2147483629) * 40692).fmod 2147483647)) l, H) :=
    x_asg (bin_run (bin_run (bin_run (n_run h1) rfl (mod_run (by decide))) rfl (mul_run (by decide) (by decide))) rfl (mod_run (by decide))) rfl
  generalize ((x.fmod 2147483629) * 40692).fmod 2147483647 = y at f1 q1
  have g1 : (setKV "figure" (.int y) l).lookup "figure" = some (.int y) := by first | exact lke | exact lkn (by decide) lke | simp [lookup_setKV]
  have g2 : (setKV "figure" (.int y) l).lookup "below" = some (.int b) := by exact lkn (by decide) h2
  have q2 : xAssign (eBin (intB modF) (eBin addF (eBin (intB mulF) (eN "figure") (eN "figure")) (eC (.int 6619))) (eC (.int 2147483587))) (aN "figure") (setKV "figure" (.int y) l) H = some (.next, setKV "figure" (.int ((y * y + 6619).fmod 2147483587)) (setKV "figure" (.int y) l), H) :=
    x_asg (bin_run (bin_run (bin_run (n_run g1) (n_run g1) (mul_run (by omega) (by omega))) rfl (add_int _ _ _)) rfl (mod_run (by decide))) rfl
  generalize (y * y + 6619).fmod 2147483587 = z at q2
  have k1 : (setKV "figure" (.int z) (setKV "figure" (.int y) l)).lookup "figure" = some (.int z) := by first | exact lke | exact lkn (by decide) lke | simp [lookup_setKV]
  have k2 : (setKV "figure" (.int z) (setKV "figure" (.int y) l)).lookup "below" = some (.int b) := by exact lkn (by decide) g2
  refine ⟨_, _, x_next q1 (x_next q2 (x_ret (x_retv (bin_run (bin_run (bin_run (bin_run (n_run k1) rfl (mul_run (by decide) (by decide))) rfl (mod_run (by decide))) rfl (div_run (by decide) (by decide))) (n_run k2) (mod_run (by omega)))))), ?_⟩
  exact fmod_in hb
theorem pop_run {H : MH} {m : Nat} {xs : List MV} {v : MV} (h1 : H[m]? = some (.list xs)) (h2 : xs.getLast? = some v) (l1 : xs.length ≤ 1000) : popF [.ref m] H = some (v, H.set m (.list xs.dropLast)) := by
  unfold popF listD
  dsimp only
  rw [h1]
  dsimp only [Option.bind_some]
  rw [if_pos l1, h2]
  rfl
theorem ge_int (a b : Int) (H : MH) : geF (.int a) (.int b) H = some (decide (b ≤ a)) := rfl
set_option maxHeartbeats 2000000 in
theorem E_draw {H : MH} {dk cl t : Nat} (D : Deck H dk cl t) (ht : t ≤ 100) {b : Int} (hb : 0 < b) (hb2 : b < 1000000) :
    ∃ r H', F_law_draw [.ref dk, .int b] H = some (.int r, H') ∧ 0 ≤ r ∧ r < b ∧ Deck H' dk cl (t + 1) ∧ DK dk cl H H' := by
  have hne := D.ne
  obtain ⟨m, e1⟩ := D.dict
  obtain ⟨cs, e2, hcs⟩ := D.cells
  have hz : (["deck", "below"].zip [MV.ref dk, .int b]).reverse = [("below", .int b), ("deck", .ref dk)] := rfl
  generalize hL0 : ([("below", .int b), ("deck", .ref dk)] : Loc) = L0 at hz
  have k0 : L0.lookup "deck" = some (.ref dk) := by rw [← hL0]; simp [List.lookup_cons]
  have b0 : L0.lookup "below" = some (.int b) := by rw [← hL0]; simp [List.lookup_cons]
  have hdl : dk < H.length := (List.getElem?_eq_some_iff.mp e1).1
  have hcl : cl < H.length := (List.getElem?_eq_some_iff.mp e2).1
  have q1 : xAssign (eBin addF (eSub (eN "deck") (eC (.str "turn"))) (eC (.int 1))) (aSub (eN "deck") (eC (.str "turn"))) L0 H = some (.next, L0, H.set dk (.dict [("cells", .ref cl), ("mixed", .int m), ("turn", .int ((t + 1 : Nat) : Int))])) := by
    refine x_asg (v := .int ((t + 1 : Nat) : Int)) (H1 := H) (bin_run (sub_run (n_run k0) rfl (item_dict (v := .int (t : Int)) e1 (by simp [List.lookup_cons]))) rfl (by rw [add_int]; congr 3)) ?_
    rw [asub_run (x := "turn") (n_run k0) rfl e1 (by simp)]
    simp [setKV]
  have d1 : (H.set dk (.dict [("cells", .ref cl), ("mixed", .int m), ("turn", .int ((t + 1 : Nat) : Int))]))[dk]? = some (.dict [("cells", .ref cl), ("mixed", .int m), ("turn", .int ((t + 1 : Nat) : Int))]) := List.getElem?_set_self hdl
  have c1 : (H.set dk (.dict [("cells", .ref cl), ("mixed", .int m), ("turn", .int ((t + 1 : Nat) : Int))]))[cl]? = some (.list (cs.map .int)) := by rw [List.getElem?_set_ne hne]; exact e2
  have K1 : DK dk cl H (H.set dk (.dict [("cells", .ref cl), ("mixed", .int m), ("turn", .int ((t + 1 : Nat) : Int))])) := ⟨by rw [List.length_set]; exact Nat.le_refl _, fun j _ h1 _ => List.getElem?_set_ne (Ne.symm h1)⟩
  generalize H.set dk (.dict [("cells", .ref cl), ("mixed", .int m), ("turn", .int ((t + 1 : Nat) : Int))]) = H1 at q1 d1 c1 K1
  generalize hfig : m + 66617 * ((t + 1 : Nat) : Int) * ((t + 1 : Nat) : Int) = fig
  have tn : ∀ L : Loc, L.lookup "deck" = some (.ref dk) → eSub (eN "deck") (eC (.str "turn")) L H1 = some (.int ((t + 1 : Nat) : Int), H1) := fun L h => sub_run (n_run h) rfl (item_dict d1 (by simp [List.lookup_cons]))
  have q2 : xAssign (eBin addF (eSub (eN "deck") (eC (.str "mixed"))) (eBin (intB mulF) (eBin (intB mulF) (eC (.int 66617)) (eSub (eN "deck") (eC (.str "turn")))) (eSub (eN "deck") (eC (.str "turn"))))) (aN "figure") L0 H1 = some (.next, setKV "figure" (.int fig) L0, H1) := by
    refine x_asg (v := .int fig) (H1 := H1) (bin_run (sub_run (n_run k0) rfl (item_dict (v := .int m) d1 (by simp [List.lookup_cons]))) (bin_run (bin_run rfl (tn L0 k0) (mul_run (by omega) (by omega))) (tn L0 k0) (mul_run (by omega) (by omega))) ?_) rfl
    rw [add_int, hfig]
  generalize hL1 : setKV "figure" (.int fig) L0 = L1 at q2
  have k1 : L1.lookup "deck" = some (.ref dk) := by rw [← hL1]; first | exact lkn (by decide) k0 | exact lkn (by decide) (lkn (by decide) k0) | simp [lookup_setKV, k0]
  have b1 : L1.lookup "below" = some (.int b) := by rw [← hL1]; first | exact lkn (by decide) b0 | exact lkn (by decide) (lkn (by decide) b0) | simp [lookup_setKV, b0]
  have f1 : L1.lookup "figure" = some (.int fig) := by rw [← hL1]; first | exact lke | exact lkn (by decide) lke | simp [lookup_setKV]
  have cc : ∀ (L : Loc) (Hx : MH), L.lookup "deck" = some (.ref dk) → Ex' H1 Hx → eSub (eN "deck") (eC (.str "cells")) L Hx = some (.ref cl, Hx) := fun L Hx h E => sub_run (n_run h) rfl (item_dict (E.get d1) (by simp [List.lookup_cons]))
  have E2 := Ex'.app H1 [MO.list []]
  have t1 : tCmp neF (eSub (eN "deck") (eC (.str "cells"))) (eLst lNil) L1 H1 = some (!(cs == []), H1 ++ [.list []]) := by
    refine tCmp_run (H1 := H1) (cc L1 H1 k1 (Ex'.refl _)) (b := .ref H1.length) (H2 := H1 ++ [MO.list []]) rfl ?_
    rw [ne_eq', eq_ints (ys := []) (E2.get c1) (by simp)]
    rfl
  generalize H1 ++ [MO.list []] = H2 at E2 t1
  have D2d := E2.get d1
  have D2c := E2.get c1
  have hl1 := K1.len
  have hl2 := E2.len
  have hcc := cc L1 H2 k1 E2
  show ∃ r H', F_law_draw [.ref dk, .int b] H = some (.int r, H') ∧ _
  unfold F_law_draw
  rcases List.eq_nil_or_concat cs with rfl | ⟨ini, y, rfl⟩
  · have t1' : tCmp neF (eSub (eN "deck") (eC (.str "cells"))) (eLst lNil) L1 H1 = some (false, H2) := t1
    obtain ⟨r, l', r1, r2⟩ := draw_tail (H := H2) f1 b1 hb
    refine ⟨r, H2, fn_ret rfl ⟨l', ?_⟩, r2.1, r2.2, ⟨⟨m, D2d⟩, ⟨[], D2c, by simp⟩⟩, K1.trans (E2.dk dk cl)⟩
    rw [hz]
    exact x_next q1 (x_next q2 (x_next (x_if t1' (by rw [if_neg (by decide)]; rfl)) r1))
  · rw [List.concat_eq_append] at hcs e2 c1 D2c t1
    have hne2 : (!(ini ++ [y] == [])) = true := by
      cases ini <;> rfl
    rw [hne2] at t1
    have q3 : xAssign (eMethL popF (eSub (eN "deck") (eC (.str "cells"))) lNil) (aN "cell") L1 H2 = some (.next, setKV "cell" (.int y) L1, H2.set cl (.list (ini.map .int))) := by
      refine x_asg (methL_run (g := popF) hcc D2c rfl (pop_run (v := .int y) D2c (by simp) (by rw [List.length_map]; omega))) ?_
      simp [aN]
    have hl3 : (ini.map MV.int).length ≤ 24 := by rw [List.length_map]; rw [List.length_append] at hcs; omega
    generalize hL3 : setKV "cell" (.int y) L1 = L3 at q3
    have k3 : L3.lookup "deck" = some (.ref dk) := by rw [← hL3]; first | exact lkn (by decide) k1 | exact lkn (by decide) (lkn (by decide) k1) | simp [lookup_setKV, k1]
    have b3 : L3.lookup "below" = some (.int b) := by rw [← hL3]; first | exact lkn (by decide) b1 | exact lkn (by decide) (lkn (by decide) b1) | simp [lookup_setKV, b1]
    have f3 : L3.lookup "figure" = some (.int fig) := by rw [← hL3]; first | exact lkn (by decide) f1 | exact lkn (by decide) (lkn (by decide) f1) | simp [lookup_setKV, f1]
    have y3 : L3.lookup "cell" = some (.int y) := by rw [← hL3]; first | exact lke | exact lkn (by decide) lke | simp [lookup_setKV]
    have d3 : (H2.set cl (.list (ini.map .int)))[dk]? = some (.dict [("cells", .ref cl), ("mixed", .int m), ("turn", .int ((t + 1 : Nat) : Int))]) := by rw [List.getElem?_set_ne (Ne.symm hne)]; exact D2d
    have c3 : (H2.set cl (.list (ini.map .int)))[cl]? = some (.list (ini.map .int)) := List.getElem?_set_self (by omega)
    have K3 : DK dk cl H (H2.set cl (.list (ini.map .int))) := K1.trans ⟨by rw [List.length_set]; exact hl2, fun j hj _ h2 => by rw [List.getElem?_set_ne (Ne.symm h2)]; exact E2.old j hj⟩
    generalize H2.set cl (.list (ini.map .int)) = H3 at q3 d3 c3 K3
    have hl33 := K3.len
    have t3 : tCmp geF (eN "cell") (eC (.int 1000000)) L3 H3 = some (decide ((1000000 : Int) ≤ y), H3) := tCmp_run (n_run y3) rfl (ge_int _ _ _)
    by_cases c : (1000000 : Int) ≤ y
    · rw [decide_eq_true c] at t3
      have hcc3 : eSub (eN "deck") (eC (.str "cells")) L3 H3 = some (.ref cl, H3) := sub_run (n_run k3) rfl (item_dict d3 (by simp [List.lookup_cons]))
      have q4 : xExpr (eMethL appendF (eSub (eN "deck") (eC (.str "cells"))) (lCons (eBin (intB divF) (eN "cell") (eN "below")) lNil)) L3 H3 = some (.next, L3, H3.set cl (.list (ini.map .int ++ [.int (y.fdiv b)]))) :=
        x_exp (methL_run (g := appendF) hcc3 c3 (lcons_run (bin_run (n_run y3) (n_run b3) (div_run hb (by omega))) rfl) (append_run c3 (by omega)))
      have hm := fmod_in (i := y) hb
      refine ⟨y.fmod b, H3.set cl (.list (ini.map .int ++ [.int (y.fdiv b)])), fn_ret rfl ⟨L3, ?_⟩, hm.1, hm.2, ⟨⟨m, by rw [List.getElem?_set_ne (Ne.symm hne)]; exact d3⟩, ⟨ini ++ [y.fdiv b], by rw [List.getElem?_set_self (by omega)]; simp, by simpa using hcs⟩⟩, K3.trans ⟨by rw [List.length_set]; exact Nat.le_refl _, fun j hj _ h2 => List.getElem?_set_ne (Ne.symm h2)⟩⟩
      rw [hz]
      exact x_next q1 (x_next q2 (x_ret (x_if t1 (by rw [if_pos rfl]; exact x_next q3 (x_ret (x_if t3 (by rw [if_pos rfl]; exact x_next q4 (x_ret (x_retv (bin_run (n_run y3) (n_run b3) (mod_run (by omega))))))))))))
    · rw [decide_eq_false c] at t3
      generalize hL4 : setKV "figure" (.int (fig + y.fmod 2147483563)) L3 = L4
      have b4 : L4.lookup "below" = some (.int b) := by rw [← hL4]; first | exact lkn (by decide) b3 | exact lkn (by decide) (lkn (by decide) b3) | simp [lookup_setKV, b3]
      have f4 : L4.lookup "figure" = some (.int (fig + y.fmod 2147483563)) := by rw [← hL4]; first | exact lke | exact lkn (by decide) lke | simp [lookup_setKV]
      have q4 : xAssign (eBin addF (eN "figure") (eBin (intB modF) (eN "cell") (eC (.int 2147483563)))) (aN "figure") L3 H3 = some (.next, L4, H3) :=
        x_asg (bin_run (n_run f3) (bin_run (n_run y3) rfl (mod_run (by decide))) (add_int _ _ _)) (by rw [← hL4]; rfl)
      obtain ⟨r, l', r1, r2⟩ := draw_tail (H := H3) f4 b4 hb
      refine ⟨r, H3, fn_ret rfl ⟨l', ?_⟩, r2.1, r2.2, ⟨⟨m, d3⟩, ⟨ini, c3, by rw [List.length_map] at hl3; omega⟩⟩, K3⟩
      rw [hz]
      exact x_next q1 (x_next q2 (x_next (x_if t1 (by rw [if_pos rfl]; exact x_next q3 (x_next (x_if t3 (by rw [if_neg (by decide)]; rfl)) (x_next q4 rfl)))) r1))
end Nt
end
section
open PySem PySem.SeqAt
namespace Nt
noncomputable def KINDS : List String := ["Other", "CR", "LF", "Sep", "Extend", "Format", "Sp", "Lower", "Upper", "OLetter", "Numeric", "ATerm", "STerm", "Close", "SContinue"]
theorem E_kinds (H : MH) : F_law_kinds [] H = some (.ref H.length, H ++ [.list (KINDS.map .str)]) := by
  unfold F_law_kinds
  refine fn_ret rfl ⟨[], ?_⟩
  exact x_ret (x_retv (by unfold eLst; rfl))
theorem pickI_nat (l : List MV) (j : Nat) (hj : j ≤ 1000) : pickI l (j : Int) = l[j]? := by
  unfold pickI
  rw [if_pos (by omega), if_pos (by omega)]
  simp
theorem E_pick {H : MH} {dk cl t : Nat} (D : Deck H dk cl t) (ht : t ≤ 100) {items : List MV} (h0 : 0 < items.length) (h1 : items.length ≤ 100) :
    ∃ v H', F_law_pick [.ref dk, .lst items] H = some (v, H') ∧ v ∈ items ∧ Deck H' dk cl (t + 1) ∧ DK dk cl H H' := by
  have hz : (["deck", "some"].zip [MV.ref dk, .lst items]).reverse = [("some", .lst items), ("deck", .ref dk)] := rfl
  generalize hL0 : ([("some", .lst items), ("deck", .ref dk)] : Loc) = L0 at hz
  have k0 : L0.lookup "deck" = some (.ref dk) := by rw [← hL0]; simp [List.lookup_cons]
  have b0 : L0.lookup "some" = some (.lst items) := by rw [← hL0]; simp [List.lookup_cons]
  obtain ⟨r, H', e, r1, r2, r3, r4⟩ := E_draw D ht (b := (items.length : Int)) (by omega) (by omega)
  obtain ⟨j, rfl⟩ : ∃ j : Nat, r = (j : Int) := ⟨r.toNat, by omega⟩
  have hj : j < items.length := by omega
  refine ⟨items[j], H', ?_, List.getElem_mem hj, r3, r4⟩
  have hlen : lenF [.lst items] H = some (.int items.length, H) := by
    unfold lenF anyL
    dsimp only [Option.bind_some]
    rw [if_pos (by omega)]
  unfold F_law_pick
  refine fn_ret rfl ⟨L0, ?_⟩
  rw [hz]
  refine x_ret (x_retv (sub_run (n_run b0) (call_run (lcons_run (n_run k0) (lcons_run (call_run (lcons_run (n_run b0) rfl) hlen) rfl)) e) ?_))
  show pickI items (j : Int) = _
  rw [pickI_nat _ _ (by omega)]
  simp
noncomputable def kindB : ExF := xCons (xAssign (eIf (tCmp gtF (eCall F_law_draw (lCons (eN "deck") (lCons (eC (.int 3)) lNil))) (eC (.int 0))) (eCall F_law_pick (lCons (eN "deck") (lCons (eC V_law_often) lNil))) (eCall F_law_draw (lCons (eN "deck") (lCons (eC (.int 15)) lNil)))) (aN "number")) (xCons (xExpr (eMethL appendF (eN "kinds") (lCons (eSub (eCall F_law_kinds lNil) (eN "number")) lNil))) xNil)
structure KS (l : Loc) (H : MH) (dk cl kr t : Nat) (ks : List String) : Prop where
  deck : l.lookup "deck" = some (.ref dk)
  kinds : l.lookup "kinds" = some (.ref kr)
  dk : Deck H dk cl t
  list : H[kr]? = some (.list (ks.map .str))
  all : ∀ k ∈ ks, k ∈ KINDS
  ne : kr ≠ cl
theorem KS.ne' {l : Loc} {H : MH} {dk cl kr t : Nat} {ks : List String} (X : KS l H dk cl kr t ks) : kr ≠ dk := by
  rintro rfl
  obtain ⟨m, e⟩ := X.dk.dict
  have := X.list
  rw [e] at this
  cases this
theorem draw_call {l : Loc} {H : MH} {dk cl t : Nat} (h : l.lookup "deck" = some (.ref dk)) (D : Deck H dk cl t) (ht : t ≤ 100) {f : EvF} {b : Int} (hf : f l H = some (.int b, H)) (hb : 0 < b) (hb2 : b < 1000000) :
    ∃ (j : Nat) (H' : MH), eCall F_law_draw (lCons (eN "deck") (lCons f lNil)) l H = some (.int (j : Int), H') ∧ (j : Int) < b ∧ Deck H' dk cl (t + 1) ∧ DK dk cl H H' := by
  obtain ⟨r, H', e, r1, r2, r3, r4⟩ := E_draw D ht hb hb2
  obtain ⟨j, rfl⟩ : ∃ j : Nat, r = (j : Int) := ⟨r.toNat, by omega⟩
  exact ⟨j, H', call_run (lcons_run (n_run h) (lcons_run hf rfl)) e, r2, r3, r4⟩
theorem often_small {v : MV} (h : v ∈ ([.int 11, .int 11, .int 11, .int 12, .int 6, .int 6, .int 7, .int 8, .int 13, .int 13] : List MV)) : ∃ j : Nat, v = .int (j : Int) ∧ j < 15 := by
  simp only [List.mem_cons, List.not_mem_nil, or_false] at h
  rcases h with h | h | h | h | h | h | h | h | h | h <;> subst h
  · exact ⟨11, rfl, by decide⟩
  · exact ⟨11, rfl, by decide⟩
  · exact ⟨11, rfl, by decide⟩
  · exact ⟨12, rfl, by decide⟩
  · exact ⟨6, rfl, by decide⟩
  · exact ⟨6, rfl, by decide⟩
  · exact ⟨7, rfl, by decide⟩
  · exact ⟨8, rfl, by decide⟩
  · exact ⟨13, rfl, by decide⟩
  · exact ⟨13, rfl, by decide⟩
set_option maxHeartbeats 2000000 in
theorem kind_body {l : Loc} {H : MH} {dk cl kr t : Nat} {ks : List String} (X : KS l H dk cl kr t ks) (ht : t ≤ 90) (hk : ks.length ≤ 50) :
    ∃ l' H' k, kindB l H = some (.next, l', H') ∧ KS l' H' dk cl kr (t + 2) (ks ++ [k]) := by
  have hn1 := X.ne
  have hn2 := X.ne'
  obtain ⟨j1, H1, e1, _, d1, K1⟩ := draw_call X.deck X.dk (by omega) (f := eC (.int 3)) rfl (by decide) (by decide)
  have t1 : tCmp gtF (eCall F_law_draw (lCons (eN "deck") (lCons (eC (.int 3)) lNil))) (eC (.int 0)) l H = some (decide ((0 : Int) < (j1 : Int)), H1) := tCmp_run e1 rfl (gt_int _ _ _)
  have num : ∃ (j : Nat) (H2 : MH), eIf (tCmp gtF (eCall F_law_draw (lCons (eN "deck") (lCons (eC (.int 3)) lNil))) (eC (.int 0))) (eCall F_law_pick (lCons (eN "deck") (lCons (eC V_law_often) lNil))) (eCall F_law_draw (lCons (eN "deck") (lCons (eC (.int 15)) lNil))) l H = some (.int (j : Int), H2) ∧ j < 15 ∧ Deck H2 dk cl (t + 2) ∧ DK dk cl H1 H2 := by
    cases c : decide ((0 : Int) < (j1 : Int)) with
    | true =>
      rw [c] at t1
      obtain ⟨v, H2, e2, m2, d2, K2⟩ := E_pick d1 (by omega) (items := [.int 11, .int 11, .int 11, .int 12, .int 6, .int 6, .int 7, .int 8, .int 13, .int 13]) (by decide) (by decide)
      obtain ⟨j, rfl, hj⟩ := often_small m2
      exact ⟨j, H2, eif_run t1 (by rw [if_pos rfl]; exact call_run (lcons_run (n_run X.deck) (lcons_run rfl rfl)) e2), hj, d2, K2⟩
    | false =>
      rw [c] at t1
      obtain ⟨j, H2, e2, h2, d2, K2⟩ := draw_call X.deck d1 (by omega) (f := eC (.int 15)) rfl (by decide) (by decide)
      exact ⟨j, H2, eif_run t1 (by rw [if_neg (by decide)]; exact e2), by omega, d2, K2⟩
  obtain ⟨j, H2, e2, hj, d2, K2⟩ := num
  have K12 := K1.trans K2
  have hkl : kr < H.length := (List.getElem?_eq_some_iff.mp X.list).1
  have l2 : H2[kr]? = some (.list (ks.map .str)) := (K12.old kr hkl hn2 hn1).trans X.list
  have hq : KINDS[j]? = some (KINDS[j]'(by simpa [KINDS] using hj)) := by simp
  generalize KINDS[j]'(by simpa [KINDS] using hj) = k at hq
  have E3 := Ex'.app H2 [MO.list (KINDS.map .str)]
  have g3 : (H2 ++ [MO.list (KINDS.map .str)])[H2.length]? = some (.list (KINDS.map .str)) := by simp
  have r3 := E_kinds H2
  generalize H2 ++ [MO.list (KINDS.map .str)] = H3 at E3 g3 r3
  have d3 := d2.ex E3
  have l3 := E3.get l2
  have hl3 : kr < H3.length := (List.getElem?_eq_some_iff.mp l3).1
  have q1 : kindB l H = some (.next, setKV "number" (.int (j : Int)) l, H3.set kr (.list (ks.map .str ++ [.str k]))) := by
    refine x_next (x_asg e2 rfl) (x_next (x_exp (methL_run (g := appendF) (m := kr) (n_run (by exact lkn (by decide) X.kinds)) l2 (lcons_run (sub_run (call_run rfl r3) (n_run (v := .int (j : Int)) (by first | exact lke | exact lkn (by decide) lke | simp [lookup_setKV])) ?_) rfl) (append_run l3 (by rw [List.length_map]; omega)))) rfl)
    rw [item_ref g3 j (by omega), List.getElem?_map, hq]
    rfl
  refine ⟨_, _, k, q1, ?_, ?_, ?_, ?_, ?_, hn1⟩
  · exact lkn (by decide) X.deck
  · exact lkn (by decide) X.kinds
  · obtain ⟨m, c1⟩ := d3.dict
    obtain ⟨cs, c2, c3⟩ := d3.cells
    exact ⟨⟨m, by rw [List.getElem?_set_ne hn2]; exact c1⟩, ⟨cs, by rw [List.getElem?_set_ne hn1]; exact c2, c3⟩⟩
  · rw [List.getElem?_set_self hl3]; simp
  · intro x hx
    rcases List.mem_append.mp hx with hx | hx
    · exact X.all x hx
    · simp at hx
      subst hx
      exact List.mem_of_getElem? hq
end Nt
end
section
open PySem PySem.SeqAt
namespace Nt
noncomputable def kindX : ExF := xIf (tCmp eqF (eCall F_law_draw (lCons (eN "deck") (lCons (eC (.int 4)) lNil))) (eC (.int 0))) (xCons (xAssign (eCall listF (lCons (eCall F_law_pick (lCons (eN "deck") (lCons (eC V_law_known) lNil))) lNil)) (aN "kinds")) xNil) (xCons (xAssign (eLst lNil) (aN "kinds")) (xCons (xFor (eCall rangeF (lCons (eCall F_law_draw (lCons (eN "deck") (lCons (eC (.int 8)) lNil))) lNil)) (aN "turn") kindB FU) xNil))
theorem known_ok {v : MV} (h : v ∈ ([.lst [.str "Upper", .str "ATerm", .str "Sp", .str "Lower"], .lst [.str "ATerm", .str "Close", .str "Sp", .str "Sep", .str "Upper"], .lst [.str "Upper", .str "ATerm", .str "Extend", .str "Upper"], .lst [.str "ATerm", .str "Sp", .str "SContinue", .str "ATerm", .str "Numeric", .str "Lower"]] : List MV)) : ∃ ks : List String, v = .lst (ks.map .str) ∧ ks.length ≤ 7 ∧ ∀ k ∈ ks, k ∈ KINDS := by
  simp only [List.mem_cons, List.not_mem_nil, or_false] at h
  rcases h with h | h | h | h <;> subst h
  · exact ⟨["Upper", "ATerm", "Sp", "Lower"], rfl, by decide, by decide⟩
  · exact ⟨["ATerm", "Close", "Sp", "Sep", "Upper"], rfl, by decide, by decide⟩
  · exact ⟨["Upper", "ATerm", "Extend", "Upper"], rfl, by decide, by decide⟩
  · exact ⟨["ATerm", "Sp", "SContinue", "ATerm", "Numeric", "Lower"], rfl, by decide, by decide⟩
theorem list_new {H : MH} (l : List MV) (hl : l.length ≤ 1000) : listF [.lst l] H = some (.ref H.length, H ++ [.list l]) := by
  unfold listF anyL
  dsimp only [Option.bind_some]
  rw [if_pos hl]
set_option maxHeartbeats 2000000 in
theorem kind_part {l : Loc} {H : MH} {dk cl t : Nat} (hd : l.lookup "deck" = some (.ref dk)) (D : Deck H dk cl t) (ht : t ≤ 10) :
    ∃ l' H' kr t' ks, kindX l H = some (.next, l', H') ∧ KS l' H' dk cl kr t' ks ∧ t' ≤ 50 ∧ ks.length ≤ 7 := by
  obtain ⟨j1, H1, e1, _, d1, K1⟩ := draw_call hd D (by omega) (f := eC (.int 4)) rfl (by decide) (by decide)
  have t1 : tCmp eqF (eCall F_law_draw (lCons (eN "deck") (lCons (eC (.int 4)) lNil))) (eC (.int 0)) l H = some (((j1 : Int) == 0), H1) := tCmp_run e1 rfl (eq_int _ _ _)
  have clt : ∀ {Hx : MH} {tx : Nat}, Deck Hx dk cl tx → cl < Hx.length := fun Dx => by
    obtain ⟨cs, c, _⟩ := Dx.cells
    exact (List.getElem?_eq_some_iff.mp c).1
  unfold kindX
  cases c : ((j1 : Int) == 0) with
  | true =>
    rw [c] at t1
    obtain ⟨v, H2, e2, m2, d2, K2⟩ := E_pick d1 (by omega) (items := [.lst [.str "Upper", .str "ATerm", .str "Sp", .str "Lower"], .lst [.str "ATerm", .str "Close", .str "Sp", .str "Sep", .str "Upper"], .lst [.str "Upper", .str "ATerm", .str "Extend", .str "Upper"], .lst [.str "ATerm", .str "Sp", .str "SContinue", .str "ATerm", .str "Numeric", .str "Lower"]]) (by decide) (by decide)
    obtain ⟨ks, rfl, k1, k2⟩ := known_ok m2
    have hc := clt d2
    have E3 := Ex'.app H2 [MO.list (ks.map .str)]
    refine ⟨setKV "kinds" (.ref H2.length) l, H2 ++ [.list (ks.map .str)], H2.length, t + 2, ks, x_if t1 (by rw [if_pos rfl]; exact x_next (x_asg (call_run (lcons_run (call_run (lcons_run (n_run hd) (lcons_run rfl rfl)) e2) rfl) (list_new _ (by rw [List.length_map]; omega))) rfl) rfl), ⟨?_, ?_, d2.ex E3, by simp, k2, by omega⟩, by omega, k1⟩
    · exact lkn (by decide) hd
    · rw [lookup_setKV, if_pos rfl]
  | false =>
    rw [c] at t1
    have hc := clt d1
    have E2 := Ex'.app H1 [MO.list []]
    generalize hL2 : setKV "kinds" (.ref H1.length) l = L2
    have k2 : L2.lookup "kinds" = some (.ref H1.length) := by rw [← hL2]; first | exact lke | exact lkn (by decide) lke | simp [lookup_setKV]
    have dk2 : L2.lookup "deck" = some (.ref dk) := by rw [← hL2]; first | exact lkn (by decide) hd | exact lkn (by decide) (lkn (by decide) hd) | simp [lookup_setKV, hd]
    have q2 : xAssign (eLst lNil) (aN "kinds") l H1 = some (.next, L2, H1 ++ [.list []]) := x_asg (v := .ref H1.length) (H1 := H1 ++ [.list []]) rfl (by rw [← hL2]; rfl)
    have g2 : (H1 ++ [MO.list []])[H1.length]? = some (.list (([] : List String).map .str)) := by simp
    generalize H1 ++ [MO.list []] = H2 at E2 q2 g2
    have d2 := d1.ex E2
    generalize hkr : H1.length = kr at k2 g2 hc
    obtain ⟨n, H3, e3, n3, d3, K3⟩ := draw_call dk2 d2 (by omega) (f := eC (.int 8)) rfl (by decide) (by decide)
    have S2 : KS L2 H2 dk cl kr (t + 1) [] := ⟨dk2, k2, d2, g2, fun k hk => (by cases hk), by omega⟩
    have hkl : kr < H2.length := (List.getElem?_eq_some_iff.mp g2).1
    have S3 : KS L2 H3 dk cl kr (t + 2) [] := ⟨dk2, k2, d3, (K3.old kr hkl S2.ne' S2.ne).trans g2, fun k hk => (by cases hk), by omega⟩
    obtain ⟨L4, H4, q4, ks, s4, s5⟩ := for_list (src := .rng 0 (n : Int)) (a := aN "turn") (g := kindB) (rngItems 0 n)
      (fun i lx Hx => ∃ ks, KS lx Hx dk cl kr (t + 2 + 2 * i) ks ∧ ks.length = i)
      (fun i lx Hx _ => by
        rw [iter_rng]
        congr 3)
      (fun i w lx Hx hw hC => by
        obtain ⟨ks, hS, hl⟩ := hC
        have hin : i < n := by
          have := (List.getElem?_eq_some_iff.mp hw).1
          unfold rngItems at this
          simpa using this
        have hS' : KS (setKV "turn" w lx) Hx dk cl kr (t + 2 + 2 * i) ks := ⟨by exact lkn (by decide) hS.deck, by exact lkn (by decide) hS.kinds, hS.dk, hS.list, hS.all, hS.ne⟩
        obtain ⟨l', H', k, b1, b2⟩ := kind_body hS' (by omega) (by omega)
        exact ⟨_, Hx, l', H', rfl, b1, ks ++ [k], b2, by simp [hl]⟩)
      n 0 FU L2 H3 (by unfold rngItems; simp) (Nat.zero_le _) (by unfold FU; omega) ⟨[], S3, rfl⟩
    have hn : (rngItems 0 n).length = n := by unfold rngItems; simp
    rw [hn] at s4 s5
    refine ⟨L4, H4, kr, _, ks, x_if t1 (by rw [if_neg (by decide)]; exact x_next q2 (x_next (for_run (call_run (lcons_run e3 rfl) rfl) (iterOk_rng (by decide) (by decide) (by omega) (by omega)) q4) rfl)), s4, by omega, by omega⟩
end Nt
end
section
open PySem PySem.SeqAt
namespace Nt
/-! the text, the table's law -/
noncomputable def num (k : String) : Nat := (KINDS.idxOf? k).getD 0
theorem num_ok {k : String} (h : k ∈ KINDS) : KINDS.idxOf? k = some (num k) ∧ num k < 15 ∧ KINDS[num k]? = some k := by
  simp only [KINDS, List.mem_cons, List.not_mem_nil, or_false] at h
  rcases h with h | h | h | h | h | h | h | h | h | h | h | h | h | h | h <;> subst h <;> decide
theorem mapO_strV : ∀ xs : List String, mapO strV (xs.map .str) = some xs := fun xs => by
  have := mapO_map (f := strV) (g := MV.str) (h := id) (fun _ => rfl) xs
  rw [this, List.map_id]
theorem index_run {H : MH} {m j : Nat} {xs : List String} {x : String} (h : H[m]? = some (.list (xs.map .str))) (hx : xs.idxOf? x = some j) (hl : xs.length ≤ 1000) : indexF [.ref m, .str x] H = some (.int (j : Int), H) := by
  unfold indexF listD
  dsimp only
  rw [h]
  dsimp only [Option.bind_some]
  rw [mapO_strV, Option.bind_some, hx, Option.bind_some, if_pos (by rw [List.length_map]; exact hl)]
noncomputable def code (k : String) : Int := 100 + (num k : Int)
noncomputable def fK (ks : List String) (i : Nat) : Int → String := fun n => if 100 ≤ n ∧ n < 100 + (i : Int) then (match KINDS[(n - 100).toNat]? with
  | some k => if k ∈ ks then k else "Other"
  | none => "Other") else "Other"
theorem fK_code {ks : List String} {k : String} (h1 : k ∈ ks) (h2 : k ∈ KINDS) : fK ks 15 (code k) = k := by
  obtain ⟨_, a, b⟩ := num_ok h2
  unfold fK code
  have e : ((100 : Int) + (num k : Int) - 100).toNat = num k := by omega
  rw [if_pos (by omega), e, b]
  dsimp only
  rw [if_pos h1]
theorem fK_over {ks : List String} {i : Nat} {n : Int} (h : 100 + (i : Int) ≤ n) : fK ks i n = "Other" := by
  unfold fK
  rw [if_neg (by omega)]
theorem fK_skip {ks : List String} {i : Nat} {k : String} (hk : KINDS[i]? = some k) (h : k ∉ ks ∨ k = "Other") (n : Int) : fK ks (i + 1) n = fK ks i n := by
  by_cases c : n = 100 + (i : Int)
  · subst c
    rw [fK_over (Int.le_refl _)]
    unfold fK
    have e : ((100 : Int) + (i : Int) - 100).toNat = i := by omega
    rw [if_pos (by omega), e, hk]
    dsimp only
    rcases h with h | h
    · rw [if_neg h]
    · rw [h]; simp
  · unfold fK
    by_cases d : 100 ≤ n ∧ n < 100 + (i : Int)
    · rw [if_pos d, if_pos (by omega)]
    · rw [if_neg d, if_neg (by omega)]
theorem fK_put {ks : List String} {i : Nat} {k : String} (hk : KINDS[i]? = some k) (h : k ∈ ks) (n : Int) : fK ks (i + 1) n = fput (fK ks i) (100 + (i : Int)) k n := by
  unfold fput
  by_cases c : n < 100 + (i : Int)
  · rw [if_pos c]
    unfold fK
    by_cases d : 100 ≤ n
    · rw [if_pos (by omega), if_pos (by omega)]
    · rw [if_neg (by omega), if_neg (by omega)]
  · rw [if_neg c]
    by_cases e : n = 100 + (i : Int)
    · subst e
      rw [if_pos rfl]
      unfold fK
      have e : ((100 : Int) + (i : Int) - 100).toNat = i := by omega
      rw [if_pos (by omega), e, hk]
      dsimp only
      rw [if_pos h]
    · rw [if_neg e, fK_over (by omega)]
theorem kinds_apart : ∀ i, i < 14 → KINDS[i]? ≠ KINDS[i + 1]? ∧ KINDS[i + 1]? ≠ some "Other" := by decide
theorem fK_last {ks : List String} {i : Nat} {k : String} (hi : i < 14) (hk : KINDS[i + 1]? = some k) : fK ks (i + 1) (100 + ((i + 1 : Nat) : Int) - 1) ≠ k := by
  obtain ⟨a, b⟩ := kinds_apart i hi
  unfold fK
  have e : ((100 : Int) + ((i + 1 : Nat) : Int) - 1 - 100).toNat = i := by omega
  rw [if_pos (by omega), e]
  have ho : ("Other" : String) ≠ k := by rintro rfl; exact b hk
  cases q : KINDS[i]? with
  | none => exact ho
  | some j =>
    dsimp only
    have hj : j ≠ k := by rintro rfl; exact a (q.trans hk.symm)
    by_cases d : j ∈ ks
    · rw [if_pos d]; exact hj
    · rw [if_neg d]; exact ho
/-- a loop over an enumerated list -/
theorem enum_list {src : MV} {a : AsF} {g : ExF} (items : List MV) (C : Nat → Loc → MH → Prop) (hit : ∀ i l H, C i l H → ∃ m, listD src H = some (m, items))
    (hstep : ∀ i v l H, items[i]? = some v → C i l H → ∃ l1 H1 l2 H2, a (.tup [.int (i : Int), v]) l H = some (l1, H1) ∧ g l1 H1 = some (.next, l2, H2) ∧ C (i + 1) l2 H2) :
    ∀ (d i k : Nat) (l : Loc) (H : MH), items.length - i = d → i ≤ items.length → d < k → C i l H → ∃ l' H', enumF src a g k i l H = some (.next, l', H') ∧ C items.length l' H'
  | 0, i, k + 1, l, H, hd, hi, hk, hC => by
    have e : i = items.length := by omega
    subst e
    obtain ⟨m, hm⟩ := hit _ _ _ hC
    refine ⟨l, H, ?_, hC⟩
    unfold enumF
    rw [hm, Option.bind_some]
    dsimp only
    rw [List.getElem?_eq_none (Nat.le_refl _)]
  | d + 1, i, k + 1, l, H, hd, hi, hk, hC => by
    have hlt : i < items.length := by omega
    have e : items[i]? = some items[i] := by simp
    obtain ⟨l1, H1, l2, H2, q1, q2, q3⟩ := hstep i _ l H e hC
    obtain ⟨l', H', p1, p2⟩ := enum_list items C hit hstep d (i + 1) k l2 H2 (by omega) (by omega) (by omega) q3
    obtain ⟨m, hm⟩ := hit _ _ _ hC
    refine ⟨l', H', ?_, p2⟩
    unfold enumF
    rw [hm, Option.bind_some]
    dsimp only
    rw [e]
    dsimp only
    rw [q1, Option.bind_some]
    dsimp only
    rw [q2, Option.bind_some]
    exact p1
noncomputable def dataB : ExF := xCons (xIf (tAnd (tCmp inF (eN "kind") (eN "kinds")) (tAnd (tCmp gtF (eN "number") (eC (.int 0))) tTrue)) (xCons (xExpr (eMeth 273 "put" F_Data_put (eN "data") (lCons (eC (.str "sb")) (lCons (eBin addF (eC (.int 100)) (eN "number")) (lCons (eBin addF (eC (.int 100)) (eN "number")) (lCons (eN "kind") lNil)))))) xNil) xNil) xNil
structure DL (l : Loc) (dk kr da tx : Nat) : Prop where
  deck : l.lookup "deck" = some (.ref dk)
  kinds : l.lookup "kinds" = some (.ref kr)
  data : l.lookup "data" = some (.ref da)
  text : l.lookup "text" = some (.ref tx)
theorem DL.set {l : Loc} {dk kr da tx : Nat} (X : DL l dk kr da tx) {x : String} {v : MV} (h : x ≠ "deck" ∧ x ≠ "kinds" ∧ x ≠ "data" ∧ x ≠ "text") : DL (setKV x v l) dk kr da tx :=
  ⟨by rw [lookup_setKV, if_neg (Ne.symm h.1)]; exact X.deck, by rw [lookup_setKV, if_neg (Ne.symm h.2.1)]; exact X.kinds, by rw [lookup_setKV, if_neg (Ne.symm h.2.2.1)]; exact X.data, by rw [lookup_setKV, if_neg (Ne.symm h.2.2.2)]; exact X.text⟩
set_option maxHeartbeats 2000000 in
theorem data_body {l : Loc} {H : MH} {L dk kr da tx mp N i : Nat} {ks : List String} {k : String} (X : DL l dk kr da tx) (hkr : H[kr]? = some (.list (ks.map .str))) (hk : KINDS[i]? = some k)
    (D : DState H L da mp N (100 + (i : Int)) (1 + 2 * i) (fK ks i)) (h1 : l.lookup "number" = some (.int (i : Int))) (h2 : l.lookup "kind" = some (.str k)) :
    ∃ H', dataB l H = some (.next, l, H') ∧ DState H' L da mp N (100 + ((i + 1 : Nat) : Int)) (1 + 2 * (i + 1)) (fK ks (i + 1)) ∧ H.length ≤ H'.length ∧ (∀ j, j < N → j ≠ mp → H'[j]? = H[j]?) := by
  have hi : i < 15 := (List.getElem?_eq_some_iff.mp hk).1
  have t1 : tCmp inF (eN "kind") (eN "kinds") l H = some (ks.contains k, H) := tCmp_run (n_run h2) (n_run X.kinds) (in_list ks k hkr)
  have t2 : tCmp gtF (eN "number") (eC (.int 0)) l H = some (decide ((0 : Int) < (i : Int)), H) := tCmp_run (n_run h1) rfl (gt_int _ _ _)
  have skip : (k ∉ ks ∨ k = "Other") → tAnd (tCmp inF (eN "kind") (eN "kinds")) (tAnd (tCmp gtF (eN "number") (eC (.int 0))) tTrue) l H = some (false, H) → ∃ H', dataB l H = some (.next, l, H') ∧ DState H' L da mp N (100 + ((i + 1 : Nat) : Int)) (1 + 2 * (i + 1)) (fK ks (i + 1)) ∧ H.length ≤ H'.length ∧ (∀ j, j < N → j ≠ mp → H'[j]? = H[j]?) := by
    intro hs ht
    exact ⟨H, x_next (x_if ht (by rw [if_neg (by decide)]; rfl)) rfl, D.more (by omega) (by omega) (fK_skip hk hs), Nat.le_refl _, fun _ _ _ => rfl⟩
  cases c : ks.contains k with
  | false =>
    rw [c] at t1
    refine skip (.inl ?_) (and_no t1)
    intro hm
    rw [List.contains_iff_mem.mpr hm] at c
    cases c
  | true =>
    rw [c] at t1
    have hm : k ∈ ks := List.contains_iff_mem.mp c
    cases i with
    | zero =>
      refine skip (.inr ?_) (and_go t1 (and_no t2))
      have : KINDS[0]? = some "Other" := rfl
      rw [this] at hk
      cases hk
      rfl
    | succ i =>
      rw [decide_eq_true (by omega)] at t2
      have ho : k ≠ "Other" := by
        rintro rfl
        exact (kinds_apart i (by omega)).2 hk
      obtain ⟨H', e1, e2, e3, e4⟩ := E_dput D (by omega) (by omega) (by omega) (c := 100 + ((i + 1 : Nat) : Int)) (k := k) (by omega) (by omega) (Int.le_refl _) (fK_over (by omega)) (fK_last (by omega) hk) ho
      obtain ⟨dd, df, ml, Da, _⟩ := D
      obtain ⟨fs, i1, _, _, _, i2, _⟩ := Da.instD
      refine ⟨H', x_next (x_if (and_go t1 (and_go t2 rfl)) (by rw [if_pos rfl]; exact x_next (x_exp (methI_run (o := .ref da) (H1 := H) (n_run X.data) i1 i2 (lcons_run rfl (lcons_run (bin_run rfl (n_run h1) (add_int _ _ _)) (lcons_run (bin_run rfl (n_run h1) (add_int _ _ _)) (lcons_run (n_run h2) rfl)))) e1)) rfl)) rfl, e2.more (by omega) (by omega) (fun n => fK_put hk hm n), e3, e4⟩
end Nt
end
section
open PySem PySem.SeqAt
namespace Nt
theorem fix_of {H : MH} {L da mp N b tx : Nat} {top : Int} {ks : List String} (D : DState H L da mp N top b (fK ks 15)) (hb : b ≤ 60) (ht : H[tx]? = some (.list ((ks.map code).map .int))) (hk : ∀ k ∈ ks, k ∈ KINDS) (hl : ks.length ≤ 7) : Fix tx (ks.map code) (.ref da) ks H.length H := by
  refine ⟨Nat.le_refl _, (List.getElem?_eq_some_iff.mp ht).1, ht, by rw [List.length_map], by omega, rfl, fun H' h => ?_⟩
  have hN : N ≤ H'.length := by
    obtain ⟨_, _, _, D', h1, _⟩ := D
    have h0 : 0 < H.length := by
      have := (List.getElem?_eq_some_iff.mp ht).1
      omega
    have e := h (H.length - 1) (by omega)
    have e2 : H[H.length - 1]? = some (H[H.length - 1]'(by omega)) := by simp
    rw [e2] at e
    have := (List.getElem?_eq_some_iff.mp e).1
    omega
  obtain ⟨g1, g2⟩ := (D.turn (H' := H') (fun j _ hj => h j hj) hN).get hb
  refine ⟨fun i c k hc hki => ?_, g2⟩
  rw [List.getElem?_map, hki] at hc
  cases hc
  have hm := List.mem_of_getElem? hki
  rw [g1 _ (by show (0 : Int) ≤ 100 + (num k : Int); omega), fK_code hm (hk k hm)]
/-- the state of the law once the data stand -/
structure LS (l : Loc) (H : MH) (dk cl kr da tx t : Nat) (ks : List String) : Prop where
  dl : DL l dk kr da tx
  deck : Deck H dk cl t
  kl : H[kr]? = some (.list (ks.map .str))
  tl : H[tx]? = some (.list ((ks.map code).map .int))
  st : ∃ L mp N top b, DState H L da mp N top b (fK ks 15) ∧ b ≤ 60 ∧ dk < L ∧ cl < L ∧ L ≤ tx
  all : ∀ k ∈ ks, k ∈ KINDS
  len : ks.length ≤ 7
  kne : kr ≠ cl
theorem LS.fix {l : Loc} {H : MH} {dk cl kr da tx t : Nat} {ks : List String} (X : LS l H dk cl kr da tx t ks) : Fix tx (ks.map code) (.ref da) ks H.length H := by
  obtain ⟨L, mp, N, top, b, D, hb, _⟩ := X.st
  exact fix_of D hb X.tl X.all X.len
theorem LS.ex {l : Loc} {H H' : MH} {dk cl kr da tx t : Nat} {ks : List String} (X : LS l H dk cl kr da tx t ks) (E : Ex' H H') : LS l H' dk cl kr da tx t ks := by
  obtain ⟨L, mp, N, top, b, D, hb, h⟩ := X.st
  exact ⟨X.dl, X.deck.ex E, E.get X.kl, E.get X.tl, ⟨L, mp, N, top, b, D.ex E, hb, h⟩, X.all, X.len, X.kne⟩
theorem LS.set {l : Loc} {H : MH} {dk cl kr da tx t : Nat} {ks : List String} (X : LS l H dk cl kr da tx t ks) {x : String} {v : MV} (h : x ≠ "deck" ∧ x ≠ "kinds" ∧ x ≠ "data" ∧ x ≠ "text") : LS (setKV x v l) H dk cl kr da tx t ks :=
  ⟨X.dl.set h, X.deck, X.kl, X.tl, X.st, X.all, X.len, X.kne⟩
theorem LS.dk {l : Loc} {H H' : MH} {dk cl kr da tx t t' : Nat} {ks : List String} (X : LS l H dk cl kr da tx t ks) (K : DK dk cl H H') (D' : Deck H' dk cl t') : LS l H' dk cl kr da tx t' ks := by
  obtain ⟨L, mp, N, top, b, D, hb, h1, h2, h3⟩ := X.st
  have kn : kr ≠ dk := by
    rintro rfl
    obtain ⟨m, e⟩ := X.deck.dict
    have := X.kl
    rw [e] at this
    cases this
  have hN : N ≤ H.length := by obtain ⟨_, _, _, _, h, _⟩ := D; exact h
  exact ⟨X.dl, D', (K.old _ (List.getElem?_eq_some_iff.mp X.kl).1 kn X.kne).trans X.kl, (K.old _ (List.getElem?_eq_some_iff.mp X.tl).1 (by omega) (by omega)).trans X.tl, ⟨L, mp, N, top, b, D.turn (fun j hj hl => K.old j hl (by omega) (by omega)) (Nat.le_trans hN K.len), hb, h1, h2, h3⟩, X.all, X.len, X.kne⟩
noncomputable def codeV : MV → MV
  | .str k => .int (code k)
  | v => v
noncomputable def dataA : ExF := xAssign (eTup (lCons (eCall (newF 273 F_Data___init__) lNil) (lCons (eComp (eN "kinds") [] (aN "kind") tTrue (eBin addF (eC (.int 100)) (eMethL indexF (eCall F_law_kinds lNil) (lCons (eN "kind") lNil))) FU) lNil))) (aTup (aCons (aN "data") (aCons (aN "text") aNil)))
noncomputable def dataE : ExF := xEnum (eCall F_law_kinds lNil) (aTup (aCons (aN "number") (aCons (aN "kind") aNil))) dataB FU
set_option maxHeartbeats 2000000 in
theorem data_part {l : Loc} {H : MH} {dk cl kr t : Nat} {ks : List String} (X : KS l H dk cl kr t ks) (hl : ks.length ≤ 7) :
    ∃ l1 H1 l2 H2 da tx, dataA l H = some (.next, l1, H1) ∧ dataE l1 H1 = some (.next, l2, H2) ∧ LS l2 H2 dk cl kr da tx t ks := by
  have hdl : dk < H.length := by obtain ⟨m, e⟩ := X.dk.dict; exact (List.getElem?_eq_some_iff.mp e).1
  have hcl : cl < H.length := by obtain ⟨cs, e, _⟩ := X.dk.cells; exact (List.getElem?_eq_some_iff.mp e).1
  have hkl : kr < H.length := (List.getElem?_eq_some_iff.mp X.list).1
  obtain ⟨Y, n1, n2, n3⟩ := E_dnew H
  have E1 := Ex'.app H Y
  have hl1 : (H ++ Y).length = H.length + 6 := by rw [List.length_append, n2]
  generalize H ++ Y = H1 at n1 n3 E1 hl1
  have k1 := E1.get X.list
  obtain ⟨H2, c1, c2, c3⟩ := comp_run (f := eN "kinds") (l := l) (fs := []) (x := "kind") (t := tTrue) (g := eBin addF (eC (.int 100)) (eMethL indexF (eCall F_law_kinds lNil) (lCons (eN "kind") lNil))) (items := ks.map .str) (fun _ => true) codeV (n_run X.kinds) (iterOk_list k1) (by rw [List.length_map]; omega)
    (fun Hx i hE => iter_list k1 hE i)
    (fun i v Hx lx _ _ _ => ⟨Hx, rfl, Ex'.refl Hx⟩)
    (fun i v Hx lx hv _ _ _ => by
      rw [List.getElem?_map] at hv
      obtain ⟨y, hy, rfl⟩ := Option.map_eq_some_iff.mp hv
      obtain ⟨a1, a2, a3⟩ := num_ok (X.all y (List.mem_of_getElem? hy))
      have g : (Hx ++ [MO.list (KINDS.map .str)])[Hx.length]? = some (.list (KINDS.map .str)) := by simp
      exact ⟨Hx ++ [MO.list (KINDS.map .str)], bin_run rfl (methL_run (g := indexF) (call_run rfl (E_kinds Hx)) g (lcons_run (n_run (v := .str y) (by first | exact lke | exact lkn (by decide) lke | simp [lookup_setKV])) rfl) (index_run g a1 (by decide))) (add_int _ _ _), Ex'.app _ _⟩)
  rw [filter_all] at c3
  have hmap : (ks.map MV.str).map codeV = (ks.map code).map .int := by
    rw [List.map_map, List.map_map]; rfl
  rw [hmap] at c3
  have hl2 := c2.len
  generalize hL1 : setKV "text" (.ref H1.length) (setKV "data" (.ref (H.length + 1)) l) = L1
  have q1 : dataA l H = some (.next, L1, H2) := by
    refine x_asg (v := .tup [.ref (H.length + 1), .ref H1.length]) (H1 := H2) (tup_run (lcons_run (call_run rfl n1) (lcons_run c1 rfl)) (by simp)) ?_
    rw [← hL1]; rfl
  have DL1 : DL L1 dk kr (H.length + 1) H1.length := by
    rw [← hL1]
    refine ⟨?_, ?_, ?_, ?_⟩
    · exact lkn (by decide) (lkn (by decide) X.deck)
    · exact lkn (by decide) (lkn (by decide) X.kinds)
    · rw [lookup_setKV, if_neg (by decide), lookup_setKV, if_pos rfl]
    · rw [lookup_setKV, if_pos rfl]
  have E3 := Ex'.app H2 [MO.list (KINDS.map .str)]
  have g3 : (H2 ++ [MO.list (KINDS.map .str)])[H2.length]? = some (.list (KINDS.map .str)) := by simp
  have hl3 : (H2 ++ [MO.list (KINDS.map .str)]).length = H2.length + 1 := by simp
  have r3 := E_kinds H2
  generalize H2 ++ [MO.list (KINDS.map .str)] = H3 at E3 g3 hl3 r3
  have E13 := c2.trans E3
  have D3 : DState H3 H.length (H.length + 1) (H.length + 3) H3.length (100 + ((0 : Nat) : Int)) (1 + 2 * 0) (fK ks 0) := by
    obtain ⟨p, w, e⟩ := n3.attrs
    obtain ⟨dl, e2, e3⟩ := n3.defs
    exact ⟨H.length, H.length + 2, [], ⟨E13.get n3.inst, ⟨p, w, E13.get e⟩, ⟨dl, E13.get e2, e3⟩, E13.get n3.maps⟩, Nat.le_refl _, by omega, by omega, by omega, by omega, .inl ⟨rfl, fun n => by unfold fK; rw [if_neg (by omega)]⟩⟩
  have k3 : H3[kr]? = some (.list (ks.map .str)) := E13.get k1
  have ho : ∀ (i : Nat) (lx : Loc) (Hx : MH), (DL lx dk kr (H.length + 1) H1.length ∧ DState Hx H.length (H.length + 1) (H.length + 3) H3.length (100 + (i : Int)) (1 + 2 * i) (fK ks i) ∧ H3.length ≤ Hx.length ∧ ∀ j, j < H3.length → j ≠ H.length + 3 → Hx[j]? = H3[j]?) → Hx[H2.length]? = some (.list (KINDS.map .str)) := fun i lx Hx hC => (hC.2.2.2 _ (by omega) (by omega)).trans g3
  obtain ⟨L4, H4, q4, z1, z2, z3, z4⟩ := enum_list (src := .ref H2.length) (a := aTup (aCons (aN "number") (aCons (aN "kind") aNil))) (g := dataB) (KINDS.map MV.str)
    (fun i lx Hx => DL lx dk kr (H.length + 1) H1.length ∧ DState Hx H.length (H.length + 1) (H.length + 3) H3.length (100 + (i : Int)) (1 + 2 * i) (fK ks i) ∧ H3.length ≤ Hx.length ∧ ∀ j, j < H3.length → j ≠ H.length + 3 → Hx[j]? = H3[j]?)
    (fun i lx Hx hC => ⟨H2.length, by unfold listD; dsimp only; rw [ho i lx Hx hC]⟩)
    (fun i v lx Hx hv hC => by
      obtain ⟨y1, y2, y3, y4⟩ := hC
      rw [List.getElem?_map] at hv
      obtain ⟨k, hk, rfl⟩ := Option.map_eq_some_iff.mp hv
      have dl' : DL (setKV "kind" (.str k) (setKV "number" (.int (i : Int)) lx)) dk kr (H.length + 1) H1.length := (y1.set (by decide)).set (by decide)
      obtain ⟨H', b1, b2, b3, b4⟩ := data_body dl' ((y4 kr (by omega) (by omega)).trans k3) hk y2 (by first | exact lke | exact lkn (by decide) lke | simp [lookup_setKV]) (by first | exact lke | exact lkn (by decide) lke | simp [lookup_setKV])
      exact ⟨_, Hx, _, H', rfl, b1, dl', b2, by omega, fun j h1 h2 => (b4 j h1 h2).trans (y4 j h1 h2)⟩)
    15 0 FU L1 H3 rfl (Nat.zero_le _) (by decide) ⟨DL1, D3, Nat.le_refl _, fun _ _ _ => rfl⟩
  have h15 : (KINDS.map MV.str).length = 15 := rfl
  rw [h15] at z2
  have q5 : dataE L1 H2 = some (.next, L4, H4) := by
    unfold dataE xEnum
    rw [call_run (l := L1) (H := H2) (fa := lNil) rfl r3, Option.bind_some]
    dsimp only
    have : listD (.ref H2.length) H3 = some (H2.length, KINDS.map MV.str) := by unfold listD; dsimp only; rw [g3]
    rw [this, Option.bind_some]
    exact q4
  refine ⟨L1, H2, L4, H4, H.length + 1, H1.length, q1, q5, z1, ?_, ?_, ?_, ⟨H.length, H.length + 3, H3.length, _, _, z2, by decide, hdl, hcl, by omega⟩, X.all, hl, X.ne⟩
  · obtain ⟨m, e⟩ := X.dk.dict
    obtain ⟨cs, e2, e3⟩ := X.dk.cells
    exact ⟨⟨m, (z4 _ (by omega) (by omega)).trans (E13.get (E1.get e))⟩, ⟨cs, (z4 _ (by omega) (by omega)).trans (E13.get (E1.get e2)), e3⟩⟩
  · exact (z4 _ (by omega) (by omega)).trans k3
  · exact (z4 _ (by omega) (by omega)).trans (E3.get c3)
end Nt
end
section
open PySem PySem.SeqAt
namespace Nt
theorem due_small (ks : List String) (h : ks.length ≤ 7) : (dueP ks).length ≤ 8 := by have := due_len ks; omega
noncomputable def pB (ks : List String) : MV → Bool
  | .int i => B ks i.toNat
  | _ => false
theorem rng_due (ks : List String) : ((rngItems 0 (ks.length + 1)).filter (pB ks)).map id = intsL (dueP ks) := by
  unfold rngItems intsL dueP
  rw [List.map_id, List.filter_map]
  have e : (pB ks ∘ fun (j : Nat) => MV.int (0 + (j : Int))) = B ks := by
    funext j
    show B ks (0 + (j : Int)).toNat = _
    congr 1
    omega
  rw [e]
  apply List.map_congr_left
  intro j _
  congr 1
  omega
/-- the places of a range that a test picks -/
theorem due_comp {l : Loc} {H : MH} {kr : Nat} {ks : List String} {fs : List String} {t : TrF} (hk : l.lookup "kinds" = some (.ref kr)) (hm : H[kr]? = some (.list (ks.map .str))) (hl : ks.length ≤ 7)
    (ht : ∀ (j : Nat) (Hx : MH) (lx : Loc), j ≤ ks.length → Ex' H Hx → (∀ y, y ≠ "at" → lx.lookup y = (capt fs l).lookup y) → ∃ H2, t (setKV "at" (.int (j : Int)) lx) Hx = some (B ks j, H2) ∧ Ex' Hx H2) :
    ∃ H', eComp (eCall rangeF (lCons (eBin addF (eCall lenF (lCons (eN "kinds") lNil)) (eC (.int 1))) lNil)) fs (aN "at") t (eN "at") FU l H = some (.ref H.length, H') ∧ Ex' H H' ∧ H'[H.length]? = some (.list (intsL (dueP ks))) := by
  have hrng : eCall rangeF (lCons (eBin addF (eCall lenF (lCons (eN "kinds") lNil)) (eC (.int 1))) lNil) l H = some (.rng 0 ((ks.length : Int) + 1), H) := by
    refine call_run (lcons_run (bin_run (call_run (lcons_run (n_run hk) rfl) (lenF_list hm (by rw [List.length_map]; omega))) rfl (add_int _ _ _)) rfl) ?_
    rw [List.length_map]
    rfl
  have hitm : (((ks.length : Int) + 1) - 0).toNat = ks.length + 1 := by omega
  have hn : (rngItems 0 (ks.length + 1)).length = ks.length + 1 := by unfold rngItems; simp
  have at_item : ∀ (i : Nat) (v : MV), (rngItems 0 (ks.length + 1))[i]? = some v → ∃ j : Nat, v = .int (j : Int) ∧ j ≤ ks.length := by
    intro i v hv
    unfold rngItems at hv
    rw [List.getElem?_map] at hv
    obtain ⟨j, hj, rfl⟩ := Option.map_eq_some_iff.mp hv
    have := List.mem_range.mp (List.mem_of_getElem? hj)
    exact ⟨j, by congr 1; omega, by omega⟩
  obtain ⟨H', e1, e2, e3⟩ := comp_run (fs := fs) (x := "at") (t := t) (g := eN "at") (items := rngItems 0 (ks.length + 1)) (pB ks) id hrng (iterOk_rng (by omega) (by omega) (by omega) (by omega)) (by omega)
    (fun Hx i _ => by rw [iter_rng, hitm])
    (fun i v Hx lx hv hE hlx => by
      obtain ⟨j, rfl, hj⟩ := at_item i v hv
      exact ht j Hx lx hj hE hlx)
    (fun i v Hx lx hv _ hE hlx => ⟨Hx, n_run (by first | exact lke | exact lkn (by decide) lke | simp [lookup_setKV]), Ex'.refl Hx⟩)
  rw [rng_due] at e3
  exact ⟨H', e1, e2, e3⟩
theorem ne_same {H : MH} {a b : Nat} {R : List Nat} (h1 : H[a]? = some (.list (intsL R))) (h2 : H[b]? = some (.list (intsL R))) : neF (.ref a) (.ref b) H = some false := by
  rw [intsL_map] at h1 h2
  rw [ne_eq', eq_ints h1 h2]
  simp
theorem list_copy {H : MH} {r : Nat} {items : List MV} (h : H[r]? = some (.list items)) (hl : items.length ≤ 1000) : listF [.ref r] H = some (.ref H.length, H ++ [.list items]) := by
  unfold listF anyL
  dsimp only
  rw [h]
  dsimp only [Option.bind_some]
  rw [if_pos hl]
theorem eqv_pairs : ∀ ps : List (Nat × Nat), PyData.eqvAll (ps.map fun p => PyData.tuple [.int (p.1 : Int), .int (p.2 : Int)]) (ps.map fun p => PyData.tuple [.int (p.1 : Int), .int (p.2 : Int)]) = true
  | [] => by simp [PyData.eqvAll]
  | p :: ps => by
    rw [List.map_cons, PyData.eqvAll, eqv_pairs ps]
    simp [PyData.eqv, PyData.eqvAll]
noncomputable def pairsM (ps : List (Nat × Nat)) : List MV := ps.map fun p => MV.tup [.int (p.1 : Int), .int (p.2 : Int)]
theorem ne_pairs {H : MH} {a b : Nat} {ps : List (Nat × Nat)} (h1 : H[a]? = some (.list (pairsM ps))) (h2 : H[b]? = some (.list (pairsM ps))) : neF (.ref a) (.ref b) H = some false := by
  have e : mapO pyT (pairsM ps) = some (ps.map fun p => PyData.tuple [.int (p.1 : Int), .int (p.2 : Int)]) := mapO_map (f := pyT) (g := fun p : Nat × Nat => MV.tup [.int (p.1 : Int), .int (p.2 : Int)]) (h := fun p : Nat × Nat => PyData.tuple [.int (p.1 : Int), .int (p.2 : Int)]) (fun _ => rfl) ps
  rw [ne_eq']
  unfold eqF
  rw [pyH_list h1 e, pyH_list h2 e, Option.bind_some, Option.map_some]
  have : PyData.eqv (.list (ps.map fun p => PyData.tuple [.int (p.1 : Int), .int (p.2 : Int)])) (.list (ps.map fun p => PyData.tuple [.int (p.1 : Int), .int (p.2 : Int)])) = true := by
    rw [PyData.eqv, eqv_pairs]
  rw [this]
  rfl
theorem zip_ints : ∀ xs ys : List Nat, zipM (intsL xs) (intsL ys) = pairsM (xs.zip ys)
  | [], _ => by unfold intsL pairsM; simp [zipM]
  | _ :: _, [] => by unfold intsL pairsM; simp [zipM]
  | x :: xs, y :: ys => by
    have := zip_ints xs ys
    unfold intsL pairsM at *
    simp [zipM, this]
theorem pick_one_on (R : List Nat) : pickS (intsL R) (some 1) none none = intsL R.tail := by
  cases R with
  | nil => rfl
  | cons x R =>
    have := pick_from (intsL (x :: R)) 1 (by rw [intsL_len]; simp)
    have e : ((1 : Nat) : Int) = 1 := rfl
    rw [e] at this
    rw [this]
    rfl
theorem ne_opt (o : Option Nat) (H : MH) : neF (optI o) (optI o) H = some false := by
  cases o with
  | none => simp [neF, eqF, optI, pyH, PyData.eqv]
  | some x => rw [ne_eq']; unfold optI; rw [eq_int]; simp
theorem eq_opt (o : Option Nat) (H : MH) : eqF (optI o) (optI o) H = some true := by
  cases o with
  | none => simp [eqF, optI, pyH, PyData.eqv]
  | some x => unfold optI; rw [eq_int]; simp
end Nt
end
section
open PySem PySem.SeqAt
namespace Nt
theorem D2_bool (last : String) (bl : List String) (far : String) (goes : Bool) : D2 last bl far goes = if para last = true then (!(last == "CR") || !(far == "LF")) else (!never far && (!(!row (bl.headD "") || ((far == "Close" && !(bl.headD "" == "Sp")) || (bl.headD "" == "ATerm" && ((far == "Upper" && cased (bl.tail.headD "")) || far == "Numeric")))) && (T bl == "STerm" || (T bl == "ATerm" && !goes)))) := by
  unfold D2
  simp only [if_ff, if_tt, Bool.decide_and, Bool.decide_or, dec_bool, dec_false, dec_str, bne, decide_not]
theorem abbr_bool (ks : List String) (i : Nat) (far : String) : abbrP ks i far = ((W ks i).headD "" == "ATerm" && ((far == "Upper" && cased ((W ks i).tail.headD "")) || far == "Numeric")) := by
  unfold abbrP
  generalize (W ks i).headD "" = X
  generalize cased ((W ks i).tail.headD "") = Y
  by_cases h1 : X = "ATerm"
  · by_cases h2 : far = "Upper"
    · simp [h1, h2]
    · simp [h1, h2]
  · simp [h1]
theorem E_break {text data : MV} {ks : List String} {H : MH} (V : View text data ks H) (i : Nat) (hi : i ≤ ks.length) : F_sentence_break [text, .int (i : Int), data] H = some (.bool (B ks i), H) := by
  have K := E_kind V
  have hn := V.small
  have hz : (["text", "at", "data"].zip [text, MV.int (i : Int), data]).reverse = [("data", data), ("at", .int (i : Int)), ("text", text)] := rfl
  generalize hL0 : ([("data", data), ("at", .int (i : Int)), ("text", text)] : Loc) = L0 at hz
  have d0 : L0.lookup "data" = some data := by rw [← hL0]; simp [List.lookup_cons]
  have t0 : L0.lookup "text" = some text := by rw [← hL0]; simp [List.lookup_cons]
  have a0 : L0.lookup "at" = some (.int (i : Int)) := by rw [← hL0]; simp [List.lookup_cons]
  have hlen : eCall lenF (lCons (eN "text") lNil) L0 H = some (.int ks.length, H) := call_run (lcons_run (n_run t0) rfl) (E_len V)
  unfold F_sentence_break
  refine fn_ret rfl ?_
  rw [hz]
  refine stop_or (or_v (tCmp_run (n_run a0) rfl (eq_int _ _ _)) (or_v (tCmp_run (n_run a0) hlen (eq_int _ _ _)) rfl)) (ecmp_v hlen rfl (gt_int _ _ _)) (fun e => ?_) (fun e => ?_)
  · have h0 : i = 0 ∨ i = ks.length := by
      have : i = 0 ∨ (i : Int) = (ks.length : Int) := by simpa using e
      omega
    unfold B
    rw [if_pos h0]
    congr 1
    exact decide_eq_decide.mpr (by omega)
  have h0 : ¬ (i = 0 ∨ i = ks.length) := by
    intro h
    have h' : i = 0 ∨ (i : Int) = (ks.length : Int) := by omega
    have : ((i : Int) == 0 || ((i : Int) == (ks.length : Int) || false)) = true := by simpa using h'
    rw [e] at this
    cases this
  have h1 : 0 < i := by omega
  have hk' : ks[i]? = some ks[i] := by simp
  have ki := kd_at hk'
  obtain ⟨p, hp, e1, e2⟩ := W_bz ks i hi h1
  have hwh : (W ks i).headD "" = kd ks (p : Int) := by rw [e2]; rfl
  have hab := E_abbr V i hi h1
  rw [ki, abbr_bool, hwh] at hab
  obtain ⟨tp, tsp, htl⟩ := E_tail V i hi
  have hgo := E_goes V i hi
  have hbs := E_base V (i : Int) (by omega)
  rw [e1] at hbs
  have hB : B ks i = D2 (kd ks ((i : Int) - 1)) (W ks i) ks[i] (goesOn (ks.drop i)) := by
    unfold B
    rw [if_neg h0, D_eq, last_take h1 hi, hk']
    rfl
  rw [hB, D2_bool, hwh]
  have hki := K (i : Int)
  rw [ki] at hki
  generalize (ks[i]'(by omega)) = far at hki hab
  generalize hlast : kd ks ((i : Int) - 1) = last
  generalize T (W ks i) = TT at htl
  generalize goesOn (ks.drop i) = go at hgo
  generalize cased ((W ks i).tail.headD "") = cs at hab
  generalize hbk : kd ks (p : Int) = bk at hab
  generalize hL1 : setKV "last" (.str last) (setKV "kind" (.str far) L0) = L1
  have q1 : xAssign (eTup (lCons (eCall F_sentence_kind (lCons (eN "text") (lCons (eBin subF (eN "at") (eC (.int 1))) (lCons (eN "data") lNil)))) (lCons (eCall F_sentence_kind (lCons (eN "text") (lCons (eN "at") (lCons (eN "data") lNil)))) lNil))) (aRev ["last", "kind"]) L0 H = some (.next, L1, H) := by
    refine x_asg (tup_run (lcons_run (call_run (lcons_run (n_run t0) (lcons_run (bin_run (n_run a0) rfl (sub_int _ _ _)) (lcons_run (n_run d0) rfl))) (K _)) (lcons_run (call_run (lcons_run (n_run t0) (lcons_run (n_run a0) (lcons_run (n_run d0) rfl))) hki) rfl)) (by simp)) ?_
    rw [hlast, ← hL1]; rfl
  have d1 : L1.lookup "data" = some data := by rw [← hL1]; first | exact lkn (by decide) d0 | exact lkn (by decide) (lkn (by decide) d0) | simp [lookup_setKV, d0]
  have t1 : L1.lookup "text" = some text := by rw [← hL1]; first | exact lkn (by decide) t0 | exact lkn (by decide) (lkn (by decide) t0) | simp [lookup_setKV, t0]
  have a1 : L1.lookup "at" = some (.int (i : Int)) := by rw [← hL1]; first | exact lkn (by decide) a0 | exact lkn (by decide) (lkn (by decide) a0) | simp [lookup_setKV, a0]
  have l1 : L1.lookup "last" = some (.str last) := by rw [← hL1]; first | exact lke | exact lkn (by decide) lke | simp [lookup_setKV]
  have k1 : L1.lookup "kind" = some (.str far) := by rw [← hL1]; first | exact lke | exact lkn (by decide) lke | simp [lookup_setKV]
  have args1 : lCons (eN "text") (lCons (eN "at") (lCons (eN "data") lNil)) L1 H = some ([text, .int (i : Int), data], H) := lcons_run (n_run t1) (lcons_run (n_run a1) (lcons_run (n_run d1) rfl))
  suffices h : ∃ l', xCons (xIf (tCmp inF (eN "last") (eC V_SENTENCE_PARAS)) (xCons (xRet (eOr (eCmp neF (eN "last") (eC (.str "CR"))) (eCmp neF (eN "kind") (eC (.str "LF"))))) xNil) xNil) (xCons (xIf (tCmp inF (eN "kind") (eC V_SENTENCE_NEVER)) (xCons (xRet (eC (.bool false))) xNil) xNil) (xCons (xAssign (eCall F_sentence_kind (lCons (eN "text") (lCons (eCall F_sentence_base (lCons (eN "text") (lCons (eN "at") (lCons (eN "data") lNil)))) (lCons (eN "data") lNil)))) (aN "before")) (xCons (xIf (tOr (tCmp notInF (eN "before") (eC V_SENTENCE_ROW)) (tOr (tAnd (tCmp eqF (eN "kind") (eC (.str "Close"))) (tAnd (tCmp neF (eN "before") (eC (.str "Sp"))) tTrue)) (tOr (eT (eCall F_sentence_is_abbreviated (lCons (eN "text") (lCons (eN "at") (lCons (eN "data") lNil))))) tFalse))) (xCons (xRet (eC (.bool false))) xNil) xNil) (xCons (xAssign (eCall F_sentence_tail (lCons (eN "text") (lCons (eN "at") (lCons (eN "data") lNil)))) (aTup (aCons (aN "term") (aCons (aN "place") (aCons (aN "is_spaced") aNil))))) (xCons (xRet (eOr (eCmp eqF (eN "term") (eC (.str "STerm"))) (eAnd (eCmp eqF (eN "term") (eC (.str "ATerm"))) (eNot (eCall F_sentence_goes_on (lCons (eN "text") (lCons (eN "at") (lCons (eN "data") lNil)))))))) xNil))))) L1 H = some (.ret (.bool (if para last = true then (!(last == "CR") || !(far == "LF")) else (!never far && (!(!row bk || ((far == "Close" && !(bk == "Sp")) || (bk == "ATerm" && ((far == "Upper" && cs) || far == "Numeric")))) && (TT == "STerm" || (TT == "ATerm" && !go)))))), l', H) by
    obtain ⟨l', q⟩ := h
    exact ⟨l', x_next q1 q⟩
  clear q1 hL1 hL0 hB hlast hwh hz e1 e2 d0 t0 a0 hlen K
  refine stop_or (tCmp_run (n_run l1) rfl (in_PARAS _ _)) (eor_v (ecmp_v (n_run l1) rfl (ne_str _ _ _)) (ecmp_v (n_run k1) rfl (ne_str _ _ _))) (fun e => by rw [if_pos e]) (fun e => ?_)
  rw [if_neg (by rw [e]; decide)]
  refine stop_or (tCmp_run (n_run k1) rfl (in_NEVER _ _)) rfl (fun e => by rw [e]; rfl) (fun e => ?_)
  rw [e]
  have hbef : eCall F_sentence_kind (lCons (eN "text") (lCons (eCall F_sentence_base (lCons (eN "text") (lCons (eN "at") (lCons (eN "data") lNil)))) (lCons (eN "data") lNil))) L1 H = some (.str bk, H) := by
    rw [← hbk]
    exact call_run (lcons_run (n_run t1) (lcons_run (call_run args1 hbs) (lcons_run (n_run d1) rfl))) (E_kind V _)
  generalize hL2 : setKV "before" (.str bk) L1 = L2
  have t2 : L2.lookup "text" = some text := by rw [← hL2, lookup_setKV, if_neg (by decide)]; exact t1
  have a2 : L2.lookup "at" = some (.int (i : Int)) := by rw [← hL2, lookup_setKV, if_neg (by decide)]; exact a1
  have d2 : L2.lookup "data" = some data := by rw [← hL2, lookup_setKV, if_neg (by decide)]; exact d1
  have args2 : lCons (eN "text") (lCons (eN "at") (lCons (eN "data") lNil)) L2 H = some ([text, .int (i : Int), data], H) := lcons_run (n_run t2) (lcons_run (n_run a2) (lcons_run (n_run d2) rfl))
  have b2 : L2.lookup "before" = some (.str bk) := by rw [← hL2]; first | exact lke | exact lkn (by decide) lke | simp [lookup_setKV]
  have k2 : L2.lookup "kind" = some (.str far) := by rw [← hL2]; first | exact lkn (by decide) k1 | exact lkn (by decide) (lkn (by decide) k1) | simp [lookup_setKV, k1]
  have q2 := x_asg (a := aN "before") hbef rfl
  suffices h : ∃ l', xCons (xIf (tOr (tCmp notInF (eN "before") (eC V_SENTENCE_ROW)) (tOr (tAnd (tCmp eqF (eN "kind") (eC (.str "Close"))) (tAnd (tCmp neF (eN "before") (eC (.str "Sp"))) tTrue)) (tOr (eT (eCall F_sentence_is_abbreviated (lCons (eN "text") (lCons (eN "at") (lCons (eN "data") lNil))))) tFalse))) (xCons (xRet (eC (.bool false))) xNil) xNil) (xCons (xAssign (eCall F_sentence_tail (lCons (eN "text") (lCons (eN "at") (lCons (eN "data") lNil)))) (aTup (aCons (aN "term") (aCons (aN "place") (aCons (aN "is_spaced") aNil))))) (xCons (xRet (eOr (eCmp eqF (eN "term") (eC (.str "STerm"))) (eAnd (eCmp eqF (eN "term") (eC (.str "ATerm"))) (eNot (eCall F_sentence_goes_on (lCons (eN "text") (lCons (eN "at") (lCons (eN "data") lNil)))))))) xNil)) L2 H = some (.ret (.bool (!false && (!(!row bk || ((far == "Close" && !(bk == "Sp")) || (bk == "ATerm" && ((far == "Upper" && cs) || far == "Numeric")))) && (TT == "STerm" || (TT == "ATerm" && !go))))), l', H) by
    obtain ⟨l', q⟩ := h
    rw [← hL2] at q
    exact ⟨l', x_next q2 q⟩
  clear q2 hL2 hbef args1 t1 a1 d1 l1 k1
  refine stop_or (or_v (tCmp_run (n_run b2) rfl (by rw [notIn_eq, in_ROW]; rfl)) (or_v (and_v (tCmp_run (n_run k2) rfl (eq_str _ _ _)) (and_v (tCmp_run (n_run b2) rfl (ne_str _ _ _)) rfl)) (or_v (et_run (call_run args2 hab)) rfl))) rfl (fun e => ?_) (fun e => ?_)
  · rw [Bool.and_true, Bool.or_false] at e
    rw [e]
    rfl
  · rw [Bool.and_true, Bool.or_false] at e
    rw [e]
    have o : ∀ (x : String) (v : MV), x ≠ "term" → x ≠ "place" → x ≠ "is_spaced" → L2.lookup x = some v → (setKV "is_spaced" (.bool tsp) (setKV "place" (.int tp) (setKV "term" (.str TT) L2))).lookup x = some v := fun x v h1 h2 h3 h => by rw [lookup_setKV, if_neg h3, lookup_setKV, if_neg h2, lookup_setKV, if_neg h1]; exact h
    have t3 : (setKV "is_spaced" (.bool tsp) (setKV "place" (.int tp) (setKV "term" (.str TT) L2))).lookup "term" = some (.str TT) := by first | exact lke | exact lkn (by decide) lke | simp [lookup_setKV]
    exact ⟨_, x_next (l1 := setKV "is_spaced" (.bool tsp) (setKV "place" (.int tp) (setKV "term" (.str TT) L2))) (x_asg (call_run args2 htl) rfl) (x_ret (x_retv (eor_v (ecmp_v (n_run t3) rfl (eq_str _ _ _)) (eand_v (ecmp_v (n_run t3) rfl (eq_str _ _ _)) (enot_v (call_run (lcons_run (n_run (o _ _ (by decide) (by decide) (by decide) t2)) (lcons_run (n_run (o _ _ (by decide) (by decide) (by decide) a2)) (lcons_run (n_run (o _ _ (by decide) (by decide) (by decide) d2)) rfl))) hgo))))))⟩
end Nt
end
section
open PySem PySem.SeqAt
namespace Nt
noncomputable def lawDue : ExF := xAssign (eComp (eCall rangeF (lCons (eBin addF (eCall lenF (lCons (eN "kinds") lNil)) (eC (.int 1))) lNil)) ["kinds"] (aN "at") (eT (eCall F_law_is_end (lCons (eN "kinds") (lCons (eN "at") lNil)))) (eN "at") FU) (aN "due")
noncomputable def lawIf1 : ExF := xIf (tOr (tCmp neF (eComp (eCall rangeF (lCons (eBin addF (eCall lenF (lCons (eN "kinds") lNil)) (eC (.int 1))) lNil)) ["text", "data"] (aN "at") (eT (eCall F_sentence_break (lCons (eN "text") (lCons (eN "at") (lCons (eN "data") lNil))))) (eN "at") FU) (eN "due")) (tOr (tCmp neF (eCall listF (lCons (eCall F_sentence_places (lCons (eN "text") (lCons (eN "data") lNil))) lNil)) (eN "due")) tFalse)) (xCons (xRet (eC (.bool false))) xNil) xNil
noncomputable def lawIf2 : ExF := xIf (tCmp neF (eComp (eCall F_sentences (lCons (eN "text") (lCons (eN "data") lNil))) [] (aN "pair") tTrue (eCall tupleF (lCons (eN "pair") lNil)) FU) (eZip (eN "due") (eSlice (eN "due") (pSo (eC (.int 1))) pNo pNo))) (xCons (xRet (eC (.bool false))) xNil) xNil
noncomputable def lawAt : ExF := xAssign (eBin subF (eCall F_law_draw (lCons (eN "deck") (lCons (eBin addF (eCall lenF (lCons (eN "kinds") lNil)) (eC (.int 3))) lNil))) (eC (.int 1))) (aN "at")
noncomputable def lawLS : ExF := xAssign (eTup (lCons (eComp (eN "due") ["at"] (aN "place") (tCmp gtF (eN "place") (eN "at")) (eN "place") FU) (lCons (eComp (eN "due") ["at"] (aN "place") (tCmp ltF (eN "place") (eN "at")) (eN "place") FU) lNil))) (aRev ["later", "sooner"])
noncomputable def lawIf3 : ExF := xIf (tCmp neF (eCall F_sentence_next (lCons (eN "text") (lCons (eN "at") (lCons (eN "data") lNil)))) (eIf (tCmp neF (eN "later") (eLst lNil)) (eSub (eN "later") (eC (.int 0))) (eC .none))) (xCons (xRet (eC (.bool false))) xNil) xNil
noncomputable def lawEnd : ExF := xRet (eCmp eqF (eCall F_sentence_previous (lCons (eN "text") (lCons (eN "at") (lCons (eN "data") lNil)))) (eIf (tCmp neF (eN "sooner") (eLst lNil)) (eSub (eN "sooner") (eNeg (eC (.int 1)))) (eC .none)))
theorem or_no {f g : TrF} {l : Loc} {H H1 : MH} {r : Option (Bool × MH)} (h : f l H = some (false, H1)) (e : g l H1 = r) : tOr f g l H = r := by
  unfold tOr
  rw [h]
  exact e
theorem pass_if {t : TrF} {A : ExF} {l : Loc} {H H1 : MH} (h : t l H = some (false, H1)) : xIf t A xNil l H = some (.next, l, H1) := x_if h (by rw [if_neg (by decide)]; rfl)
section
variable {l : Loc} {H : MH} {dk cl kr da tx t : Nat} {ks : List String}
theorem law_due (X : LS l H dk cl kr da tx t ks) : ∃ H' r, lawDue l H = some (.next, setKV "due" (.ref r) l, H') ∧ Ex' H H' ∧ H'[r]? = some (.list (intsL (dueP ks))) ∧ H.length ≤ r := by
  obtain ⟨H', e1, e2, e3⟩ := due_comp (fs := ["kinds"]) (t := eT (eCall F_law_is_end (lCons (eN "kinds") (lCons (eN "at") lNil)))) X.dl.kinds X.kl X.len (fun j Hx lx hj hE hlx => by
    obtain ⟨H2, a1, a2⟩ := E_isEnd (hE.get X.kl) (by have := X.len; omega) j hj
    refine ⟨H2, et_run (call_run (lcons_run (n_run (v := .ref kr) ?_) (lcons_run (n_run (v := .int (j : Int)) (by first | exact lke | exact lkn (by decide) lke | simp [lookup_setKV])) rfl)) a1), a2⟩
    rw [lookup_setKV, if_neg (by decide), hlx _ (by decide), capt_lookup]
    exact X.dl.kinds)
  exact ⟨H', H.length, x_asg e1 rfl, e2, e3, Nat.le_refl _⟩
theorem law_if1 (X : LS l H dk cl kr da tx t ks) {r : Nat} (hd : l.lookup "due" = some (.ref r)) (hr : H[r]? = some (.list (intsL (dueP ks)))) : ∃ H', lawIf1 l H = some (.next, l, H') ∧ Ex' H H' := by
  have hl8 := due_small ks X.len
  obtain ⟨H1, e1, e2, e3⟩ := due_comp (fs := ["text", "data"]) (t := eT (eCall F_sentence_break (lCons (eN "text") (lCons (eN "at") (lCons (eN "data") lNil))))) X.dl.kinds X.kl X.len (fun j Hx lx hj hE hlx => by
    refine ⟨Hx, et_run (call_run (lcons_run (n_run (v := .ref tx) ?_) (lcons_run (n_run (v := .int (j : Int)) (by first | exact lke | exact lkn (by decide) lke | simp [lookup_setKV])) (lcons_run (n_run (v := .ref da) ?_) rfl))) (E_break (X.fix.ex hE).view j hj)), Ex'.refl _⟩
    · rw [lookup_setKV, if_neg (by decide), hlx _ (by decide), capt_lookup]
      exact X.dl.text
    · rw [lookup_setKV, if_neg (by decide), hlx _ (by decide), capt_lookup]
      exact X.dl.data)
  have t1 : tCmp neF (eComp (eCall rangeF (lCons (eBin addF (eCall lenF (lCons (eN "kinds") lNil)) (eC (.int 1))) lNil)) ["text", "data"] (aN "at") (eT (eCall F_sentence_break (lCons (eN "text") (lCons (eN "at") (lCons (eN "data") lNil))))) (eN "at") FU) (eN "due") l H = some (false, H1) :=
    tCmp_run e1 (n_run hd) (ne_same e3 (e2.get hr))
  obtain ⟨q, H2, p1, p2, p3⟩ := E_places (X.fix.ex e2)
  have p2' : H2[q]? = some (.list (intsL (dueP ks))) := p2
  have E3 := Ex'.app H2 [MO.list (intsL (dueP ks))]
  have g3 : (H2 ++ [MO.list (intsL (dueP ks))])[H2.length]? = some (.list (intsL (dueP ks))) := by simp
  have c3 := list_copy p2' (by rw [intsL_len]; omega)
  generalize H2 ++ [MO.list (intsL (dueP ks))] = H3 at E3 g3 c3
  have t2 : tCmp neF (eCall listF (lCons (eCall F_sentence_places (lCons (eN "text") (lCons (eN "data") lNil))) lNil)) (eN "due") l H1 = some (false, H3) :=
    tCmp_run (call_run (lcons_run (call_run (lcons_run (n_run X.dl.text) (lcons_run (n_run X.dl.data) rfl)) p1) rfl) c3) (n_run hd) (ne_same g3 ((e2.trans (p3.trans E3)).get hr))
  exact ⟨H3, pass_if (or_no t1 (or_no t2 rfl)), e2.trans (p3.trans E3)⟩
theorem law_if2 (X : LS l H dk cl kr da tx t ks) {r : Nat} (hd : l.lookup "due" = some (.ref r)) (hr : H[r]? = some (.list (intsL (dueP ks)))) : ∃ H', lawIf2 l H = some (.next, l, H') ∧ Ex' H H' := by
  have hl8 := due_small ks X.len
  obtain ⟨q, H1, p1, p2, p3⟩ := E_sentences X.fix
  have hpl : (pairsP (dueP ks)).length ≤ 8 := by
    unfold pairsP
    rw [List.length_map, List.length_zip]
    omega
  obtain ⟨H2, c1, c2, c3⟩ := comp_run (f := eCall F_sentences (lCons (eN "text") (lCons (eN "data") lNil))) (l := l) (fs := []) (x := "pair") (t := tTrue) (g := eCall tupleF (lCons (eN "pair") lNil)) (items := pairsP (dueP ks)) (fun _ => true) id (call_run (lcons_run (n_run X.dl.text) (lcons_run (n_run X.dl.data) rfl)) p1) (iterOk_list p2) (by omega)
    (fun Hx i hE => iter_list p2 hE i)
    (fun i v Hx lx _ _ _ => ⟨Hx, rfl, Ex'.refl Hx⟩)
    (fun i v Hx lx hv _ _ _ => by
      unfold pairsP at hv
      rw [List.getElem?_map] at hv
      obtain ⟨y, hy, rfl⟩ := Option.map_eq_some_iff.mp hv
      exact ⟨Hx, call_run (lcons_run (n_run (v := .tup [.int (y.1 : Int), .int (y.2 : Int)]) (by first | exact lke | exact lkn (by decide) lke | simp [lookup_setKV])) rfl) rfl, Ex'.refl Hx⟩)
  rw [filter_all, List.map_id] at c3
  have E02 := p3.trans c2
  have hr2 := E02.get hr
  have E3 := Ex'.app H2 [MO.list (intsL (dueP ks).tail)]
  have g3 : (H2 ++ [MO.list (intsL (dueP ks).tail)])[H2.length]? = some (.list (intsL (dueP ks).tail)) := by simp
  have s3 : eSlice (eN "due") (pSo (eC (.int 1))) pNo pNo l H2 = some (.ref H2.length, H2 ++ [.list (intsL (dueP ks).tail)]) := by
    rw [slice_run (a := some 1) (b := none) (n_run hd) rfl rfl hr2 (by rw [intsL_len]; omega), pick_one_on]
  generalize H2 ++ [MO.list (intsL (dueP ks).tail)] = H3 at E3 g3 s3
  have z4 : eZip (eN "due") (eSlice (eN "due") (pSo (eC (.int 1))) pNo pNo) l H2 = some (.ref H3.length, H3 ++ [.list (pairsM ((dueP ks).zip (dueP ks).tail))]) := by
    unfold eZip
    rw [n_run hd, Option.bind_some]
    dsimp only
    rw [s3, Option.bind_some]
    dsimp only
    have a1 : anyL (.ref r) H3 = some (intsL (dueP ks)) := by unfold anyL; dsimp only; rw [E3.get hr2]
    have a2 : anyL (.ref H2.length) H3 = some (intsL (dueP ks).tail) := by unfold anyL; dsimp only; rw [g3]
    unfold zipL
    rw [a1, Option.bind_some, a2, Option.bind_some, if_pos (by rw [intsL_len]; omega), zip_ints]
  have E4 := Ex'.app H3 [MO.list (pairsM ((dueP ks).zip (dueP ks).tail))]
  have g4 : (H3 ++ [MO.list (pairsM ((dueP ks).zip (dueP ks).tail))])[H3.length]? = some (.list (pairsM ((dueP ks).zip (dueP ks).tail))) := by simp
  generalize H3 ++ [MO.list (pairsM ((dueP ks).zip (dueP ks).tail))] = H4 at E4 g4 z4
  exact ⟨H4, pass_if (tCmp_run c1 z4 (ne_pairs ((E3.trans E4).get c3) g4)), E02.trans (E3.trans E4)⟩
set_option maxHeartbeats 2000000 in
theorem law_rest (X : LS l H dk cl kr da tx t ks) (ht : t ≤ 100) {r : Nat} (hd : l.lookup "due" = some (.ref r)) (hr : H[r]? = some (.list (intsL (dueP ks)))) (h1 : r ≠ dk) (h2 : r ≠ cl) : ∃ l' H', xCons lawAt (xCons lawLS (xCons lawIf3 (xCons lawEnd xNil))) l H = some (.ret (.bool true), l', H') := by
  have hl8 := due_small ks X.len
  have hl7 := X.len
  obtain ⟨j, H1, e1, _, d1, K1⟩ := draw_call X.dl.deck X.deck ht (f := eBin addF (eCall lenF (lCons (eN "kinds") lNil)) (eC (.int 3))) (b := (ks.length : Int) + 3) (bin_run (call_run (lcons_run (n_run X.dl.kinds) rfl) (lenF_list X.kl (by rw [List.length_map]; omega))) rfl (by rw [add_int, List.length_map])) (by omega) (by omega)
  have hr1 := (K1.old _ (List.getElem?_eq_some_iff.mp hr).1 h1 h2).trans hr
  have X1 := (X.dk K1 d1).set (x := "at") (v := .int ((j : Int) - 1)) (by decide)
  have q1 : lawAt l H = some (.next, setKV "at" (.int ((j : Int) - 1)) l, H1) := x_asg (bin_run e1 rfl (sub_int _ _ _)) rfl
  generalize (j : Int) - 1 = at_ at X1 q1
  have hd1 : (setKV "at" (.int at_) l).lookup "due" = some (.ref r) := by exact lkn (by decide) hd
  have ha1 : (setKV "at" (.int at_) l).lookup "at" = some (.int at_) := by first | exact lke | exact lkn (by decide) lke | simp [lookup_setKV]
  generalize setKV "at" (.int at_) l = l1 at X1 q1 hd1 ha1
  obtain ⟨H2, u1, u2, u3⟩ := pick_ints (f := eN "due") (fs := ["at"]) (F := gtF) (p := fun x => decide (at_ < x)) (fun _ _ => rfl) (n_run hd1) hr1 (by omega) (by rw [capt_lookup]; exact ha1)
  obtain ⟨H3, v1, v2, v3⟩ := pick_ints (f := eN "due") (fs := ["at"]) (F := ltF) (p := fun x => decide (x < at_)) (fun _ _ => rfl) (n_run hd1) (u2.get hr1) (by omega) (by rw [capt_lookup]; exact ha1)
  have hf1 := List.length_filter_le (fun (i : Nat) => decide (at_ < (i : Int))) (dueP ks)
  have hf2 := List.length_filter_le (fun (i : Nat) => decide ((i : Int) < at_)) (dueP ks)
  have q2 : lawLS l1 H1 = some (.next, setKV "later" (.ref H1.length) (setKV "sooner" (.ref H2.length) l1), H3) :=
    x_asg (tup_run (lcons_run u1 (lcons_run v1 rfl)) (by simp)) rfl
  have u3' := v2.get u3
  have X3 := ((X1.ex (u2.trans v2)).set (x := "sooner") (v := .ref H2.length) (by decide)).set (x := "later") (v := .ref H1.length) (by decide)
  have la : (setKV "later" (.ref H1.length) (setKV "sooner" (.ref H2.length) l1)).lookup "later" = some (.ref H1.length) := by first | exact lke | exact lkn (by decide) lke | simp [lookup_setKV]
  have so : (setKV "later" (.ref H1.length) (setKV "sooner" (.ref H2.length) l1)).lookup "sooner" = some (.ref H2.length) := by first | exact lke | exact lkn (by decide) lke | simp [lookup_setKV]
  have ha3 : (setKV "later" (.ref H1.length) (setKV "sooner" (.ref H2.length) l1)).lookup "at" = some (.int at_) := by
    rw [lookup_setKV, if_neg (by decide), lookup_setKV, if_neg (by decide)]
    exact ha1
  generalize setKV "later" (.ref H1.length) (setKV "sooner" (.ref H2.length) l1) = l3 at q2 X3 la so ha3
  obtain ⟨H4, n1, n2⟩ := E_next X3.fix at_
  obtain ⟨H5, f1, f2⟩ := first_or la (n2.get u3') (by omega)
  rw [List.head?_filter] at f1
  have q3 : lawIf3 l3 H3 = some (.next, l3, H5) :=
    pass_if (tCmp_run (call_run (lcons_run (n_run X3.dl.text) (lcons_run (n_run ha3) (lcons_run (n_run X3.dl.data) rfl))) n1) f1 (ne_opt _ _))
  have E35 := n2.trans f2
  have X5 := X3.ex E35
  obtain ⟨H6, p1, p2⟩ := E_prev X5.fix (by omega) at_
  obtain ⟨H7, g1, g2⟩ := last_or so ((E35.trans p2).get v3) (by omega)
  have q4 : lawEnd l3 H5 = some (.ret (.bool true), l3, H7) := by
    refine x_retv ?_
    unfold eCmp
    rw [call_run (lcons_run (n_run X3.dl.text) (lcons_run (n_run ha3) (lcons_run (n_run X3.dl.data) rfl))) p1, Option.bind_some]
    dsimp only
    rw [g1, Option.bind_some]
    dsimp only
    rw [eq_opt]
    rfl
  exact ⟨l3, H7, x_next q1 (x_next q2 (x_next q3 (x_ret q4)))⟩
end
set_option maxHeartbeats 2000000 in
theorem E_law (ns : List Int) (hn : ns.length ≤ 63) : ∃ H', F_law [.lst (ns.map .int)] [] = some (.bool true, H') := by
  have hz : (["script"].zip [MV.lst (ns.map .int)]).reverse = [("script", .lst (ns.map .int))] := rfl
  obtain ⟨dk, cl, H1, e1, D1⟩ := E_deck ns hn []
  have q1 : xAssign (eCall F_law_deck (lCons (eN "script") lNil)) (aN "deck") [("script", .lst (ns.map .int))] [] = some (.next, setKV "deck" (.ref dk) [("script", .lst (ns.map .int))], H1) :=
    x_asg (call_run (lcons_run (n_run (v := .lst (ns.map .int)) (by simp [List.lookup_cons])) rfl) e1) rfl
  obtain ⟨l2, H2, kr, t2, ks, q2, S2, t2l, kl⟩ := kind_part (l := setKV "deck" (.ref dk) [("script", .lst (ns.map .int))]) (by first | exact lke | exact lkn (by decide) lke | simp [lookup_setKV]) D1 (by omega)
  obtain ⟨l3, H3, l4, H4, da, tx, q3, q4, X4⟩ := data_part S2 kl
  obtain ⟨H5, r, q5, E5, g5, r5⟩ := law_due X4
  have X5 := (X4.ex E5).set (x := "due") (v := .ref r) (by decide)
  have hd5 : (setKV "due" (.ref r) l4).lookup "due" = some (.ref r) := by first | exact lke | exact lkn (by decide) lke | simp [lookup_setKV]
  have hdl : dk < H4.length := by obtain ⟨m, e⟩ := X4.deck.dict; exact (List.getElem?_eq_some_iff.mp e).1
  have hcl : cl < H4.length := by obtain ⟨cs, e, _⟩ := X4.deck.cells; exact (List.getElem?_eq_some_iff.mp e).1
  obtain ⟨H6, q6, E6⟩ := law_if1 X5 hd5 g5
  have X6 := X5.ex E6
  obtain ⟨H7, q7, E7⟩ := law_if2 X6 hd5 (E6.get g5)
  have X7 := X6.ex E7
  obtain ⟨l8, H8, q8⟩ := law_rest X7 (by omega) hd5 (E7.get (E6.get g5)) (by omega) (by omega)
  refine ⟨H8, ?_⟩
  unfold F_law
  refine fn_ret rfl ⟨l8, ?_⟩
  rw [hz]
  exact x_next q1 (x_next q2 (x_next q3 (x_next q4 (x_next q5 (x_next q6 (x_next q7 q8))))))
end Nt
end
end
open PySem PySem.W PyProof.Rows
theorem PySem.Challenge.cw_nt0035_01_holds : PySem.Challenge.rw_nt0035_01.Holds :=
  Nt.holds_of Nt.E_law
