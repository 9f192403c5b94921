import PyProof.Rows.All
import Wide.All
import OpenK.AllK
import Wide.FinOn
import HandS.ForMost
import HandS.Wide
import HandS.IsInst
import HandS.Zip
import HandS.Rev
import HandS.TupMul
import HandS.TupAny
import HandS.TupLe
import HandS.Conv
import HandS.Exc
import HandS.ExcOwn
import HandS.TryOnly
import HandS.WordsExc
import HandS.ExcIs
import HandS.Style
import KE.GoesMore
import HandS.Small
import HandS.Ends
import HandS.EndBits
import PyProof.StrLawsRepr
import PySem.Challenge.RW_leadterms_k83_whole_series_others
section
set_option Elab.async false
set_option linter.all false
set_option maxRecDepth 100000
set_option autoImplicit false
/-! Data layer, part 1: values as plain data over the abstract heap, states, judgements. -/
namespace DL
open L2 PySem PySem.Spec PyProof.Rows

abbrev Av := Addr → Prop
abbrev SL := List (Option V)

mutual
/-- the value v stands for the data d; every object of it is tracked and none lies in av -/
inductive Rep (av : Av) (H : Hp) : V → PyData → Prop
  | non : Rep av H .non .none
  | bl (b : Bool) : Rep av H (.bl b) (.bool b)
  | int (i : Int) : Rep av H (.int i) (.int i)
  | str (x : Str) : Rep av H (.str x) (.str x)
  | tup {a : Addr} {vs : List V} {ds : List PyData} : ¬ av a → H a = some (.tup vs) → RepL av H vs ds → Rep av H (.ref a) (.tuple ds)
  | lst {a : Addr} {vs : List V} {ds : List PyData} : ¬ av a → H a = some (.lst vs) → RepL av H vs ds → Rep av H (.ref a) (.list ds)
  | dct {a : Addr} {kvs : List (Key × V)} {ds : List PyData} : ¬ av a → H a = some (.dK kvs) → RepL av H (kvs.map (·.2)) ds →
      Rep av H (.ref a) (.dict ((kvs.map fun p => match p.1 with | .inl i => PyData.int i | .inr x => PyData.str x).zip ds))
inductive RepL (av : Av) (H : Hp) : List V → List PyData → Prop
  | nil : RepL av H [] []
  | cons {v : V} {vs : List V} {d : PyData} {ds : List PyData} : Rep av H v d → RepL av H vs ds → RepL av H (v :: vs) (d :: ds)
end

section
variable {av av' : Av} {H H' : Hp}
mutual
theorem Rep.move (k : ∀ a o, H a = some o → ¬ av a → H' a = some o) (n : ∀ a o, H a = some o → ¬ av a → ¬ av' a) : ∀ {v : V} {d : PyData}, Rep av H v d → Rep av' H' v d
  | _, _, .non => .non
  | _, _, .bl b => .bl b
  | _, _, .int i => .int i
  | _, _, .str x => .str x
  | _, _, .tup h e r => .tup (n _ _ e h) (k _ _ e h) (RepL.move k n r)
  | _, _, .lst h e r => .lst (n _ _ e h) (k _ _ e h) (RepL.move k n r)
  | _, _, .dct h e r => .dct (n _ _ e h) (k _ _ e h) (RepL.move k n r)
theorem RepL.move (k : ∀ a o, H a = some o → ¬ av a → H' a = some o) (n : ∀ a o, H a = some o → ¬ av a → ¬ av' a) : ∀ {vs : List V} {ds : List PyData}, RepL av H vs ds → RepL av' H' vs ds
  | _, _, .nil => .nil
  | _, _, .cons h t => .cons (h.move k n) (RepL.move k n t)
end
theorem RepL.len : ∀ {vs : List V} {ds : List PyData}, RepL av H vs ds → vs.length = ds.length
  | _, _, .nil => rfl
  | _, _, .cons _ t => congrArg (· + 1) (RepL.len t)
theorem RepL.get : ∀ {vs : List V} {ds : List PyData} {i : Nat} {d : PyData}, RepL av H vs ds → ds[i]? = some d → ∃ v, vs[i]? = some v ∧ Rep av H v d
  | _, _, _, _, .nil, e => by simp at e
  | _, _, 0, _, .cons h _, e => by simp at e; subst e; exact ⟨_, rfl, h⟩
  | _, _, i + 1, d, .cons _ t, e => by
    obtain ⟨v, h1, h2⟩ := RepL.get (i := i) (d := d) t (by simpa using e)
    exact ⟨v, by simpa using h1, h2⟩
theorem RepL.getV : ∀ {vs : List V} {ds : List PyData} {i : Nat} {v : V}, RepL av H vs ds → vs[i]? = some v → ∃ d, ds[i]? = some d ∧ Rep av H v d
  | _, _, _, _, .nil, e => by simp at e
  | _, _, 0, _, .cons h _, e => by simp at e; subst e; exact ⟨_, rfl, h⟩
  | _, _, i + 1, v, .cons _ t, e => by
    obtain ⟨d, h1, h2⟩ := RepL.getV (i := i) (v := v) t (by simpa using e)
    exact ⟨d, by simpa using h1, h2⟩
theorem RepL.app : ∀ {vs ws : List V} {ds es : List PyData}, RepL av H vs ds → RepL av H ws es → RepL av H (vs ++ ws) (ds ++ es)
  | _, _, _, _, .nil, h => h
  | _, _, _, _, .cons h t, g => .cons h (RepL.app t g)
theorem RepL.take : ∀ {vs : List V} {ds : List PyData} (n : Nat), RepL av H vs ds → RepL av H (vs.take n) (ds.take n)
  | _, _, 0, _ => by simpa using RepL.nil
  | _, _, _ + 1, .nil => .nil
  | _, _, n + 1, .cons h t => .cons h (RepL.take n t)
theorem RepL.drop : ∀ {vs : List V} {ds : List PyData} (n : Nat), RepL av H vs ds → RepL av H (vs.drop n) (ds.drop n)
  | _, _, 0, h => h
  | _, _, _ + 1, .nil => .nil
  | _, _, n + 1, .cons _ t => RepL.drop n t
theorem RepL.rev : ∀ {vs : List V} {ds : List PyData}, RepL av H vs ds → RepL av H vs.reverse ds.reverse
  | _, _, .nil => .nil
  | _, _, .cons h t => by
    rw [List.reverse_cons, List.reverse_cons]
    exact (RepL.rev t).app (.cons h .nil)
theorem RepL.setAt {v : V} {d : PyData} (h : Rep av H v d) : ∀ {vs : List V} {ds : List PyData} (i : Nat), RepL av H vs ds → RepL av H (vs.set i v) (ds.set i d)
  | _, _, _, .nil => .nil
  | _, _, 0, .cons _ t => .cons h t
  | _, _, i + 1, .cons g t => .cons g (RepL.setAt h i t)
theorem RepL.rep {v : V} {d : PyData} (h : Rep av H v d) : ∀ n : Nat, RepL av H (List.replicate n v) (List.replicate n d)
  | 0 => .nil
  | n + 1 => .cons h (RepL.rep h n)
theorem RepL.flat {vs : List V} {ds : List PyData} (h : RepL av H vs ds) : ∀ n : Nat, RepL av H (List.replicate n vs).flatten (List.replicate n ds).flatten
  | 0 => .nil
  | n + 1 => by
    rw [List.replicate_succ, List.replicate_succ, List.flatten_cons, List.flatten_cons]
    exact h.app (RepL.flat h n)
/-- ints -/
theorem RepL.ints : ∀ {ns : List Int} {vs : List V}, RepL av H vs (ns.map PyData.int) → vs = ns.map V.int
  | [], _, .nil => rfl
  | n :: ns, _, .cons h t => by
    cases h
    rw [RepL.ints t]
    rfl
theorem RepL.ofInts : ∀ ns : List Int, RepL av H (ns.map V.int) (ns.map PyData.int)
  | [] => .nil
  | n :: ns => .cons (.int n) (RepL.ofInts ns)
theorem RepL.strs : ∀ {ns : List Str} {vs : List V}, RepL av H vs (ns.map PyData.str) → vs = ns.map V.str
  | [], _, .nil => rfl
  | n :: ns, _, .cons h t => by
    cases h
    rw [RepL.strs t]
    rfl
theorem RepL.bools : ∀ {ns : List Bool} {vs : List V}, RepL av H vs (ns.map PyData.bool) → vs = ns.map V.bl
  | [], _, .nil => rfl
  | n :: ns, _, .cons h t => by
    cases h
    rw [RepL.bools t]
    rfl
mutual
theorem Rep.dp {K : PySem.W.Frag} : ∀ {v : V} {d : PyData}, d.hasDict = false → Rep av H v d → Dp K H v d
  | _, _, _, .non => .non
  | _, _, _, .bl b => .bl b
  | _, _, _, .int i => .int i
  | _, _, _, .str x => .str x
  | _, _, hd, .tup _ e r => .tup (SqT.of e) (RepL.dp (by simpa [PyData.hasDict] using hd) r)
  | _, _, hd, .lst _ e r => .lst (SqL.of e) (RepL.dp (by simpa [PyData.hasDict] using hd) r)
  | _, _, hd, .dct _ _ _ => by simp [PyData.hasDict] at hd
theorem RepL.dp {K : PySem.W.Frag} : ∀ {vs : List V} {ds : List PyData}, PyData.hasDictAll ds = false → RepL av H vs ds → DpAll K H vs ds
  | _, _, _, .nil => .nil
  | _, _, hd, .cons h t => by
    simp only [PyData.hasDictAll, Bool.or_eq_false_iff] at hd
    exact .cons (Rep.dp hd.1 h) (RepL.dp hd.2 t)
end
end

/-! ### what a name, an item may hold: nothing known, data, or the k-th object of one's own -/
inductive EV where
  | und | val (d : PyData) | own (k : Nat)
/-- objects of one's own: a list (of data and of own objects), a dict by ints and texts, or one that is not used any more -/
inductive MO where
  | lst (xs : List EV) | dK (kvs : List (Key × PyData)) | dT (kvs : List (List Key × PyData)) | gone
/-- av: what others own; ad: where the own objects stand; dd: which of them are not used any more (they stay as they are, and may be data) -/
structure A0 where
  av : Av
  ad : List Addr
  dd : List Nat
def A0.lv (A : A0) : Av := fun a => ∃ k, A.ad[k]? = some a ∧ k ∉ A.dd
def A0.no (A : A0) : Av := fun a => A.av a ∨ A.lv a
theorem A0.lv_mem {A : A0} {a : Addr} (h : A.lv a) : a ∈ A.ad := by
  obtain ⟨k, h, _⟩ := h
  exact List.mem_of_getElem? h
def VRep (A : A0) (H : Hp) : EV → V → Prop
  | .und, _ => True
  | .val d, v => Rep A.no H v d
  | .own k, v => ∃ a, A.ad[k]? = some a ∧ v = .ref a
def ERep (A : A0) (H : Hp) : EV → Option V → Prop
  | .und, _ => True
  | .val d, ov => ∃ v, ov = some v ∧ Rep A.no H v d
  | .own k, ov => ∃ a, A.ad[k]? = some a ∧ ov = some (.ref a)
theorem ERep.of {A : A0} {H : Hp} {e : EV} {v : V} (h : VRep A H e v) : ERep A H e (some v) := by
  cases e with
  | und => trivial
  | val d => exact ⟨v, rfl, h⟩
  | own k => obtain ⟨a, h1, h2⟩ := h; exact ⟨a, h1, by rw [h2]⟩
def VReps (A : A0) (H : Hp) : List EV → List V → Prop
  | [], [] => True
  | e :: es, v :: vs => VRep A H e v ∧ VReps A H es vs
  | _, _ => False
def EReps (A : A0) (H : Hp) : List EV → SL → Prop
  | [], [] => True
  | e :: es, o :: os => ERep A H e o ∧ EReps A H es os
  | _, _ => False
def ORep (A : A0) (H : Hp) (a : Addr) : MO → Prop
  | .lst xs => ∃ vs, H a = some (.lst vs) ∧ VReps A H xs vs
  | .dK kvs => ∃ vs, H a = some (.dK ((kvs.map (·.1)).zip vs)) ∧ RepL A.no H vs (kvs.map (·.2))
  | .dT kvs => ∃ vs, H a = some (.dT ((kvs.map (·.1)).zip vs)) ∧ RepL A.no H vs (kvs.map (·.2))
  | .gone => True

/-- the slots σ and the heap H hold the names' values Γ and the own objects S -/
structure RS (A : A0) (Γ : List EV) (S : List MO) (σ : SL) (H : Hp) : Prop where
  dom : ∀ a, A.no a → ∃ o, H a = some o
  nd : A.ad.Nodup
  sep : ∀ a, a ∈ A.ad → ¬ A.av a
  len : A.ad.length = S.length
  gn : ∀ k, k ∈ A.dd → S[k]? = some .gone
  all : ∀ a, a ∈ A.ad → ∃ o, H a = some o
  env : EReps A H Γ σ
  sto : ∀ (k : Nat) (o : MO) (a : Addr), S[k]? = some o → A.ad[k]? = some a → ORep A H a o

/-- from H to H': new objects of one's own behind the old ones; all that is not one's own stays -/
structure Tr (A A' : A0) (H H' : Hp) : Prop where
  av : A'.av = A.av
  ad : ∃ fr, A'.ad = A.ad ++ fr ∧ ∀ a, a ∈ fr → H a = none
  dd : ∀ k, k ∈ A.dd → k ∈ A'.dd
  keep : ∀ a o, H a = some o → ¬ A.lv a → H' a = some o
  dom : ∀ a o, H a = some o → ∃ o', H' a = some o'

theorem Tr.refl {A : A0} {H : Hp} : Tr A A H H := ⟨rfl, ⟨[], by simp, by simp⟩, fun _ h => h, fun _ _ e _ => e, fun _ o e => ⟨o, e⟩⟩
theorem Tr.same {A : A0} {H H' : Hp} (s : Same H H') : Tr A A H H' := ⟨rfl, ⟨[], by simp, by simp⟩, fun _ h => h, fun a o e _ => s a o e, fun a o e => ⟨o, s a o e⟩⟩
theorem Tr.lv {A A' : A0} {H H' : Hp} {a : Addr} {o : HO} (x : Tr A A' H H') (e : H a = some o) (h : ¬ A.lv a) : ¬ A'.lv a := by
  obtain ⟨f, ef, nf⟩ := x.ad
  rintro ⟨k, h1, h2⟩
  by_cases hk : k < A.ad.length
  · rw [ef, List.getElem?_append_left hk] at h1
    exact h ⟨k, h1, fun z => h2 (x.dd k z)⟩
  · rw [ef, List.getElem?_append_right (by omega)] at h1
    rw [nf a (List.mem_of_getElem? h1)] at e
    cases e
theorem Tr.trans {A A1 A2 : A0} {H H1 H2 : Hp} (x : Tr A A1 H H1) (y : Tr A1 A2 H1 H2) : Tr A A2 H H2 := by
  obtain ⟨f1, e1, n1⟩ := x.ad
  obtain ⟨f2, e2, n2⟩ := y.ad
  refine ⟨y.av.trans x.av, ⟨f1 ++ f2, by rw [e2, e1, List.append_assoc], fun a ha => ?_⟩, fun k h => y.dd k (x.dd k h), fun a o e ha => y.keep a o (x.keep a o e ha) (x.lv e ha), fun a o e => ?_⟩
  · rcases List.mem_append.mp ha with h | h
    · exact n1 a h
    · cases q : H a with
      | none => rfl
      | some o =>
        obtain ⟨o', z⟩ := x.dom a o q
        rw [n2 a h] at z
        cases z
  · obtain ⟨o', z⟩ := x.dom a o e
    exact y.dom a o' z
section
variable {A A' : A0} {H H' : Hp}
theorem Tr.no {a : Addr} {o : HO} (x : Tr A A' H H') (e : H a = some o) (h : ¬ A.no a) : ¬ A'.no a := by
  rintro (z | z)
  · exact h (.inl (by rw [← x.av]; exact z))
  · exact x.lv e (fun w => h (.inr w)) z
theorem Tr.rep (x : Tr A A' H H') {v : V} {d : PyData} (r : Rep A.no H v d) : Rep A'.no H' v d :=
  r.move (fun a o e h => x.keep a o e fun z => h (.inr z)) fun a o e h => x.no e h
theorem Tr.repL (x : Tr A A' H H') {v : List V} {d : List PyData} (r : RepL A.no H v d) : RepL A'.no H' v d :=
  r.move (fun a o e h => x.keep a o e fun z => h (.inr z)) fun a o e h => x.no e h
theorem Tr.at_ (x : Tr A A' H H') {k : Nat} {a : Addr} (h : A.ad[k]? = some a) : A'.ad[k]? = some a := by
  obtain ⟨f, ef, _⟩ := x.ad
  obtain ⟨hk, _⟩ := List.getElem?_eq_some_iff.mp h
  rw [ef, List.getElem?_append_left hk]
  exact h
theorem Tr.vrep (x : Tr A A' H H') {e : EV} {v : V} (r : VRep A H e v) : VRep A' H' e v := by
  cases e with
  | und => trivial
  | val d => exact x.rep r
  | own k => obtain ⟨a, h1, h2⟩ := r; exact ⟨a, x.at_ h1, h2⟩
theorem Tr.erep (x : Tr A A' H H') {e : EV} {v : Option V} (r : ERep A H e v) : ERep A' H' e v := by
  cases e with
  | und => trivial
  | val d => obtain ⟨w, h1, h2⟩ := r; exact ⟨w, h1, x.rep h2⟩
  | own k => obtain ⟨a, h1, h2⟩ := r; exact ⟨a, x.at_ h1, h2⟩
theorem Tr.vreps (x : Tr A A' H H') : ∀ {es : List EV} {vs : List V}, VReps A H es vs → VReps A' H' es vs
  | [], [], _ => trivial
  | e :: es, v :: vs, h => ⟨x.vrep h.1, Tr.vreps x h.2⟩
  | [], _ :: _, h => h.elim
  | _ :: _, [], h => h.elim
theorem Tr.ereps (x : Tr A A' H H') : ∀ {es : List EV} {vs : SL}, EReps A H es vs → EReps A' H' es vs
  | [], [], _ => trivial
  | e :: es, v :: vs, h => ⟨x.erep h.1, Tr.ereps x h.2⟩
  | [], _ :: _, h => h.elim
  | _ :: _, [], h => h.elim
end
theorem VReps.len {A : A0} {H : Hp} : ∀ {es : List EV} {vs : List V}, VReps A H es vs → es.length = vs.length
  | [], [], _ => rfl
  | e :: es, v :: vs, h => congrArg (· + 1) (VReps.len h.2)
  | [], _ :: _, h => h.elim
  | _ :: _, [], h => h.elim
theorem VReps.get {A : A0} {H : Hp} : ∀ {es : List EV} {vs : List V} {i : Nat} {e : EV}, VReps A H es vs → es[i]? = some e → ∃ v, vs[i]? = some v ∧ VRep A H e v
  | [], [], _, _, _, h => by simp at h
  | e :: es, v :: vs, 0, _, h, q => by simp at q; subst q; exact ⟨v, rfl, h.1⟩
  | e :: es, v :: vs, i + 1, e', h, q => by
    obtain ⟨w, h1, h2⟩ := VReps.get (i := i) (e := e') h.2 (by simpa using q)
    exact ⟨w, by simpa using h1, h2⟩
  | [], _ :: _, _, _, h, _ => h.elim
  | _ :: _, [], _, _, h, _ => h.elim
theorem VReps.app {A : A0} {H : Hp} : ∀ {es fs : List EV} {vs ws : List V}, VReps A H es vs → VReps A H fs ws → VReps A H (es ++ fs) (vs ++ ws)
  | [], _, [], _, _, g => g
  | e :: es, _, v :: vs, _, h, g => ⟨h.1, VReps.app h.2 g⟩
  | [], _, _ :: _, _, h, _ => h.elim
  | _ :: _, _, [], _, h, _ => h.elim
theorem VReps.setAt {A : A0} {H : Hp} {e : EV} {v : V} (r : VRep A H e v) : ∀ {es : List EV} {vs : List V} (i : Nat), VReps A H es vs → VReps A H (es.set i e) (vs.set i v)
  | [], [], _, _ => trivial
  | _ :: _, _ :: _, 0, h => ⟨r, h.2⟩
  | _ :: _, _ :: _, i + 1, h => ⟨h.1, VReps.setAt r i h.2⟩
  | [], _ :: _, _, h => h.elim
  | _ :: _, [], _, h => h.elim
theorem VReps.vals {A : A0} {H : Hp} : ∀ {ds : List PyData} {vs : List V}, VReps A H (ds.map EV.val) vs → RepL A.no H vs ds
  | [], [], _ => .nil
  | d :: ds, v :: vs, h => .cons h.1 (VReps.vals h.2)
  | [], _ :: _, h => h.elim
  | _ :: _, [], h => h.elim
theorem VReps.ofVals {A : A0} {H : Hp} : ∀ {ds : List PyData} {vs : List V}, RepL A.no H vs ds → VReps A H (ds.map EV.val) vs
  | _, _, .nil => trivial
  | _, _, .cons h t => ⟨h, VReps.ofVals t⟩
theorem EReps.get {A : A0} {H : Hp} : ∀ {es : List EV} {σ : SL} {i : Nat} {e : EV}, EReps A H es σ → es[i]? = some e → ∃ o, σ[i]? = some o ∧ ERep A H e o
  | [], [], _, _, _, h => by simp at h
  | e :: es, v :: vs, 0, _, h, q => by simp at q; subst q; exact ⟨v, rfl, h.1⟩
  | e :: es, v :: vs, i + 1, e', h, q => by
    obtain ⟨w, h1, h2⟩ := EReps.get (i := i) (e := e') h.2 (by simpa using q)
    exact ⟨w, by simpa using h1, h2⟩
  | [], _ :: _, _, _, h, _ => h.elim
  | _ :: _, [], _, _, h, _ => h.elim
theorem EReps.setAt {A : A0} {H : Hp} {e : EV} {v : V} (r : VRep A H e v) : ∀ {es : List EV} {σ : SL} (i : Nat), EReps A H es σ → EReps A H (es.set i e) (σ.set i (some v))
  | [], [], _, _ => trivial
  | _ :: _, _ :: _, 0, h => ⟨ERep.of r, h.2⟩
  | _ :: _, _ :: _, i + 1, h => ⟨h.1, EReps.setAt r i h.2⟩
  | [], _ :: _, _, h => h.elim
  | _ :: _, [], _, h => h.elim
/-- forgetting -/
def wipeE (Γ : List EV) : List Nat → List EV
  | [] => Γ
  | v :: vs => (wipeE Γ vs).set v .und
theorem EReps.clear {A : A0} {H : Hp} : ∀ {es : List EV} {σ : SL} (i : Nat), EReps A H es σ → EReps A H (es.set i .und) (σ.set i none)
  | [], [], _, _ => trivial
  | _ :: _, _ :: _, 0, h => ⟨trivial, h.2⟩
  | _ :: _, _ :: _, i + 1, h => ⟨h.1, EReps.clear i h.2⟩
  | [], _ :: _, _, h => h.elim
  | _ :: _, [], _, h => h.elim
theorem EReps.wipe {A : A0} {H : Hp} {es : List EV} {σ : SL} (h : EReps A H es σ) : ∀ vs : List Nat, EReps A H (wipeE es vs) (L2.wipe σ vs)
  | [] => h
  | v :: vs => (EReps.wipe h vs).clear v

section
variable {A A' : A0} {Γ : List EV} {S : List MO} {σ : SL} {H H' : Hp}
theorem RS.var (R : RS A Γ S σ H) {i : Nat} {e : EV} (h : Γ[i]? = some e) (hn : e ≠ .und) : ∃ v, σ[i]? = some (some v) ∧ VRep A H e v := by
  obtain ⟨o, h1, h2⟩ := R.env.get h
  cases e with
  | und => exact absurd rfl hn
  | val d => obtain ⟨v, rfl, r⟩ := h2; exact ⟨v, h1, r⟩
  | own k => obtain ⟨a, h3, rfl⟩ := h2; exact ⟨.ref a, h1, a, h3, rfl⟩
/-- all that is tracked stays, there may be more -/
theorem RS.same (R : RS A Γ S σ H) (s : Same H H') : RS A Γ S σ H' := by
  have t : Tr A A H H' := Tr.same s
  refine ⟨fun a ha => ?_, R.nd, R.sep, R.len, R.gn, fun a ha => ?_, t.ereps R.env, fun k o a h1 h2 => ?_⟩
  · obtain ⟨o, e⟩ := R.dom a ha
    exact ⟨o, s a o e⟩
  · obtain ⟨o, e⟩ := R.all a ha
    exact ⟨o, s a o e⟩
  · have q := R.sto k o a h1 h2
    cases o with
    | lst xs => obtain ⟨vs, e, r⟩ := q; exact ⟨vs, s _ _ e, t.vreps r⟩
    | dK kvs => obtain ⟨vs, e, r⟩ := q; exact ⟨vs, s _ _ e, t.repL r⟩
    | dT kvs => obtain ⟨vs, e, r⟩ := q; exact ⟨vs, s _ _ e, t.repL r⟩
    | gone => trivial
theorem RS.set (R : RS A Γ S σ H) {e : EV} {v : V} (r : VRep A H e v) (i : Nat) : RS A (Γ.set i e) S (σ.set i (some v)) H :=
  ⟨R.dom, R.nd, R.sep, R.len, R.gn, R.all, R.env.setAt r i, R.sto⟩
theorem RS.wipe (R : RS A Γ S σ H) (vs : List Nat) : RS A (wipeE Γ vs) S (L2.wipe σ vs) H := ⟨R.dom, R.nd, R.sep, R.len, R.gn, R.all, R.env.wipe vs, R.sto⟩
theorem same_upd {p : Addr} {o : HO} (hp : H p = none) : Same H (upd H p o) := fun b u e => by
  rw [upd_ne (ne_of_none e hp)]
  exact e
theorem RS.fresh (R : RS A Γ S σ H) {p : Addr} (hp : H p = none) : ¬ A.no p := fun z => by
  obtain ⟨o, e⟩ := R.dom p z
  rw [hp] at e
  cases e
/-- a new object of one's own -/
theorem RS.add (R : RS A Γ S σ H) {p : Addr} {o : HO} {mo : MO} (hp : H p = none) (h : ORep ⟨A.av, A.ad ++ [p], A.dd⟩ (upd H p o) p mo) :
    Tr A ⟨A.av, A.ad ++ [p], A.dd⟩ H (upd H p o) ∧ RS ⟨A.av, A.ad ++ [p], A.dd⟩ Γ (S ++ [mo]) σ (upd H p o) := by
  have s : Same H (upd H p o) := same_upd hp
  have np := R.fresh hp
  have t : Tr A ⟨A.av, A.ad ++ [p], A.dd⟩ H (upd H p o) := ⟨rfl, ⟨[p], rfl, fun a ha => by simp at ha; rw [ha]; exact hp⟩, fun _ h => h, fun a o e _ => s a o e, fun a o e => ⟨o, s a o e⟩⟩
  have allN : ∀ a, a ∈ A.ad ++ [p] → ∃ u, upd H p o a = some u := fun a z => by
    rcases List.mem_append.mp z with z | z
    · obtain ⟨u, e⟩ := R.all a z
      exact ⟨u, s a u e⟩
    · simp at z
      subst z
      exact ⟨o, upd_same⟩
  refine ⟨t, fun a ha => ?_, ?_, fun a ha => ?_, by simp [R.len], fun k hk => ?_, allN, t.ereps R.env, fun k mo' a h1 h2 => ?_⟩
  · rcases ha with z | z
    · obtain ⟨u, e⟩ := R.dom a (.inl z)
      exact ⟨u, s a u e⟩
    · exact allN a (A0.lv_mem z)
  · refine List.nodup_append.mpr ⟨R.nd, by simp, fun a ha b hb => ?_⟩
    simp at hb
    subst hb
    intro e
    subst e
    obtain ⟨u, e⟩ := R.all a ha
    rw [hp] at e
    cases e
  · rcases List.mem_append.mp ha with z | z
    · exact R.sep a z
    · simp at z
      subst z
      exact fun w => np (.inl w)
  · have q := R.gn k hk
    rw [List.getElem?_append_left (List.getElem?_eq_some_iff.mp q).1]
    exact q
  · have hl : S.length = A.ad.length := R.len.symm
    by_cases hk : k < S.length
    · rw [List.getElem?_append_left hk] at h1
      have h2' : A.ad[k]? = some a := by
        have h2 : (A.ad ++ [p])[k]? = some a := h2
        rw [List.getElem?_append_left (by omega)] at h2
        exact h2
      have q := R.sto k mo' a h1 h2'
      cases mo' with
      | lst xs => obtain ⟨vs, e, r⟩ := q; exact ⟨vs, s _ _ e, t.vreps r⟩
      | dK kvs => obtain ⟨vs, e, r⟩ := q; exact ⟨vs, s _ _ e, t.repL r⟩
      | dT kvs => obtain ⟨vs, e, r⟩ := q; exact ⟨vs, s _ _ e, t.repL r⟩
      | gone => trivial
    · have hk' : k = S.length := by
        have := (List.getElem?_eq_some_iff.mp h1).1
        simp at this
        omega
      subst hk'
      have h2 : (A.ad ++ [p])[S.length]? = some a := h2
      rw [hl, List.getElem?_append_right (Nat.le_refl _)] at h2
      rw [List.getElem?_append_right (Nat.le_refl _)] at h1
      simp at h1 h2
      subst h1
      subst h2
      exact h
theorem RS.uniq (R : RS A Γ S σ H) {i j : Nat} {a : Addr} (h1 : A.ad[i]? = some a) (h2 : A.ad[j]? = some a) : i = j := by
  obtain ⟨x1, y1⟩ := List.getElem?_eq_some_iff.mp h1
  obtain ⟨x2, y2⟩ := List.getElem?_eq_some_iff.mp h2
  exact (List.getElem_inj R.nd).mp (y1.trans y2.symm)
/-- an object of one's own is changed -/
theorem RS.put (R : RS A Γ S σ H) {k : Nat} {a : Addr} {o : HO} {mo : MO} (ha : A.ad[k]? = some a) (hg : k ∉ A.dd) (h : ORep A (upd H a o) a mo) : Tr A A H (upd H a o) ∧ RS A Γ (S.set k mo) σ (upd H a o) := by
  have hlv : A.lv a := ⟨k, ha, hg⟩
  have t : Tr A A H (upd H a o) := by
    refine ⟨rfl, ⟨[], by simp, by simp⟩, fun _ h => h, fun b u e hb => ?_, fun b u e => ?_⟩
    · rw [upd_ne (fun q => hb (by rw [q]; exact hlv))]
      exact e
    · by_cases q : b = a
      · subst q
        exact ⟨o, upd_same⟩
      · exact ⟨u, by rw [upd_ne q]; exact e⟩
  refine ⟨t, fun b hb => ?_, R.nd, R.sep, by simp [R.len], fun j hj => ?_, fun b hb => ?_, t.ereps R.env, fun j mo' b h1 h2 => ?_⟩
  · obtain ⟨u, e⟩ := R.dom b hb
    exact t.dom b u e
  · have q := R.gn j hj
    rw [List.getElem?_set_ne (fun e => hg (by rw [e]; exact hj))]
    exact q
  · obtain ⟨u, e⟩ := R.all b hb
    exact t.dom b u e
  · by_cases hj : k = j
    · subst hj
      rw [ha] at h2
      cases h2
      have hk : k < S.length := by
        have := (List.getElem?_eq_some_iff.mp ha).1
        rw [← R.len]
        exact this
      rw [List.getElem?_set_self hk] at h1
      cases h1
      exact h
    · rw [List.getElem?_set_ne hj] at h1
      have hb : b ≠ a := by
        intro q
        subst q
        exact hj (R.uniq ha h2)
      have q := R.sto j mo' b h1 h2
      cases mo' with
      | lst xs => obtain ⟨vs, e, r⟩ := q; exact ⟨vs, by rw [upd_ne hb]; exact e, t.vreps r⟩
      | dK kvs => obtain ⟨vs, e, r⟩ := q; exact ⟨vs, by rw [upd_ne hb]; exact e, t.repL r⟩
      | dT kvs => obtain ⟨vs, e, r⟩ := q; exact ⟨vs, by rw [upd_ne hb]; exact e, t.repL r⟩
      | gone => trivial
theorem RS.obj (R : RS A Γ S σ H) {k : Nat} {mo : MO} (h : S[k]? = some mo) : ∃ a, A.ad[k]? = some a ∧ ORep A H a mo := by
  have hk : k < A.ad.length := by
    rw [R.len]
    exact (List.getElem?_eq_some_iff.mp h).1
  exact ⟨A.ad[k], List.getElem?_eq_getElem hk, R.sto k mo _ h (List.getElem?_eq_getElem hk)⟩
theorem RS.live (R : RS A Γ S σ H) {k : Nat} {mo : MO} (h : S[k]? = some mo) (hm : mo ≠ .gone) : k ∉ A.dd := fun z => by
  have q := R.gn k z
  rw [h] at q
  exact hm (Option.some.inj q)
/-- an object of one's own is from now on data that nobody changes -/
theorem RS.frz (R : RS A Γ S σ H) {k : Nat} {ds : List PyData} (h : S[k]? = some (.lst (ds.map EV.val))) :
    Tr A ⟨A.av, A.ad, k :: A.dd⟩ H H ∧ RS ⟨A.av, A.ad, k :: A.dd⟩ Γ (S.set k .gone) σ H ∧ ∀ v, VRep A H (.own k) v → VRep ⟨A.av, A.ad, k :: A.dd⟩ H (.val (.list ds)) v := by
  have hl := R.live h (by simp)
  have less : ∀ a, A0.lv ⟨A.av, A.ad, k :: A.dd⟩ a → A.lv a := fun a ⟨j, h1, h2⟩ => ⟨j, h1, fun z => h2 (List.mem_cons_of_mem _ z)⟩
  have t : Tr A ⟨A.av, A.ad, k :: A.dd⟩ H H := ⟨rfl, ⟨[], by simp, by simp⟩, fun j hj => List.mem_cons_of_mem _ hj, fun _ _ e _ => e, fun _ o e => ⟨o, e⟩⟩
  refine ⟨t, ⟨fun a ha => ?_, R.nd, R.sep, by simp [R.len], fun j hj => ?_, R.all, t.ereps R.env, fun j mo a h1 h2 => ?_⟩, fun v hv => ?_⟩
  · rcases ha with z | z
    · exact R.dom a (.inl z)
    · exact R.dom a (.inr (less a z))
  · by_cases e : k = j
    · subst e
      rw [List.getElem?_set_self (List.getElem?_eq_some_iff.mp h).1]
    · rw [List.getElem?_set_ne e]
      rcases List.mem_cons.mp hj with q | q
      · exact absurd q.symm e
      · exact R.gn j q
  · by_cases e : k = j
    · subst e
      rw [List.getElem?_set_self (List.getElem?_eq_some_iff.mp h).1] at h1
      cases h1
      trivial
    · rw [List.getElem?_set_ne e] at h1
      have q := R.sto j mo a h1 h2
      cases mo with
      | lst xs => obtain ⟨vs, e, r⟩ := q; exact ⟨vs, e, t.vreps r⟩
      | dK kvs => obtain ⟨vs, e, r⟩ := q; exact ⟨vs, e, t.repL r⟩
      | dT kvs => obtain ⟨vs, e, r⟩ := q; exact ⟨vs, e, t.repL r⟩
      | gone => trivial
  · obtain ⟨a, h1, rfl⟩ := hv
    obtain ⟨vs, e, r⟩ := R.sto k _ a h h1
    refine (show Rep _ H (.ref a) (.list ds) from Rep.lst ?_ e (t.vreps r).vals)
    rintro (z | ⟨j, h2, h3⟩)
    · exact R.sep a (List.mem_of_getElem? h1) z
    · have h2 : A.ad[j]? = some a := h2
      exact h3 (by rw [R.uniq h2 h1]; exact List.mem_cons_self)
end
end DL
end
section
set_option Elab.async false
set_option linter.all false
set_option maxRecDepth 100000
set_option autoImplicit false
/-! Data layer, part 2: contexts, judgements, defs and their calls. -/
namespace DL
open L2 PySem PySem.Spec PyProof.Rows

/-- the world of a proof -/
structure WD where
  P : Program
  w : World
  K : PySem.W.Frag
  mg : Str → Option Value
  base : Heap
/-- where a piece of code stands: names by slot, scope, room, whether it is a def's own body, whether nothing is handled; E: the wish of an exception -/
structure Kx where
  W : WD
  N : List Str
  sc : Scope
  k : Nat
  top : Bool
  cel : Str → Bool
  calm : Bool
  E : Value → Option Addr → SL → Hp → Prop
structure Kx.Ok (c : Kx) (X : Cx) : Prop where
  prog : X.prog = c.W.P
  w : X.w = c.W.w
  K : X.K = c.W.K
  mg : X.mg = c.W.mg
  base : X.base = c.W.base
  N : X.N = c.N
  sc : X.env.scope = c.sc
  gu : X.A.guards = some []
  un : X.A.units + 200 < cLine
  room : c.calm = true → Room c.k X.A
  calm : c.calm = true → X.calm = true
  fn : ∀ x, c.cel x = true → X.fn x = true
  stk : c.top = true → X.stack = X.env :: X.outer ∧ X.env.frame = some X.env.locals
  tk : Takes X c.E
  po : PassesOwn (model X.prog X.w) X.A X.env X.xe

/-- what an evaluation is to give: the value e, the own objects S' -/
def Post (A : A0) (Γ : List EV) (S' : List MO) (e : EV) (σ : SL) (H : Hp) (Q : VK) : Prop := ∀ A' v H', Tr A A' H H' → RS A' Γ S' σ H' → VRep A' H' e v → Q v H'
def tD (Γ : List EV) (S : List MO) (e : EV) (S' : List MO) : TE := fun σ H Q => ∃ A, RS A Γ S σ H ∧ Post A Γ S' e σ H Q
def tDT (Γ : List EV) (S : List MO) (b : Bool) (S' : List MO) : TT := fun σ H Q => ∃ A, RS A Γ S σ H ∧ ∀ A' H', Tr A A' H H' → RS A' Γ S' σ H' → Q b H'
def tDA (Γ : List EV) (S : List MO) (es : List EV) (S' : List MO) : TA := fun σ H Q => ∃ A, RS A Γ S σ H ∧ ∀ A' vs H', Tr A A' H H' → RS A' Γ S' σ H' → VReps A' H' es vs → Q vs H'
/-- the expression x gives e, and S becomes S' -/
def DE (c : Kx) (x : Expr) (Γ : List EV) (S : List MO) (e : EV) (S' : List MO) : Prop := ∀ X, c.Ok X → PE X x (tD Γ S e S')
def DT (c : Kx) (x : Expr) (Γ : List EV) (S : List MO) (b : Bool) (S' : List MO) : Prop := ∀ X, c.Ok X → PT X x (tDT Γ S b S')
def DA (c : Kx) (xs : List Expr) (Γ : List EV) (S : List MO) (es : List EV) (S' : List MO) : Prop := ∀ X, c.Ok X → PA X xs (tDA Γ S es S')
def DK (c : Kx) (xs : List Keyword) (Γ : List EV) (S : List MO) (es : List EV) (S' : List MO) : Prop := ∀ X, c.Ok X → PK X xs (tDA Γ S es S')
/-- the expression raises an exception of the class cls -/
def tDX (c : Kx) (Γ : List EV) (S : List MO) (cls : Value) (S' : List MO) : TE := fun σ H _ => ∃ A, RS A Γ S σ H ∧ ∀ A' H', Tr A A' H H' → RS A' Γ S' σ H' → c.E cls none σ H'
def DX (c : Kx) (x : Expr) (Γ : List EV) (S : List MO) (cls : Value) (S' : List MO) : Prop := ∀ X, c.Ok X → PE X x (tDX c Γ S cls S')

/-- how a statement ends -/
inductive Out where
  | nx (Γ : List EV) (S : List MO) | rt (e : EV) (S : List MO) | ex (cls : Value) (S : List MO) | bk (Γ : List EV) (S : List MO) | ct (Γ : List EV) (S : List MO)
def Meets (c : Kx) (A : A0) (H : Hp) (D : Ends) : Out → Prop
  | .nx Γ' S' => ∀ A' σ' H', Tr A A' H H' → RS A' Γ' S' σ' H' → D.nx σ' H'
  | .rt e S' => ∀ A' v σ' H' Γ', Tr A A' H H' → RS A' Γ' S' σ' H' → VRep A' H' e v → D.rt v H'
  | .ex cls S' => ∀ A' σ' H' Γ', Tr A A' H H' → RS A' Γ' S' σ' H' → c.E cls none σ' H'
  | .bk Γ' S' => ∀ A' σ' H', Tr A A' H H' → RS A' Γ' S' σ' H' → D.bk σ' H'
  | .ct Γ' S' => ∀ A' σ' H', Tr A A' H H' → RS A' Γ' S' σ' H' → D.ct σ' H'
def tS (c : Kx) (Γ : List EV) (S : List MO) (o : Out) : TS := fun D σ H => ∃ A, RS A Γ S σ H ∧ Meets c A H D o
def DS (c : Kx) (x : Stmt) (Γ : List EV) (S : List MO) (o : Out) : Prop := ∀ X, c.Ok X → PS X x (tS c Γ S o)
def DSs (c : Kx) (xs : List Stmt) (Γ : List EV) (S : List MO) (o : Out) : Prop := ∀ X, c.Ok X → PSs X xs (tS c Γ S o)

/-! ### weakening of readings -/
section
variable {X : Cx}
theorem PE_imp {e : Expr} {t t' : TE} (h : PE X e t) (k : ∀ σ H Q, t' σ H Q → t σ H Q) : PE X e t' := ⟨fun pins s σ H Q I q => h.run pins s σ H Q I (k σ H Q q)⟩
theorem PT_imp {e : Expr} {t t' : TT} (h : PT X e t) (k : ∀ σ H Q, t' σ H Q → t σ H Q) : PT X e t' := ⟨fun pins s σ H Q I q => h.run pins s σ H Q I (k σ H Q q)⟩
theorem PA_imp {e : List Expr} {t t' : TA} (h : PA X e t) (k : ∀ σ H Q, t' σ H Q → t σ H Q) : PA X e t' := ⟨fun pos pins s σ H Q I q => h.run pos pins s σ H Q I (k σ H Q q)⟩
theorem PK_imp {e : List Keyword} {t t' : TA} (h : PK X e t) (k : ∀ σ H Q, t' σ H Q → t σ H Q) : PK X e t' := ⟨fun pos pins s σ H Q I q => h.run pos pins s σ H Q I (k σ H Q q)⟩
theorem PS_imp {e : Stmt} {t t' : TS} (h : PS X e t) (k : ∀ D σ H, t' D σ H → t D σ H) : PS X e t' := ⟨fun pins s σ H D I q => h.run pins s σ H D I (k D σ H q)⟩
theorem PSs_imp {e : List Stmt} {t t' : TS} (h : PSs X e t) (k : ∀ D σ H, t' D σ H → t D σ H) : PSs X e t' := ⟨fun pins s σ H D I q => h.run pins s σ H D I (k D σ H q)⟩
end

theorem Post.tr {A A1 : A0} {Γ : List EV} {S' : List MO} {e : EV} {σ : SL} {H H1 : Hp} {Q : VK} (k : Post A Γ S' e σ H Q) (t : Tr A A1 H H1) : Post A1 Γ S' e σ H1 Q :=
  fun A' v H' t' r x => k A' v H' (t.trans t') r x
theorem Post.now {A : A0} {Γ : List EV} {S : List MO} {e : EV} {σ : SL} {H : Hp} {Q : VK} {v : V} (k : Post A Γ S e σ H Q) (R : RS A Γ S σ H) (x : VRep A H e v) : Q v H := k A v H Tr.refl R x
/-- a new untracked-so-far object that is data -/
theorem Post.new {A : A0} {Γ : List EV} {S : List MO} {e : EV} {σ : SL} {H : Hp} {Q : VK} {p : Addr} {o : HO} (k : Post A Γ S e σ H Q) (R : RS A Γ S σ H) (hp : H p = none) (x : VRep A (upd H p o) e (.ref p)) : Q (.ref p) (upd H p o) :=
  k A (.ref p) _ (Tr.same (same_upd hp)) (R.same (same_upd hp)) x
theorem RS.grow {A : A0} {Γ : List EV} {S : List MO} {σ : SL} {H : Hp} {p : Addr} {o : HO} {vs : List V} {ds : List PyData} (_ : RS A Γ S σ H) (hp : H p = none) (r : RepL A.no H vs ds) : RepL A.no (upd H p o) vs ds :=
  (Tr.same (A := A) (same_upd hp)).repL r
theorem VRep.tup {A : A0} {Γ : List EV} {S : List MO} {σ : SL} {H : Hp} {p : Addr} {vs : List V} {ds : List PyData} (R : RS A Γ S σ H) (hp : H p = none) (r : RepL A.no H vs ds) : VRep A (upd H p (.tup vs)) (.val (.tuple ds)) (.ref p) :=
  show Rep A.no _ _ _ from Rep.tup (R.fresh hp) upd_same (R.grow hp r)
theorem VRep.lst {A : A0} {Γ : List EV} {S : List MO} {σ : SL} {H : Hp} {p : Addr} {vs : List V} {ds : List PyData} (R : RS A Γ S σ H) (hp : H p = none) (r : RepL A.no H vs ds) : VRep A (upd H p (.lst vs)) (.val (.list ds)) (.ref p) :=
  show Rep A.no _ _ _ from Rep.lst (R.fresh hp) upd_same (R.grow hp r)

/-! ### what a def promises -/
inductive Res where
  | ok (e : EV) (S : List MO) | ex (cls : Value) (S : List MO)
/-- Spec: arguments, the objects that are handed over to be changed, the end -/
abbrev Spec := List EV → List MO → Res → Prop
/-- behind a call: what was not handed over stays -/
structure Aft (A : A0) (S' : List MO) (H H' : Hp) : Prop where
  keep : ∀ a o, H a = some o → ¬ A.lv a → H' a = some o
  dom : ∀ a o, H a = some o → ∃ o', H' a = some o'
  rs : RS A [] S' [] H'
def spD (R : Spec) : Sp := fun vs H Q E => ∃ (A : A0) (es : List EV) (S : List MO) (r : Res), A.dd = [] ∧ RS A [] S [] H ∧ VReps A H es vs ∧ R es S r ∧
  match r with
  | .ok e S' => ∀ v H', Aft A S' H H' → VRep A H' e v → Q v H'
  | .ex cls S' => ∀ H', Aft A S' H H' → E cls none H'
/-- a def, where it stands and what it promises (at a level k), for callers whose stack holds no guard -/
structure FnG (W : WD) (k : Nat) (f : Addr) (fd : FuncData) (ps : List Str) (sp : Sp) : Prop where
  len : ∀ vs H Q E, sp vs H Q E → vs.length = ps.length
  run : ∀ (A : Around) (outer : List Env) (s : Shared) (H : Hp) (args : Args) (us : List Value) (vs : List V) (Q : VK) (E : XK), A.guards = some [] → Room k A →
    Env0 W.P W.w W.K W.mg W.base A outer s H → BindsTo s fd args (ps.zip us) → Vals vs us → sp vs H Q E → codeAny (model W.P W.w) A (.call (.ref f) args) (CR (L2.CX W.P W.w) outer W.P W.w H s Q E) s
theorem FnG.mono {W : WD} {j k : Nat} {f : Addr} {fd : FuncData} {ps : List Str} {sp : Sp} (F : FnG W j f fd ps sp) (h : j ≤ k) : FnG W k f fd ps sp :=
  ⟨F.len, fun A outer s H args us vs Q E hg hr => F.run A outer s H args us vs Q E hg (hr.mono h)⟩

/-- the def st stands at f, its body by its scope; from the body's walk to the promise -/
theorem fn_g {W : WD} {k : Nat} {f : Addr} {name qual : Str} {params : Arguments} {body : List Stmt} {scope : Scope} {dV kV doc pm cdv ct oc : Value} {an od : Option Addr}
    {osl : Array (Option Value)} {N ps : List Str} {sp : Sp} (lk : W.K.lookup f = some ⟨oc, od, .func (PySem.W.fnOf name qual params body scope dV kV doc pm an cdv ct), osl⟩)
    (hcd : PySem.W.codeIn W.K cdv qual = true) (S : FnScope N ps scope) (len : ∀ vs H Q E, sp vs H Q E → vs.length = ps.length)
    (hbody : ∀ (A : Around) (outer : List Env) (s : Shared) (H : Hp) (vs : List V) (Q : VK) (E : XK), A.guards = some [] → Room k (A.deeper (envOfC qual scope s.heap.objs.size f cdv)) → sp vs H Q E →
      ∃ t, PSs (cxOf (L2.CX W.P W.w) W.P W.w W.K W.mg W.base N qual scope f cdv A outer s H E) body t ∧ t { nx := fun _ H' => Q .non H', rt := Q } (start N vs) H) :
    FnG W (k + 1) f (PySem.W.fnOf name qual params body scope dV kV doc pm an cdv ct) ps sp := by
  refine ⟨len, fun A outer s H args us vs Q E hgu hr e0 hb r hsp => ?_⟩
  have hl := len _ _ _ _ hsp
  have kIn : W.K.In s.heap := e0.mod.kin.keeps (fun b o e => (e0.bs b o e).1)
  have noLim : s.heap.NoLimit := e0.mod.nolimit.keeps (fun b o e => (e0.bs b o e).1)
  have kinds : ∀ y ∈ ps.zip us, scope.names.lookup y.1 = some .local ∨ (scope.names.lookup y.1 = some .cell ∧ ((cellsFrom (s.heap.objs.size + 1) scope.names []).lookup y.1).isSome = true) := by
    rintro ⟨n, v⟩ hy
    cases S.par n (List.of_mem_zip hy).1 with
    | inl q => exact .inl q
    | inr q => exact .inr ⟨q, PySem.W.cellsFrom_some _ _ _ (.inl q)⟩
  refine codeAny_call_function (hr.depth) (kIn _ _ lk) rfl (S.co) (S.gen) rfl (PySem.W.codeRec_of kIn hcd) (hb _ _ _ _ ?_)
  refine wpAny_newFunctionEnv_cells (S.kind) kinds (fun env he s1 x => ?_)
  subst he
  refine ⟨noLim.keeps (x.toInCall.keep), codeAny_func ?_⟩
  obtain ⟨t, ht, hq⟩ := hbody A outer s H vs Q E hgu (hr.deeper _) hsp
  have I0 : Inv (cxOf (L2.CX W.P W.w) W.P W.w W.K W.mg W.base N qual scope f cdv A outer s H E) [] (start N vs) H s1 := inv_start S hr.hd e0 hl r x
  refine wpAny_mono (ht.run [] s1 (start N vs) H _ I0 hq) (fun fl s' hs => ?_) (fun e s' hs => hs)
  have done : ∀ {σ' : SL} {H' : Hp} {v : V} {u : Value}, Inv (cxOf (L2.CX W.P W.w) W.P W.w W.K W.mg W.base N qual scope f cdv A outer s H E) [] σ' H' s' → RelV v u → Q v H' → CE outer W.P W.w H s Q u s' :=
    fun {σ' H' v u} J rv q => ⟨v, H', J.os, J.bare, J.base, J.hok, rv, q⟩
  cases fl with
  | ret u => obtain ⟨v, σ', H', J, rv, q⟩ := hs; exact done J rv q
  | next => obtain ⟨σ', H', J, q⟩ := hs; exact done (v := V.non) (u := Value.none) J rfl q
  | brk => obtain ⟨_, _, _, q⟩ := hs; exact False.elim q
  | cont => obtain ⟨_, _, _, q⟩ := hs; exact False.elim q

/-- the same of a def of the text -/
theorem Fun.okG {W : WD} {x qual : Str} {st : Stmt} {f : Addr} {fd : FuncData} {N ps : List Str} {k : Nat} {sp : Sp} (F : Fun W.K x qual st f fd) (S : FnScope N ps (defScope st)) (len : ∀ vs H Q E, sp vs H Q E → vs.length = ps.length)
    (hbody : ∀ (cdv : Value) (A : Around) (outer : List Env) (s : Shared) (H : Hp) (vs : List V) (Q : VK) (E : XK), A.guards = some [] → Room k (A.deeper (envOfC qual (defScope st) s.heap.objs.size f cdv)) → sp vs H Q E →
      ∃ t, PSs (cxOf (L2.CX W.P W.w) W.P W.w W.K W.mg W.base N qual (defScope st) f cdv A outer s H E) (defBody st) t ∧ t { nx := fun _ H' => Q .non H', rt := Q } (start N vs) H) : FnG W (k + 1) f fd ps sp := by
  obtain ⟨oc, od, kV, doc, pm, an, cdv, ct, osl, rfl, lk, hcd⟩ := F.ex
  exact fn_g lk hcd S len (fun A outer s H vs Q E hg hr hsp => hbody cdv A outer s H vs Q E hg hr hsp)

/-- the context of a def's body is fit -/
theorem ok_top {W : WD} {k : Nat} {N : List Str} {qual : Str} {scope : Scope} {f : Addr} {cdv : Value} {A : Around} {outer : List Env} {s : Shared} {H : Hp} {E : XK} (hg : A.guards = some [])
    (hr : Room k (A.deeper (envOfC qual scope s.heap.objs.size f cdv))) :
    Kx.Ok ⟨W, N, scope, k, true, fun _ => true, true, fun cls d _ H' => E cls d H'⟩ (cxOf (L2.CX W.P W.w) W.P W.w W.K W.mg W.base N qual scope f cdv A outer s H E) where
  prog := rfl
  w := rfl
  K := rfl
  mg := rfl
  base := rfl
  N := rfl
  sc := rfl
  gu := hg
  un := by
    have h := hr.un
    show (A.deeper (envOfC qual scope s.heap.objs.size f cdv)).units + 200 < cLine
    omega
  room := fun _ => hr
  calm := fun _ => rfl
  fn := fun _ _ => rfl
  stk := fun _ => ⟨rfl, rfl⟩
  tk := takes_of rfl rfl rfl rfl
  po := passes_of (K := fun e s'' => L2.CX W.P W.w outer H s E e s'') rfl

def startE (N : List Str) (es : List EV) : List EV := es ++ List.replicate (N.length - es.length) .und
theorem EReps.unds {A : A0} {H : Hp} : ∀ n : Nat, EReps A H (List.replicate n .und) (List.replicate n none)
  | 0 => trivial
  | n + 1 => ⟨trivial, EReps.unds n⟩
theorem EReps.start {A : A0} {H : Hp} {N : List Str} {es : List EV} {vs : List V} (h : VReps A H es vs) : EReps A H (startE N es) (L2.start N vs) := by
  unfold startE L2.start
  rw [h.len]
  generalize N.length - vs.length = n
  have go : ∀ {es : List EV} {vs : List V}, VReps A H es vs → EReps A H (es ++ List.replicate n .und) (vs.map some ++ List.replicate n none) := by
    intro es
    induction es with
    | nil =>
      intro vs h
      cases vs with
      | nil => exact EReps.unds n
      | cons v vs => exact h.elim
    | cons e es ih =>
      intro vs h
      cases vs with
      | nil => exact h.elim
      | cons v vs => exact ⟨ERep.of h.1, ih h.2⟩
  exact go h
/-- own objects that were made on the way and are not handed back: they are plain data of the caller's heap -/
theorem RS.back {A A' : A0} {Γ Γ' : List EV} {S S' T : List MO} {σ σ' : SL} {H H' : Hp} (R : RS A Γ S σ H) (t : Tr A A' H H') (R' : RS A' Γ' (S' ++ T) σ' H') (hl : S'.length = S.length)
    (hn : ∀ (k : Nat) (xs : List EV), S'[k]? = some (.lst xs) → ∀ j, EV.own j ∈ xs → j < S'.length) (hd : A.dd = []) (hgo : ∀ k : Nat, S'[k]? ≠ some MO.gone) :
    Aft A S' H H' ∧ ∀ a, A.no a → A'.no a := by
  obtain ⟨fr, ef, nf⟩ := t.ad
  have hlen : A.ad.length = S'.length := R.len.trans hl.symm
  have no' : ∀ a, A.no a → A'.no a := fun a z => by
    rcases z with z | ⟨k, h1, _⟩
    · exact .inl (by rw [t.av]; exact z)
    · have hk : k < A.ad.length := (List.getElem?_eq_some_iff.mp h1).1
      refine .inr ⟨k, t.at_ h1, fun w => ?_⟩
      have q := R'.gn k w
      rw [List.getElem?_append_left (by omega)] at q
      exact hgo k q
  have repD : ∀ {v : V} {d : PyData}, Rep A'.no H' v d → Rep A.no H' v d := fun r => r.move (fun _ _ e _ => e) fun a o _ h z => h (no' a z)
  have repL : ∀ {v : List V} {d : List PyData}, RepL A'.no H' v d → RepL A.no H' v d := fun r => r.move (fun _ _ e _ => e) fun a o _ h z => h (no' a z)
  have vrs : ∀ {xs : List EV} {vs : List V}, (∀ j, EV.own j ∈ xs → j < S'.length) → VReps A' H' xs vs → VReps A H' xs vs := by
    intro xs
    induction xs with
    | nil =>
      intro vs _ h
      cases vs with
      | nil => trivial
      | cons v vs => exact h.elim
    | cons e es ih =>
      intro vs hj h
      cases vs with
      | nil => exact h.elim
      | cons v vs =>
        refine ⟨?_, ih (fun j hm => hj j (List.mem_cons_of_mem _ hm)) h.2⟩
        have h1 := h.1
        cases e with
        | und => trivial
        | val d => exact repD h1
        | own k =>
          obtain ⟨a, h2, h3⟩ := h1
          refine ⟨a, ?_, h3⟩
          have hk : k < A.ad.length := by
            rw [hlen]
            exact hj k List.mem_cons_self
          rw [ef, List.getElem?_append_left hk] at h2
          exact h2
  refine ⟨⟨t.keep, t.dom, fun a ha => ?_, R.nd, R.sep, hlen, fun k hk => ?_, fun a ha => ?_, trivial, fun k o a h1 h2 => ?_⟩, no'⟩
  · obtain ⟨o, e⟩ := R.dom a ha
    exact t.dom a o e
  · rw [hd] at hk
    cases hk
  · obtain ⟨o, e⟩ := R.all a ha
    exact t.dom a o e
  · have hk : k < S'.length := (List.getElem?_eq_some_iff.mp h1).1
    have q := R'.sto k o a (by rw [List.getElem?_append_left hk]; exact h1) (t.at_ h2)
    cases o with
    | lst xs => obtain ⟨vs, e, r⟩ := q; exact ⟨vs, e, vrs (hn k xs h1) r⟩
    | dK kvs => obtain ⟨vs, e, r⟩ := q; exact ⟨vs, e, repL r⟩
    | dT kvs => obtain ⟨vs, e, r⟩ := q; exact ⟨vs, e, repL r⟩
    | gone => trivial

/-! ### from a body to the promise -/
mutual
/-- what e stands for as data, the own objects from n on taken for data -/
inductive Frz (n : Nat) (S : List MO) : EV → PyData → Prop
  | val (d : PyData) : Frz n S (.val d) d
  | own {k : Nat} {xs : List EV} {ds : List PyData} : n ≤ k → S[k]? = some (.lst xs) → FrzL n S xs ds → Frz n S (.own k) (.list ds)
inductive FrzL (n : Nat) (S : List MO) : List EV → List PyData → Prop
  | nil : FrzL n S [] []
  | cons {e : EV} {es : List EV} {d : PyData} {ds : List PyData} : Frz n S e d → FrzL n S es ds → FrzL n S (e :: es) (d :: ds)
end
theorem FrzL.vals {n : Nat} {S : List MO} : ∀ ds : List PyData, FrzL n S (ds.map EV.val) ds
  | [] => .nil
  | d :: ds => .cons (.val d) (FrzL.vals ds)
theorem Frz.lst {n k : Nat} {S : List MO} {ds : List PyData} (h : n ≤ k) (e : S[k]? = some (.lst (ds.map EV.val))) : Frz n S (.own k) (.list ds) := .own h e (FrzL.vals ds)
section
variable {A A' : A0} {Γ' : List EV} {T : List MO} {σ' : SL} {H H' : Hp}
mutual
theorem Frz.rep (t : Tr A A' H H') (R' : RS A' Γ' T σ' H') (dm : ∀ a, A.no a → ∃ o, H a = some o) (no' : ∀ a, A.no a → A'.no a) : ∀ {e : EV} {d : PyData} {v : V}, Frz A.ad.length T e d → VRep A' H' e v → Rep A.no H' v d
  | _, _, _, .val d, r => Rep.move (fun _ _ e _ => e) (fun a o _ h z => h (no' a z)) (show Rep A'.no H' _ d from r)
  | _, _, _, .own hk hs fs, r => by
    obtain ⟨a, h1, rfl⟩ := r
    obtain ⟨vs, e, q⟩ := R'.sto _ _ a hs h1
    refine Rep.lst ?_ e (FrzL.rep t R' dm no' fs q)
    obtain ⟨fr, ef, nf⟩ := t.ad
    rw [ef, List.getElem?_append_right hk] at h1
    have z := nf a (List.mem_of_getElem? h1)
    intro w
    obtain ⟨o, q'⟩ := dm a w
    rw [z] at q'
    cases q'
theorem FrzL.rep (t : Tr A A' H H') (R' : RS A' Γ' T σ' H') (dm : ∀ a, A.no a → ∃ o, H a = some o) (no' : ∀ a, A.no a → A'.no a) : ∀ {es : List EV} {ds : List PyData} {vs : List V}, FrzL A.ad.length T es ds → VReps A' H' es vs → RepL A.no H' vs ds
  | _, _, [], .nil, _ => .nil
  | _, _, _ :: _, .nil, h => h.elim
  | _, _, [], .cons _ _, h => h.elim
  | _, _, _ :: _, .cons f fs, h => .cons (Frz.rep t R' dm no' f h.1) (FrzL.rep t R' dm no' fs h.2)
end
end
/-- objects that are handed back speak of one another alone -/
def closedE (n : Nat) : EV → Bool
  | .own k => decide (k < n)
  | _ => true
def closedS (n : Nat) (S : List MO) : Bool := S.all fun o => match o with | .lst xs => xs.all (closedE n) | .gone => false | _ => true
theorem closedS_gone {n : Nat} {S : List MO} (h : closedS n S = true) (k : Nat) : S[k]? ≠ some .gone := fun e => by
  have h1 := List.all_eq_true.mp h _ (List.mem_of_getElem? e)
  cases h1
theorem closedS_mem {n : Nat} {S : List MO} (h : closedS n S = true) (k : Nat) (xs : List EV) (e : S[k]? = some (.lst xs)) (j : Nat) (hj : EV.own j ∈ xs) : j < n := by
  have h1 := List.all_eq_true.mp h _ (List.mem_of_getElem? e)
  have h2 := List.all_eq_true.mp h1 _ hj
  simpa [closedE] using h2
/-- how a body's end makes the promise's -/
inductive Ends_ (n : Nat) : Out → Res → Prop
  | val {e : EV} {d : PyData} {S' T : List MO} : Frz n (S' ++ T) e d → S'.length = n → closedS n S' = true → Ends_ n (.rt e (S' ++ T)) (.ok (.val d) S')
  | own {k : Nat} {S' T : List MO} : k < n → S'.length = n → closedS n S' = true → Ends_ n (.rt (.own k) (S' ++ T)) (.ok (.own k) S')
  | non {Γ : List EV} {S' T : List MO} : S'.length = n → closedS n S' = true → Ends_ n (.nx Γ (S' ++ T)) (.ok (.val .none) S')
  | ex {cls : Value} {S' T : List MO} : S'.length = n → closedS n S' = true → Ends_ n (.ex cls (S' ++ T)) (.ex cls S')
theorem Fun.okD {W : WD} {x qual : Str} {st : Stmt} {f : Addr} {fd : FuncData} {N ps : List Str} {k : Nat} {R : Spec} (F : Fun W.K x qual st f fd) (S : FnScope N ps (defScope st))
    (len : ∀ es S r, R es S r → es.length = ps.length)
    (hbody : ∀ (E : Value → Option Addr → SL → Hp → Prop) (es : List EV) (S : List MO) (r : Res), R es S r → ∃ o, Ends_ S.length o r ∧ DSs ⟨W, N, defScope st, k, true, fun _ => true, true, E⟩ (defBody st) (startE N es) S o) :
    FnG W (k + 1) f fd ps (spD R) := by
  refine Fun.okG F S (fun vs H Q E h => ?_) (fun cdv A outer s H vs Q E hg hr h => ?_)
  · obtain ⟨A, es, S, r, _, _, hv, hR, _⟩ := h
    rw [← hv.len]
    exact len es S r hR
  · obtain ⟨A1, es, S1, r, hdd, hrs, hv, hR, hend⟩ := h
    obtain ⟨o, ho, hd⟩ := hbody (fun cls d _ H' => E cls d H') es S1 r hR
    have ok := ok_top (W := W) (N := N) (qual := qual) (scope := defScope st) (f := f) (cdv := cdv) (outer := outer) (s := s) (H := H) (E := E) hg hr
    refine ⟨_, hd _ ok, A1, ⟨hrs.dom, hrs.nd, hrs.sep, hrs.len, hrs.gn, hrs.all, EReps.start hv, hrs.sto⟩, ?_⟩
    have ln : A1.ad.length = S1.length := hrs.len
    have bk : ∀ {A' : A0} {Γ' : List EV} {S' T : List MO} {σ' : SL} {H' : Hp}, S'.length = S1.length → closedS S1.length S' = true → Tr A1 A' H H' → RS A' Γ' (S' ++ T) σ' H' → Aft A1 S' H H' ∧ ∀ a, A1.no a → A'.no a :=
      fun {A' Γ' S' T σ' H'} hl hc t R' => RS.back hrs t R' hl (fun k xs e j hj => by rw [hl]; exact closedS_mem hc k xs e j hj) hdd (closedS_gone hc)
    cases ho with
    | val hf hl hc =>
      intro A' v σ' H' Γ' t R' x
      obtain ⟨a1, a2⟩ := bk hl hc t R'
      exact hend v H' a1 (Frz.rep t R' hrs.dom a2 (by rw [ln]; exact hf) x)
    | own hk hl hc =>
      intro A' v σ' H' Γ' t R' x
      obtain ⟨a1, a2⟩ := bk hl hc t R'
      refine hend v H' a1 ?_
      obtain ⟨a, h1, h2⟩ := x
      obtain ⟨fr, ef, _⟩ := t.ad
      rw [ef, List.getElem?_append_left (by omega)] at h1
      exact ⟨a, h1, h2⟩
    | non hl hc =>
      intro A' σ' H' t R'
      exact hend .non H' (bk hl hc t R').1 Rep.non
    | ex hl hc =>
      intro A' σ' H' Γ' t R'
      exact hend H' (bk hl hc t R').1

/-- a def as its callers see it -/
structure Def (W : WD) (x : Str) (ps : List Str) (k : Nat) (R : Spec) : Prop where
  ex : ∃ f fd, W.mg x = some (.ref f) ∧ PySem.W.keepIn W.K (.ref f) = true ∧ FnG W k f fd ps (spD R) ∧ Binds W.K fd ps []
theorem Def.mono {W : WD} {x : Str} {ps : List Str} {j k : Nat} {R : Spec} (h : Def W x ps j R) (hk : j ≤ k) : Def W x ps k R := by
  obtain ⟨f, fd, a, b, c, d⟩ := h.ex
  exact ⟨f, fd, a, b, c.mono hk, d⟩
end DL
end
section
set_option Elab.async false
set_option linter.all false
set_option maxRecDepth 100000
set_option autoImplicit false
/-! Data layer, part 3: expressions. -/
namespace DL
open L2 PySem PySem.Spec PyProof.Rows

abbrev dI (i : Int) : EV := .val (.int i)
abbrev dB (b : Bool) : EV := .val (.bool b)
abbrev dS (s : Str) : EV := .val (.str s)
abbrev dN : EV := .val .none
abbrev dT (ds : List PyData) : EV := .val (.tuple ds)
abbrev dL (ds : List PyData) : EV := .val (.list ds)
section
variable {A : A0} {H : Hp} {v : V}
theorem int_of {i : Int} (h : VRep A H (dI i) v) : v = .int i := by
  cases (show Rep A.no H v (.int i) from h)
  rfl
theorem bl_of {b : Bool} (h : VRep A H (dB b) v) : v = .bl b := by
  cases (show Rep A.no H v (.bool b) from h)
  rfl
theorem str_of {s : Str} (h : VRep A H (dS s) v) : v = .str s := by
  cases (show Rep A.no H v (.str s) from h)
  rfl
theorem non_of (h : VRep A H dN v) : v = .non := by
  cases (show Rep A.no H v .none from h)
  rfl
theorem tup_of {ds : List PyData} (h : VRep A H (dT ds) v) : ∃ a vs, v = .ref a ∧ H a = some (.tup vs) ∧ RepL A.no H vs ds ∧ ¬ A.no a := by
  cases (show Rep A.no H v (.tuple ds) from h) with
  | tup n e r => exact ⟨_, _, rfl, e, r, n⟩
theorem lst_of {ds : List PyData} (h : VRep A H (dL ds) v) : ∃ a vs, v = .ref a ∧ H a = some (.lst vs) ∧ RepL A.no H vs ds ∧ ¬ A.no a := by
  cases (show Rep A.no H v (.list ds) from h) with
  | lst n e r => exact ⟨_, _, rfl, e, r, n⟩
end

section
variable {X : Cx} {c : Kx} {Γ : List EV} {S S1 S2 S3 : List MO} {a b d e : Expr} {es : List Expr} {pos : Pos}

theorem e_int {i : Int} {j : Nat} : DE c (.Constant (.int i) j pos) Γ S (dI i) S := fun X ok => PE_imp pe_int fun σ H Q ⟨A, R, k⟩ => k.now R (Rep.int i)
theorem e_bl {b : Bool} {j : Nat} : DE c (.Constant (.bool b) j pos) Γ S (dB b) S := fun X ok => PE_imp pe_bl fun σ H Q ⟨A, R, k⟩ => k.now R (Rep.bl b)
theorem e_non {j : Nat} : DE c (.Constant .none j pos) Γ S dN S := fun X ok => PE_imp pe_non fun σ H Q ⟨A, R, k⟩ => k.now R Rep.non
theorem e_str {x : Str} {j : Nat} : DE c (.Constant (.str x) j pos) Γ S (dS x) S := fun X ok => PE_imp pe_str fun σ H Q ⟨A, R, k⟩ => k.now R (Rep.str x)
theorem e_v (i : Nat) {x : Str} {ev : EV} (hN : c.N[i]? = some x := by rfl) (hv : Vis c.sc x := by first | exact Or.inl rfl | exact Or.inr (Or.inl rfl) | exact Or.inr (Or.inr rfl)) (hΓ : Γ[i]? = some ev := by rfl) (hu : ev ≠ .und := by nofun)
    (hd : (x == ("__debug__" : Str)) = false := by decide) (hcd : (x == ("__classdict__" : Str)) = false := by decide) : DE c (.Name x pos) Γ S ev S := fun X ok =>
  PE_imp (pe_var (i := i) (by rw [ok.N]; exact hN) (by rw [ok.sc]; exact hv) hd hcd) fun σ H Q ⟨A, R, k⟩ => by
    obtain ⟨v, h1, h2⟩ := R.var hΓ hu
    exact ⟨v, h1, k.now R h2⟩
theorem gl_of {x : Str} {X : Cx} (ok : c.Ok X) (h : c.sc.names.lookup x = some .globalImplicit) : Gl X x := by
  show X.env.scope.names.lookup x = _
  rw [ok.sc]
  exact h
theorem e_gint {x : Str} {i : Int} (hm : ∃ t, c.W.mg x = some (.int i t)) (hg : c.sc.names.lookup x = some .globalImplicit := by rfl) (hd : (x == ("__debug__" : Str)) = false := by decide) : DE c (.Name x pos) Γ S (dI i) S := fun X ok => by
  obtain ⟨t, hm⟩ := hm
  exact PE_imp (pe_glob (v := .int i) (gl_of ok hg) (by rw [ok.mg]; exact hm) ⟨t, rfl⟩ hd) fun σ H Q ⟨A, R, k⟩ => k.now R (Rep.int i)

/-! ### operators -/
theorem e_bin {op : Operator} {r : R2} {x y z : EV} (ho : ∀ X, c.Ok X → OpR X (binaryOp op) r)
    (h : ∀ A σ H Q v w, RS A Γ S2 σ H → VRep A H x v → VRep A H y w → Post A Γ S3 z σ H Q → r v w H Q) (ha : DE c a Γ S x S1) (hb : DE c b Γ S1 y S2) : DE c (.BinOp a op b pos) Γ S z S3 := fun X ok =>
  PE_imp (pe_op (ho X ok) (ha X ok) (hb X ok)) fun σ H Q ⟨A, R, k⟩ => ⟨A, R, fun A1 v H1 t1 R1 x1 => ⟨A1, R1, fun A2 w H2 t2 R2 x2 => h A2 σ H2 Q v w R2 (t2.vrep x1) x2 ((k.tr t1).tr t2)⟩⟩
theorem e_add {i j : Int} (ha : DE c a Γ S (dI i) S1) (hb : DE c b Γ S1 (dI j) S2) : DE c (.BinOp a .Add b pos) Γ S (dI (i + j)) S2 :=
  e_bin (fun _ _ => op_add) (fun A σ H Q v w R x y k => ⟨i, j, int_of x, int_of y, k.now R (Rep.int _)⟩) ha hb
theorem e_sub {i j : Int} (ha : DE c a Γ S (dI i) S1) (hb : DE c b Γ S1 (dI j) S2) : DE c (.BinOp a .Sub b pos) Γ S (dI (i - j)) S2 :=
  e_bin (fun _ _ => op_sub) (fun A σ H Q v w R x y k => ⟨i, j, int_of x, int_of y, k.now R (Rep.int _)⟩) ha hb
theorem e_mul {i j : Int} (ha : DE c a Γ S (dI i) S1) (hb : DE c b Γ S1 (dI j) S2) (h : CMulW i j) : DE c (.BinOp a .Mult b pos) Γ S (dI (i * j)) S2 :=
  e_bin (fun _ _ => op_mulW) (fun A σ H Q v w R x y k => ⟨i, j, int_of x, int_of y, h, k.now R (Rep.int _)⟩) ha hb
theorem e_mod {i j : Int} (ha : DE c a Γ S (dI i) S1) (hb : DE c b Γ S1 (dI j) S2) (h : 0 < j) : DE c (.BinOp a .Mod b pos) Γ S (dI (i % j)) S2 :=
  e_bin (fun _ _ => op_mod) (fun A σ H Q v w R x y k => ⟨i, j, int_of x, int_of y, h, k.now R (Rep.int _)⟩) ha hb
theorem e_fdiv {i j : Int} (ha : DE c a Γ S (dI i) S1) (hb : DE c b Γ S1 (dI j) S2) (h : CDivW i j) : DE c (.BinOp a .FloorDiv b pos) Γ S (dI (i / j)) S2 :=
  e_bin (fun _ _ => op_fdivW) (fun A σ H Q v w R x y k => ⟨i, j, int_of x, int_of y, h, k.now R (Rep.int _)⟩) ha hb
theorem e_pow {i j : Int} (ha : DE c a Γ S (dI i) S1) (hb : DE c b Γ S1 (dI j) S2) (h : CPow i j) : DE c (.BinOp a .Pow b pos) Γ S (dI (i ^ j.toNat)) S2 :=
  e_bin (fun _ _ => op_pow) (fun A σ H Q v w R x y k => ⟨i, j, int_of x, int_of y, h, k.now R (Rep.int _)⟩) ha hb
theorem e_band {i j : Int} (ha : DE c a Γ S (dI i) S1) (hb : DE c b Γ S1 (dI j) S2) : DE c (.BinOp a .BitAnd b pos) Γ S (dI (Builtin.bitAnd i j)) S2 :=
  e_bin (fun _ _ => op_and) (fun A σ H Q v w R x y k => ⟨i, j, int_of x, int_of y, k.now R (Rep.int _)⟩) ha hb
theorem e_adds {i j : Str} (ha : DE c a Γ S (dS i) S1) (hb : DE c b Γ S1 (dS j) S2) (h : i.length + j.length ≤ sizeLine) : DE c (.BinOp a .Add b pos) Γ S (dS (i ++ j)) S2 :=
  e_bin (fun _ _ => op_add_str) (fun A σ H Q v w R x y k => ⟨i, j, str_of x, str_of y, h, k.now R (Rep.str _)⟩) ha hb
theorem e_addt {ds es : List PyData} (ha : DE c a Γ S (dT ds) S1) (hb : DE c b Γ S1 (dT es) S2) (h : ds.length + es.length ≤ sizeLine) : DE c (.BinOp a .Add b pos) Γ S (dT (ds ++ es)) S2 :=
  e_bin (r := rCatA c.W.K) (fun X ok => by rw [← ok.K]; exact op_catA) (fun A σ H Q v w R x y k => by
    obtain ⟨p, vs, rfl, e1, r1, n1⟩ := tup_of x
    obtain ⟨q, ws, rfl, e2, r2, n2⟩ := tup_of y
    refine ⟨p, q, vs, ws, rfl, rfl, SqT.of e1, SqT.of e2, by rw [r1.len, r2.len]; exact h, fun z => ?_, fun z1 z2 => ?_, fun z1 z2 t ht => ?_⟩
    · subst z
      cases r1
      exact k.now R y
    · subst z2
      cases r2
      rw [List.append_nil] at k
      exact k.now R x
    · exact k.new R ht (VRep.tup R ht (r1.app r2))) ha hb
theorem e_addl {ds es : List PyData} (ha : DE c a Γ S (dL ds) S1) (hb : DE c b Γ S1 (dL es) S2) (h : ds.length + es.length ≤ sizeLine) : DE c (.BinOp a .Add b pos) Γ S (dL (ds ++ es)) S2 :=
  e_bin (fun _ _ => op_cat) (fun A σ H Q v w R x y k => by
    obtain ⟨p, vs, rfl, e1, r1, n1⟩ := lst_of x
    obtain ⟨q, ws, rfl, e2, r2, n2⟩ := lst_of y
    exact ⟨p, q, vs, ws, rfl, rfl, e1, e2, by rw [r1.len, r2.len]; exact h, fun t ht => k.new R ht (VRep.lst R ht (r1.app r2))⟩) ha hb
theorem e_neg {i : Int} (ha : DE c a Γ S (dI i) S1) : DE c (.UnaryOp .USub a pos) Γ S (dI (-i)) S1 := fun X ok =>
  PE_imp (pe_un un_neg (ha X ok)) fun σ H Q ⟨A, R, k⟩ => ⟨A, R, fun A1 v H1 t1 R1 x1 => ⟨i, int_of x1, (k.tr t1).now R1 (Rep.int _)⟩⟩

/-! ### comparisons -/
structure Cmp (c : Kx) (op : CmpOp) (x y : EV) (b : Bool) (S : List MO) : Prop where
  ex : ∃ r : R2, (∀ X, c.Ok X → OpR X (compareOp op) r) ∧ ∀ Γ A σ H Q v w, RS A Γ S σ H → VRep A H x v → VRep A H y w → Q (.bl b) H → r v w H Q
theorem e_cmp {op : CmpOp} {x y : EV} {k : Bool} (ha : DE c a Γ S x S1) (hb : DE c b Γ S1 y S2) (h : Cmp c op x y k S2) (hm : behindInMarks op b = false := by first | exact nomark _ | rfl) : DE c (.Compare a [op] [b] pos) Γ S (dB k) S2 := fun X ok => by
  obtain ⟨r, h1, h2⟩ := h.ex
  exact PE_imp (pe_cmpR (h1 X ok) (ha X ok) (hb X ok) hm) fun σ H Q ⟨A, R, q⟩ => ⟨A, R, fun A1 v H1 t1 R1 x1 => ⟨A1, R1, fun A2 w H2 t2 R2 x2 => h2 Γ A2 σ H2 Q v w R2 (t2.vrep x1) x2 (((q.tr t1).tr t2).now R2 (Rep.bl _))⟩⟩
theorem t_cmp {op : CmpOp} {x y : EV} {k : Bool} (ha : DE c a Γ S x S1) (hb : DE c b Γ S1 y S2) (h : Cmp c op x y k S2) (hm : behindInMarks op b = false := by first | exact nomark _ | rfl) : DT c (.Compare a [op] [b] pos) Γ S k S2 := fun X ok => by
  obtain ⟨r, h1, h2⟩ := h.ex
  exact PT_imp (pt_cmpR (h1 X ok) (ha X ok) (hb X ok) hm) fun σ H Q ⟨A, R, q⟩ => ⟨A, R, fun A1 v H1 t1 R1 x1 => ⟨A1, R1, fun A2 w H2 t2 R2 x2 => h2 Γ A2 σ H2 _ v w R2 (t2.vrep x1) x2 ⟨k, rfl, q A2 H2 (t1.trans t2) R2⟩⟩⟩
theorem pe_no : PE X e (fun _ _ _ => False) := ⟨fun _ _ _ _ _ _ h => h.elim⟩
theorem opr_no {f : Value → Value → Sem Value} : OpR X f (fun _ _ _ _ => False) := fun _ _ _ _ _ _ _ _ _ _ _ _ h => h.elim
theorem e_chain {op op' : CmpOp} {x y z : EV} {k k' : Bool} (ha : DE c a Γ S x S1) (hb : DE c b Γ S1 y S2) (h : Cmp c op x y k S2) (hd : k = true → DE c d Γ S2 z S2) (h' : k = true → Cmp c op' y z k' S2)
    (hm : lastMarks [op, op'] [b, d] = false := by with_unfolding_all rfl) : DE c (.Compare a [op, op'] [b, d] pos) Γ S (dB (k && k')) S2 := fun X ok => by
  obtain ⟨r, h1, h2⟩ := h.ex
  cases k with
  | false =>
    exact PE_imp (pe_chain (h1 X ok) opr_no (ha X ok) (hb X ok) pe_no hm) fun σ H Q ⟨A, R, q⟩ => ⟨A, R, fun A1 v H1 t1 R1 x1 => ⟨A1, R1, fun A2 w H2 t2 R2 x2 =>
      h2 Γ A2 σ H2 _ v w R2 (t2.vrep x1) x2 ⟨false, rfl, ((q.tr t1).tr t2).now R2 (Rep.bl _)⟩⟩⟩
  | true =>
    obtain ⟨r', h3, h4⟩ := (h' rfl).ex
    exact PE_imp (pe_chain (h1 X ok) (h3 X ok) (ha X ok) (hb X ok) (hd rfl X ok) hm) fun σ H Q ⟨A, R, q⟩ => ⟨A, R, fun A1 v H1 t1 R1 x1 => ⟨A1, R1, fun A2 w H2 t2 R2 x2 =>
      h2 Γ A2 σ H2 _ v w R2 (t2.vrep x1) x2 ⟨true, rfl, A2, R2, fun A3 u H3 t3 R3 x3 => h4 Γ A3 σ H3 Q w u R3 (t3.vrep x2) x3 ((((q.tr t1).tr t2).tr t3).now R3 (Rep.bl _))⟩⟩⟩
theorem t_chain {op op' : CmpOp} {x y z : EV} {k k' : Bool} (ha : DE c a Γ S x S1) (hb : DE c b Γ S1 y S2) (h : Cmp c op x y k S2) (hd : k = true → DE c d Γ S2 z S2) (h' : k = true → Cmp c op' y z k' S2)
    (hm : lastMarks [op, op'] [b, d] = false := by with_unfolding_all rfl) : DT c (.Compare a [op, op'] [b, d] pos) Γ S (k && k') S2 := fun X ok => by
  obtain ⟨r, h1, h2⟩ := h.ex
  cases k with
  | false =>
    exact PT_imp (pt_chain (h1 X ok) opr_no (ha X ok) (hb X ok) pe_no hm) fun σ H Q ⟨A, R, q⟩ => ⟨A, R, fun A1 v H1 t1 R1 x1 => ⟨A1, R1, fun A2 w H2 t2 R2 x2 =>
      h2 Γ A2 σ H2 _ v w R2 (t2.vrep x1) x2 ⟨false, rfl, false, rfl, q A2 H2 (t1.trans t2) R2⟩⟩⟩
  | true =>
    obtain ⟨r', h3, h4⟩ := (h' rfl).ex
    exact PT_imp (pt_chain (h1 X ok) (h3 X ok) (ha X ok) (hb X ok) (hd rfl X ok) hm) fun σ H Q ⟨A, R, q⟩ => ⟨A, R, fun A1 v H1 t1 R1 x1 => ⟨A1, R1, fun A2 w H2 t2 R2 x2 =>
      h2 Γ A2 σ H2 _ v w R2 (t2.vrep x1) x2 ⟨true, rfl, A2, R2, fun A3 u H3 t3 R3 x3 => h4 Γ A3 σ H3 _ w u R3 (t3.vrep x2) x3 ⟨k', rfl, q A3 H3 ((t1.trans t2).trans t3) R3⟩⟩⟩⟩

/-! #### which comparisons -/
theorem c_lt {i j : Int} : Cmp c .Lt (dI i) (dI j) (decide (i < j)) S := ⟨_, fun _ _ => op_lt, fun Γ A σ H Q v w R x y q => ⟨i, j, int_of x, int_of y, q⟩⟩
theorem c_le {i j : Int} : Cmp c .LtE (dI i) (dI j) (decide (i ≤ j)) S := ⟨_, fun _ _ => op_le, fun Γ A σ H Q v w R x y q => ⟨i, j, int_of x, int_of y, q⟩⟩
theorem c_gt {i j : Int} : Cmp c .Gt (dI i) (dI j) (decide (j < i)) S := ⟨_, fun _ _ => op_gt, fun Γ A σ H Q v w R x y q => ⟨i, j, int_of x, int_of y, q⟩⟩
theorem c_ge {i j : Int} : Cmp c .GtE (dI i) (dI j) (decide (j ≤ i)) S := ⟨_, fun _ _ => op_ge, fun Γ A σ H Q v w R x y q => ⟨i, j, int_of x, int_of y, q⟩⟩
theorem c_eq {i j : Int} : Cmp c .Eq (dI i) (dI j) (decide (i = j)) S := ⟨_, fun _ _ => op_eq, fun Γ A σ H Q v w R x y q => by
  rw [int_of x, int_of y]
  have e : decide (V.int i = V.int j) = decide (i = j) := by simp
  exact ⟨rfl, by rw [e]; exact q⟩⟩
theorem c_ne {i j : Int} : Cmp c .NotEq (dI i) (dI j) (!decide (i = j)) S := ⟨_, fun _ _ => op_ne, fun Γ A σ H Q v w R x y q => by
  rw [int_of x, int_of y]
  have e : decide (V.int i = V.int j) = decide (i = j) := by simp
  exact ⟨rfl, by rw [e]; exact q⟩⟩
theorem c_eqS {i j : Str} : Cmp c .Eq (dS i) (dS j) (decide (i = j)) S := ⟨_, fun _ _ => op_eq, fun Γ A σ H Q v w R x y q => by
  rw [str_of x, str_of y]
  have e : decide (V.str i = V.str j) = decide (i = j) := by simp
  exact ⟨rfl, by rw [e]; exact q⟩⟩
theorem c_neS {i j : Str} : Cmp c .NotEq (dS i) (dS j) (!decide (i = j)) S := ⟨_, fun _ _ => op_ne, fun Γ A σ H Q v w R x y q => by
  rw [str_of x, str_of y]
  have e : decide (V.str i = V.str j) = decide (i = j) := by simp
  exact ⟨rfl, by rw [e]; exact q⟩⟩
theorem c_eqB {i j : Bool} : Cmp c .Eq (dB i) (dB j) (decide (i = j)) S := ⟨_, fun _ _ => op_eq, fun Γ A σ H Q v w R x y q => by
  rw [bl_of x, bl_of y]
  have e : decide (V.bl i = V.bl j) = decide (i = j) := by simp
  exact ⟨rfl, by rw [e]; exact q⟩⟩
theorem c_neB {i j : Bool} : Cmp c .NotEq (dB i) (dB j) (!decide (i = j)) S := ⟨_, fun _ _ => op_ne, fun Γ A σ H Q v w R x y q => by
  rw [bl_of x, bl_of y]
  have e : decide (V.bl i = V.bl j) = decide (i = j) := by simp
  exact ⟨rfl, by rw [e]; exact q⟩⟩
/-- data of any depth -/
theorem c_eqD {x y : PyData} (hx : x.hasDict = false) (hy : y.hasDict = false) (sx : SeqAt.shaped x = true) (sy : SeqAt.shaped y = true) : Cmp c .Eq (.val x) (.val y) (PyData.eqv x y) S :=
  ⟨rEqD c.W.K, fun X ok => by rw [← ok.K]; exact op_eqD (by have := ok.un; omega), fun Γ A σ H Q v w R p q k => ⟨x, y, Rep.dp hx p, Rep.dp hy q, sx, sy, k⟩⟩
theorem c_neD {x y : PyData} (hx : x.hasDict = false) (hy : y.hasDict = false) (sx : SeqAt.shaped x = true) (sy : SeqAt.shaped y = true) : Cmp c .NotEq (.val x) (.val y) (!PyData.eqv x y) S :=
  ⟨rNeD c.W.K, fun X ok => by rw [← ok.K]; exact op_neD (by have := ok.un; omega), fun Γ A σ H Q v w R p q k => ⟨x, y, Rep.dp hx p, Rep.dp hy q, sx, sy, k⟩⟩
/-- a list of one's own and data -/
theorem dp_own {A : A0} {Γ : List EV} {σ : SL} {H : Hp} {K : PySem.W.Frag} {k : Nat} {ds : List PyData} {v : V} (R : RS A Γ S σ H) (h : S[k]? = some (.lst (ds.map EV.val))) (hd : PyData.hasDictAll ds = false) (r : VRep A H (.own k) v) : Dp K H v (.list ds) := by
  obtain ⟨p, h1, rfl⟩ := r
  obtain ⟨vs, e, q⟩ := R.sto k _ p h h1
  exact .lst (SqL.of e) (RepL.dp hd q.vals)
theorem c_neO {k : Nat} {ds : List PyData} {y : PyData} (h : S[k]? = some (.lst (ds.map EV.val))) (hd : PyData.hasDictAll ds = false) (hy : y.hasDict = false) (sx : SeqAt.shaped (.list ds) = true) (sy : SeqAt.shaped y = true) :
    Cmp c .NotEq (.own k) (.val y) (!PyData.eqv (.list ds) y) S :=
  ⟨rNeD c.W.K, fun X ok => by rw [← ok.K]; exact op_neD (by have := ok.un; omega), fun Γ A σ H Q v w R p q z => ⟨_, y, dp_own R h hd p, Rep.dp hy q, sx, sy, z⟩⟩
theorem c_eqO {k : Nat} {ds : List PyData} {y : PyData} (h : S[k]? = some (.lst (ds.map EV.val))) (hd : PyData.hasDictAll ds = false) (hy : y.hasDict = false) (sx : SeqAt.shaped (.list ds) = true) (sy : SeqAt.shaped y = true) :
    Cmp c .Eq (.own k) (.val y) (PyData.eqv (.list ds) y) S :=
  ⟨rEqD c.W.K, fun X ok => by rw [← ok.K]; exact op_eqD (by have := ok.un; omega), fun Γ A σ H Q v w R p q z => ⟨_, y, dp_own R h hd p, Rep.dp hy q, sx, sy, z⟩⟩
def isNone : PyData → Bool
  | .none => true
  | _ => false
def isBool (b : Bool) : PyData → Bool
  | .bool x => x == b
  | _ => false
theorem c_isN {x : PyData} : Cmp c .Is (.val x) dN (isNone x) S := ⟨_, fun _ _ => op_isN, fun Γ A σ H Q v w R p q k => by
  refine ⟨non_of q, ?_⟩
  have e : decide (v = .non) = isNone x := by cases (show Rep A.no H v x from p) <;> simp [isNone]
  rw [e]
  exact k⟩
theorem c_notN {x : PyData} : Cmp c .IsNot (.val x) dN (!isNone x) S := ⟨_, fun _ _ => op_notN, fun Γ A σ H Q v w R p q k => by
  refine ⟨non_of q, ?_⟩
  have e : decide (v = .non) = isNone x := by cases (show Rep A.no H v x from p) <;> simp [isNone]
  rw [e]
  exact k⟩
/-- x is True -/
theorem op_isB : OpR X (compareOp .Is) (fun x y H Q => ∃ b : Bool, y = .bl b ∧ (∀ n, x ≠ .ty n) ∧ (∀ b, x ≠ .byt b) ∧ (∀ b, x ≠ .flt b) ∧ Q (.bl (match x with | .bl z => z == b | _ => false)) H) := by
  intro pins s σ H x y v u Q I rx ry h
  obtain ⟨b, rfl, n1, n2, n3, q⟩ := h
  cases (show u = Value.bool b from ry)
  cases x with
  | non =>
    cases (show v = Value.none from rx)
    exact wpAny_pure ⟨.bl false, H, I, rfl, q⟩
  | bl z =>
    cases (show v = Value.bool z from rx)
    by_cases e : z = b
    · subst e
      exact wpAny_is_self rfl ⟨.bl true, H, I, rfl, by simpa using q⟩
    · exact wpAny_is_other rfl (fun w => e (Value.bool.inj w)) ⟨.bl false, H, I, rfl, by
        have w : (z == b) = false := by simpa using e
        have q' : Q (.bl (z == b)) H := q
        rw [w] at q'
        exact q'⟩
  | int i =>
    obtain ⟨t, rfl⟩ := (show ∃ t, v = Value.int i t from rx)
    exact wpAny_pure ⟨.bl false, H, I, rfl, q⟩
  | str i =>
    obtain ⟨t, rfl⟩ := (show ∃ t, v = Value.str i t from rx)
    exact wpAny_pure ⟨.bl false, H, I, rfl, q⟩
  | byt i => exact absurd rfl (n2 i)
  | flt i => exact absurd rfl (n3 i)
  | ty i => exact absurd rfl (n1 i)
  | ref p =>
    cases (show v = Value.ref p from rx)
    exact wpAny_pure ⟨.bl false, H, I, rfl, q⟩
theorem c_isB {x : PyData} {b : Bool} : Cmp c .Is (.val x) (dB b) (isBool b x) S := ⟨_, fun _ _ => op_isB, fun Γ A σ H Q v w R p q k => by
  refine ⟨b, bl_of q, ?_, ?_, ?_, ?_⟩
  all_goals cases (show Rep A.no H v x from p) <;> first | exact k | (intro n z; cases z)⟩
theorem inV_ints (i : Int) : ∀ ns : List Int, inV (V.int i) (ns.map V.int) = decide (i ∈ ns)
  | [] => by simp [inV]
  | n :: ns => by
    have ih := inV_ints i ns
    unfold inV at ih ⊢
    rw [List.map_cons, List.any_cons, ih]
    show ((n == i) || decide (i ∈ ns)) = decide (i ∈ n :: ns)
    rw [Bool.eq_iff_iff]
    simp only [Bool.or_eq_true, beq_iff_eq, decide_eq_true_eq, List.mem_cons]
    exact or_congr_left eq_comm
theorem flat_ints (ns : List Int) : (ns.map V.int).all flatV = true := by
  rw [List.all_eq_true]
  intro z hz
  obtain ⟨n, _, rfl⟩ := List.mem_map.mp hz
  rfl
/-- in a lot of numbers -/
theorem c_inI {i : Int} {ns : List Int} : Cmp c .In (dI i) (dT (ns.map PyData.int)) (decide (i ∈ ns)) S := ⟨rIn c.W.K false, fun X ok => by rw [← ok.K]; exact op_in_seq, fun Γ A σ H Q v w R x y k => by
  obtain ⟨p, vs, rfl, e, r, _⟩ := tup_of y
  rw [int_of x]
  have ev := RepL.ints r
  subst ev
  refine ⟨p, _, rfl, .inr (SqT.of e), rfl, flat_ints ns, ?_⟩
  rw [if_neg Bool.false_ne_true, inV_ints]
  exact k⟩
theorem c_notInI {i : Int} {ns : List Int} : Cmp c .NotIn (dI i) (dT (ns.map PyData.int)) (!decide (i ∈ ns)) S := ⟨rIn c.W.K true, fun X ok => by rw [← ok.K]; exact op_notIn_seq, fun Γ A σ H Q v w R x y k => by
  obtain ⟨p, vs, rfl, e, r, _⟩ := tup_of y
  rw [int_of x]
  have ev := RepL.ints r
  subst ev
  refine ⟨p, _, rfl, .inr (SqT.of e), rfl, flat_ints ns, ?_⟩
  rw [if_pos rfl, inV_ints]
  exact k⟩

/-! ### tests, and, or, not, if -/
theorem t_val {k : Bool} (h : DE c e Γ S (dB k) S1) (he : ∀ (env : Env) (whole : Sem Value), isTrue e env whole = (do let v ← whole; standAt e.pos; holding [v] (truthy v)) := by intro _ _; rfl) : DT c e Γ S k S1 := fun X ok =>
  PT_imp (pt_val (h X ok) (he X.env)) fun σ H Q ⟨A, R, q⟩ => ⟨A, R, fun A1 v H1 t1 R1 x1 => ⟨k, bl_of x1, q A1 H1 t1 R1⟩⟩
theorem t_not {k : Bool} (h : DT c a Γ S k S1) : DT c (.UnaryOp .Not a pos) Γ S (!k) S1 := fun X ok =>
  PT_imp (pt_not (h X ok)) fun σ H Q ⟨A, R, q⟩ => ⟨A, R, fun A1 H1 t1 R1 => q A1 H1 t1 R1⟩
theorem e_not {k : Bool} (h : DE c a Γ S (dB k) S1) : DE c (.UnaryOp .Not a pos) Γ S (dB (!k)) S1 := fun X ok =>
  PE_imp (pe_not (h X ok)) fun σ H Q ⟨A, R, q⟩ => ⟨A, R, fun A1 v H1 t1 R1 x1 => ⟨k, bl_of x1, (q.tr t1).now R1 (Rep.bl _)⟩⟩
/-- tests joined: W for any whole -/
def DW (c : Kx) (x : Expr) (Γ : List EV) (S : List MO) (b : Bool) (S' : List MO) : Prop := ∀ X, c.Ok X → PW X x (tDT Γ S b S')
theorem PW_imp {e : Expr} {t t' : TT} (h : PW X e t) (k : ∀ σ H Q, t' σ H Q → t σ H Q) : PW X e t' := ⟨fun wh pins s σ H Q I q => h.run wh pins s σ H Q I (k σ H Q q)⟩
theorem pw_no : PW X e (fun _ _ _ => False) := ⟨fun _ _ _ _ _ _ _ h => h.elim⟩
theorem w_and1 {k : Bool} (h : DT c a Γ S k S1) : DW c (.BoolOp .And [a] pos) Γ S k S1 := fun X ok => pw_and1 (h X ok)
theorem w_or1 {k : Bool} (h : DT c a Γ S k S1) : DW c (.BoolOp .Or [a] pos) Γ S k S1 := fun X ok => pw_or1 (h X ok)
theorem w_andF (h : DT c a Γ S false S1) : DW c (.BoolOp .And (a :: b :: es) pos) Γ S false S1 := fun X ok =>
  PW_imp (pw_and (h X ok) pw_no) fun σ H Q ⟨A, R, q⟩ => ⟨A, R, fun A1 H1 t1 R1 => by
    show if false = true then _ else _
    rw [if_neg Bool.false_ne_true]
    exact q A1 H1 t1 R1⟩
theorem w_andT {k : Bool} (h : DT c a Γ S true S1) (h2 : DW c (.BoolOp .And (b :: es) pos) Γ S1 k S2) : DW c (.BoolOp .And (a :: b :: es) pos) Γ S k S2 := fun X ok =>
  PW_imp (pw_and (h X ok) (h2 X ok)) fun σ H Q ⟨A, R, q⟩ => ⟨A, R, fun A1 H1 t1 R1 => by
    show if true = true then _ else _
    rw [if_pos rfl]
    exact ⟨A1, R1, fun A2 H2 t2 R2 => q A2 H2 (t1.trans t2) R2⟩⟩
theorem w_and {k k' : Bool} (h : DT c a Γ S k S) (h2 : k = true → DW c (.BoolOp .And (b :: es) pos) Γ S k' S) : DW c (.BoolOp .And (a :: b :: es) pos) Γ S (k && k') S := by
  cases k with
  | false => exact w_andF h
  | true => exact w_andT h (h2 rfl)
theorem w_orT (h : DT c a Γ S true S1) : DW c (.BoolOp .Or (a :: b :: es) pos) Γ S true S1 := fun X ok =>
  PW_imp (pw_or (h X ok) pw_no) fun σ H Q ⟨A, R, q⟩ => ⟨A, R, fun A1 H1 t1 R1 => by
    show if true = true then _ else _
    rw [if_pos rfl]
    exact q A1 H1 t1 R1⟩
theorem w_orF {k : Bool} (h : DT c a Γ S false S1) (h2 : DW c (.BoolOp .Or (b :: es) pos) Γ S1 k S2) : DW c (.BoolOp .Or (a :: b :: es) pos) Γ S k S2 := fun X ok =>
  PW_imp (pw_or (h X ok) (h2 X ok)) fun σ H Q ⟨A, R, q⟩ => ⟨A, R, fun A1 H1 t1 R1 => by
    show if false = true then _ else _
    rw [if_neg Bool.false_ne_true]
    exact ⟨A1, R1, fun A2 H2 t2 R2 => q A2 H2 (t1.trans t2) R2⟩⟩
theorem w_or {k k' : Bool} (h : DT c a Γ S k S) (h2 : k = false → DW c (.BoolOp .Or (b :: es) pos) Γ S k' S) : DW c (.BoolOp .Or (a :: b :: es) pos) Γ S (k || k') S := by
  cases k with
  | false => exact w_orF h (h2 rfl)
  | true => exact w_orT h
theorem t_w {k : Bool} (h : DW c e Γ S k S1) : DT c e Γ S k S1 := fun X ok => (h X ok).pt
/-- .. as values -/
theorem e_and1 {op : BoolOp} {k : EV} (h : DE c a Γ S k S1) : DE c (.BoolOp op [a] pos) Γ S k S1 := fun X ok => pe_one (h X ok)
theorem e_andF (h : DE c a Γ S (dB false) S1) : DE c (.BoolOp .And (a :: b :: es) pos) Γ S (dB false) S1 := fun X ok =>
  PE_imp (pe_and (h X ok) pe_no) fun σ H Q ⟨A, R, q⟩ => ⟨A, R, fun A1 v H1 t1 R1 x1 => ⟨false, bl_of x1, by
    rw [if_neg Bool.false_ne_true]
    exact (q.tr t1).now R1 (Rep.bl _)⟩⟩
theorem e_andT {z : EV} (h : DE c a Γ S (dB true) S1) (h2 : DE c (.BoolOp .And (b :: es) pos) Γ S1 z S2) : DE c (.BoolOp .And (a :: b :: es) pos) Γ S z S2 := fun X ok =>
  PE_imp (pe_and (h X ok) (h2 X ok)) fun σ H Q ⟨A, R, q⟩ => ⟨A, R, fun A1 v H1 t1 R1 x1 => ⟨true, bl_of x1, by
    rw [if_pos rfl]
    exact ⟨A1, R1, q.tr t1⟩⟩⟩
theorem e_and {k k' : Bool} (h : DE c a Γ S (dB k) S) (h2 : k = true → DE c (.BoolOp .And (b :: es) pos) Γ S (dB k') S) : DE c (.BoolOp .And (a :: b :: es) pos) Γ S (dB (k && k')) S := by
  cases k with
  | false => exact e_andF h
  | true => exact e_andT h (h2 rfl)
theorem e_orT (h : DE c a Γ S (dB true) S1) : DE c (.BoolOp .Or (a :: b :: es) pos) Γ S (dB true) S1 := fun X ok =>
  PE_imp (pe_or (h X ok) pe_no) fun σ H Q ⟨A, R, q⟩ => ⟨A, R, fun A1 v H1 t1 R1 x1 => ⟨true, bl_of x1, by
    rw [if_pos rfl]
    exact (q.tr t1).now R1 (Rep.bl _)⟩⟩
theorem e_orF {z : EV} (h : DE c a Γ S (dB false) S1) (h2 : DE c (.BoolOp .Or (b :: es) pos) Γ S1 z S2) : DE c (.BoolOp .Or (a :: b :: es) pos) Γ S z S2 := fun X ok =>
  PE_imp (pe_or (h X ok) (h2 X ok)) fun σ H Q ⟨A, R, q⟩ => ⟨A, R, fun A1 v H1 t1 R1 x1 => ⟨false, bl_of x1, by
    rw [if_neg Bool.false_ne_true]
    exact ⟨A1, R1, q.tr t1⟩⟩⟩
theorem e_or {k k' : Bool} (h : DE c a Γ S (dB k) S) (h2 : k = false → DE c (.BoolOp .Or (b :: es) pos) Γ S (dB k') S) : DE c (.BoolOp .Or (a :: b :: es) pos) Γ S (dB (k || k')) S := by
  cases k with
  | false => exact e_orF h (h2 rfl)
  | true => exact e_orT h
theorem e_ifT {z : EV} (ht : DT c d Γ S true S1) (h : DE c a Γ S1 z S2) : DE c (.IfExp d a b pos) Γ S z S2 := fun X ok =>
  PE_imp (pe_ifExp (ht X ok) (h X ok) pe_no) fun σ H Q ⟨A, R, q⟩ => ⟨A, R, fun A1 H1 t1 R1 => by
    show if true = true then _ else _
    rw [if_pos rfl]
    exact ⟨A1, R1, q.tr t1⟩⟩
theorem e_ifF {z : EV} (ht : DT c d Γ S false S1) (h : DE c b Γ S1 z S2) : DE c (.IfExp d a b pos) Γ S z S2 := fun X ok =>
  PE_imp (pe_ifExp (ht X ok) pe_no (h X ok)) fun σ H Q ⟨A, R, q⟩ => ⟨A, R, fun A1 H1 t1 R1 => by
    show if false = true then _ else _
    rw [if_neg Bool.false_ne_true]
    exact ⟨A1, R1, q.tr t1⟩⟩
theorem e_if {k : Bool} {z : EV} (ht : DT c d Γ S k S1) (h1 : k = true → DE c a Γ S1 z S2) (h2 : k = false → DE c b Γ S1 z S2) : DE c (.IfExp d a b pos) Γ S z S2 := by
  cases k with
  | true => exact e_ifT ht (h1 rfl)
  | false => exact e_ifF ht (h2 rfl)

/-! ### arguments, displays -/
theorem a_nil : DA c [] Γ S [] S := fun X ok => PA_imp pa_nil fun σ H Q ⟨A, R, k⟩ => k A [] H Tr.refl R trivial
theorem a_cons {x : EV} {xs : List EV} (h : DE c e Γ S x S1) (h2 : DA c es Γ S1 xs S2) (hs : ∀ env : Env, starEach (e :: es) env = (false, eval e env) :: starEach es env := by intro _; rfl) : DA c (e :: es) Γ S (x :: xs) S2 := fun X ok =>
  PA_imp (pa_cons (h X ok) (h2 X ok) (hs X.env)) fun σ H Q ⟨A, R, k⟩ => ⟨A, R, fun A1 v H1 t1 R1 x1 => ⟨A1, R1, fun A2 vs H2 t2 R2 x2 => k A2 (v :: vs) H2 (t1.trans t2) R2 ⟨t2.vrep x1, x2⟩⟩⟩
theorem k_nil : DK c [] Γ S [] S := fun X ok => PK_imp pk_nil fun σ H Q ⟨A, R, k⟩ => k A [] H Tr.refl R trivial
theorem k_cons {nm : Option Str} {kpos : Pos} {kws : List Keyword} {x : EV} {xs : List EV} (h : DE c e Γ S x S1) (h2 : DK c kws Γ S1 xs S2) : DK c (⟨nm, e, kpos⟩ :: kws) Γ S (x :: xs) S2 := fun X ok =>
  PK_imp (pk_cons (h X ok) (h2 X ok)) fun σ H Q ⟨A, R, k⟩ => ⟨A, R, fun A1 v H1 t1 R1 x1 => ⟨A1, R1, fun A2 vs H2 t2 R2 x2 => k A2 (v :: vs) H2 (t1.trans t2) R2 ⟨t2.vrep x1, x2⟩⟩⟩
theorem small_line {n : Nat} (h : n ≤ 16777216) : n ≤ sizeLine := by
  rw [sizeLine_eq]
  exact h
theorem e_tup {ds : List PyData} {k : Nat} (h : DA c es Γ S (ds.map EV.val) S1) (hl : ds.length ≤ 16777216 := by first | exact Nat.le_of_ble_eq_true rfl | omega) : DE c (.Tuple es k pos) Γ S (dT ds) S1 := fun X ok =>
  PE_imp (pe_tup (h X ok)) fun σ H Q ⟨A, R, k⟩ => ⟨A, R, fun A1 vs H1 t1 R1 x1 => ⟨by rw [x1.vals.len]; exact small_line hl, fun p hp => (k.tr t1).new R1 hp (VRep.tup R1 hp x1.vals)⟩⟩
theorem e_lst {ds : List PyData} (h : DA c es Γ S (ds.map EV.val) S1) (hl : ds.length ≤ 16777216 := by first | exact Nat.le_of_ble_eq_true rfl | omega) : DE c (.List es pos) Γ S (dL ds) S1 := fun X ok =>
  PE_imp (pe_lst (h X ok)) fun σ H Q ⟨A, R, k⟩ => ⟨A, R, fun A1 vs H1 t1 R1 x1 => ⟨by rw [x1.vals.len]; exact small_line hl, fun p hp => (k.tr t1).new R1 hp (VRep.lst R1 hp x1.vals)⟩⟩
/-- a list of one's own -/
theorem e_lsto {xs : List EV} (h : DA c es Γ S xs S1) (hl : xs.length ≤ 16777216 := by first | exact Nat.le_of_ble_eq_true rfl | omega) : DE c (.List es pos) Γ S (.own S1.length) (S1 ++ [.lst xs]) := fun X ok =>
  PE_imp (pe_lst (h X ok)) fun σ H Q ⟨A, R, k⟩ => ⟨A, R, fun A1 vs H1 t1 R1 x1 => ⟨by rw [← x1.len]; exact small_line hl, fun p hp => by
    have t0 : Tr A1 ⟨A1.av, A1.ad ++ [p], A1.dd⟩ H1 (upd H1 p (.lst vs)) :=
      ⟨rfl, ⟨[p], rfl, fun a ha => by simp at ha; rw [ha]; exact hp⟩, fun _ h => h, fun a o e _ => same_upd hp a o e, fun a o e => ⟨o, same_upd hp a o e⟩⟩
    obtain ⟨t2, R2⟩ := R1.add (mo := .lst xs) hp ⟨vs, upd_same, t0.vreps x1⟩
    exact (k.tr t1) _ _ _ t2 R2 ⟨p, by rw [← R1.len]; simp, rfl⟩⟩⟩
end
end DL
end
section
set_option Elab.async false
set_option linter.all false
set_option maxRecDepth 100000
set_option autoImplicit false
/-! Data layer, part 4: subscripts, slices, calls of built-ins, of defs. -/
namespace DL
open L2 PySem PySem.Spec PyProof.Rows
section
variable {X : Cx} {c : Kx} {Γ : List EV} {S S1 S2 S3 : List MO} {a b d e : Expr} {es : List Expr} {pos : Pos}

/-! ### subscripts -/
theorem at_rep {av : Av} {H : Hp} {vs : List V} {ds : List PyData} {i : Int} {d : PyData} (r : RepL av H vs ds) (h : atI ds i = some d) : ∃ v, atI vs i = some v ∧ Rep av H v d := by
  unfold atI at h ⊢
  rw [r.len]
  cases e : ixN ds.length i with
  | none =>
    rw [e] at h
    cases h
  | some j =>
    rw [e] at h
    exact r.get h
theorem at_vrep {A : A0} {H : Hp} {vs : List V} {xs : List EV} {i : Int} {x : EV} (r : VReps A H xs vs) (h : atI xs i = some x) : ∃ v, atI vs i = some v ∧ VRep A H x v := by
  unfold atI at h ⊢
  rw [← r.len]
  cases e : ixN xs.length i with
  | none =>
    rw [e] at h
    cases h
  | some j =>
    rw [e] at h
    exact r.get h
theorem e_ixt {ds : List PyData} {i : Int} {x : PyData} (ha : DE c a Γ S (dT ds) S1) (hb : DE c b Γ S1 (dI i) S2) (h : atI ds i = some x) (hs : PlainIx b := by exact fun _ _ => rfl) : DE c (.Subscript a b pos) Γ S (.val x) S2 := fun X ok =>
  PE_imp (pe_ix ix_tup (ha X ok) (hb X ok) hs) fun σ H Q ⟨A, R, k⟩ => ⟨A, R, fun A1 v H1 t1 R1 x1 => ⟨A1, R1, fun A2 w H2 t2 R2 x2 => by
    obtain ⟨p, vs, rfl, e1, r1, n1⟩ := tup_of (t2.vrep x1)
    obtain ⟨u, h1, h2⟩ := at_rep r1 h
    exact ⟨p, vs, i, u, rfl, int_of x2, SqT.of e1, h1, ((k.tr t1).tr t2).now R2 h2⟩⟩⟩
theorem e_ixl {ds : List PyData} {i : Int} {x : PyData} (ha : DE c a Γ S (dL ds) S1) (hb : DE c b Γ S1 (dI i) S2) (h : atI ds i = some x) (hs : PlainIx b := by exact fun _ _ => rfl) : DE c (.Subscript a b pos) Γ S (.val x) S2 := fun X ok =>
  PE_imp (pe_ix ix_list (ha X ok) (hb X ok) hs) fun σ H Q ⟨A, R, k⟩ => ⟨A, R, fun A1 v H1 t1 R1 x1 => ⟨A1, R1, fun A2 w H2 t2 R2 x2 => by
    obtain ⟨p, vs, rfl, e1, r1, n1⟩ := lst_of (t2.vrep x1)
    obtain ⟨u, h1, h2⟩ := at_rep r1 h
    exact ⟨p, vs, i, u, rfl, int_of x2, SqL.of e1, h1, ((k.tr t1).tr t2).now R2 h2⟩⟩⟩
/-- of a list of one's own -/
theorem e_ixo {k : Nat} {xs : List EV} {i : Int} {x : EV} (ha : DE c a Γ S (.own k) S1) (hb : DE c b Γ S1 (dI i) S2) (hk : S2[k]? = some (.lst xs)) (h : atI xs i = some x) (hs : PlainIx b := by exact fun _ _ => rfl) : DE c (.Subscript a b pos) Γ S x S2 := fun X ok =>
  PE_imp (pe_ix ix_list (ha X ok) (hb X ok) hs) fun σ H Q ⟨A, R, q⟩ => ⟨A, R, fun A1 v H1 t1 R1 x1 => ⟨A1, R1, fun A2 w H2 t2 R2 x2 => by
    obtain ⟨p, h1, rfl⟩ := t2.vrep x1
    obtain ⟨vs, e1, r1⟩ := R2.sto k _ p hk h1
    obtain ⟨u, h2, h3⟩ := at_vrep r1 h
    exact ⟨p, vs, i, u, rfl, int_of x2, SqL.of e1, h2, ((q.tr t1).tr t2).now R2 h3⟩⟩⟩

/-! ### slices -/
def tDO (Γ : List EV) (S : List MO) (o : Option Int) (S' : List MO) : TO := fun σ H Q => ∃ A, RS A Γ S σ H ∧ ∀ A' H', Tr A A' H H' → RS A' Γ S' σ H' → Q o H'
def DO (c : Kx) (x : Option Expr) (Γ : List EV) (S : List MO) (o : Option Int) (S' : List MO) : Prop := ∀ X, c.Ok X → PO X x (tDO Γ S o S')
theorem PO_imp {e : Option Expr} {t t' : TO} (h : PO X e t) (k : ∀ σ H Q, t' σ H Q → t σ H Q) : PO X e t' := ⟨fun pins s σ H Q I q => h.run pins s σ H Q I (k σ H Q q)⟩
theorem o_non : DO c none Γ S none S := fun X ok => PO_imp po_none fun σ H Q ⟨A, R, k⟩ => k A H Tr.refl R
theorem o_som {i : Int} (h : DE c e Γ S (dI i) S1) : DO c (some e) Γ S (some i) S1 := fun X ok =>
  PO_imp (po_some (h X ok)) fun σ H Q ⟨A, R, k⟩ => ⟨A, R, fun A1 v H1 t1 R1 x1 => ⟨i, int_of x1, k A1 H1 t1 R1⟩⟩
def cutD {α : Type} (ds : List α) (lo hi : Option Int) : List α := (ds.drop (HT.sIx ds.length 0 lo)).take (HT.sIx ds.length ds.length hi - HT.sIx ds.length 0 lo)
theorem cut_rep {av : Av} {H : Hp} {vs : List V} {ds : List PyData} (r : RepL av H vs ds) (lo hi : Option Int) : RepL av H (cutV vs lo hi) (cutD ds lo hi) := by
  unfold cutV cutD
  rw [r.len]
  exact (r.drop _).take _
theorem cutD_all {α : Type} {ds : List α} {lo hi : Option Int} (h : HT.sIx ds.length 0 lo = 0 ∧ HT.sIx ds.length ds.length hi = ds.length) : cutD ds lo hi = ds := by
  unfold cutD
  rw [h.1, h.2]
  simp
theorem e_slt {lo hi : Option Expr} {ol oh : Option Int} {p2 : Pos} {ds : List PyData} (ha : DE c a Γ S (dT ds) S1) (hl : DO c lo Γ S1 ol S2) (hh : DO c hi Γ S2 oh S3) : DE c (.Subscript a (.Slice lo hi none p2) pos) Γ S (dT (cutD ds ol oh)) S3 := fun X ok =>
  PE_imp (pe_slice sl_tupA (ha X ok) (hl X ok) (hh X ok)) fun σ H Q ⟨A, R, k⟩ => ⟨A, R, fun A1 v H1 t1 R1 x1 => ⟨A1, R1, fun A2 H2 t2 R2 => ⟨A2, R2, fun A3 H3 t3 R3 => by
    have y := t3.vrep (t2.vrep x1)
    obtain ⟨p, vs, rfl, e1, r1, n1⟩ := tup_of y
    have kk := ((k.tr t1).tr t2).tr t3
    refine ⟨p, vs, rfl, SqT.of e1, fun z => ?_, fun z q hq => ?_⟩
    · rw [cutD_all (by rw [← r1.len]; exact z)] at kk
      exact kk.now R3 y
    · exact kk.new R3 hq (VRep.tup R3 hq (cut_rep r1 ol oh))⟩⟩⟩
theorem e_sll {lo hi : Option Expr} {ol oh : Option Int} {p2 : Pos} {ds : List PyData} (ha : DE c a Γ S (dL ds) S1) (hl : DO c lo Γ S1 ol S2) (hh : DO c hi Γ S2 oh S3) : DE c (.Subscript a (.Slice lo hi none p2) pos) Γ S (dL (cutD ds ol oh)) S3 := fun X ok =>
  PE_imp (pe_slice sl_list (ha X ok) (hl X ok) (hh X ok)) fun σ H Q ⟨A, R, k⟩ => ⟨A, R, fun A1 v H1 t1 R1 x1 => ⟨A1, R1, fun A2 H2 t2 R2 => ⟨A2, R2, fun A3 H3 t3 R3 => by
    obtain ⟨p, vs, rfl, e1, r1, n1⟩ := lst_of (t3.vrep (t2.vrep x1))
    exact ⟨p, vs, rfl, SqL.of e1, fun q hq => (((k.tr t1).tr t2).tr t3).new R3 hq (VRep.lst R3 hq (cut_rep r1 ol oh))⟩⟩⟩⟩
/-- of a list of one's own: a new list, data -/
theorem e_slo {lo hi : Option Expr} {ol oh : Option Int} {p2 : Pos} {j : Nat} {ds : List PyData} (ha : DE c a Γ S (.own j) S1) (hl : DO c lo Γ S1 ol S2) (hh : DO c hi Γ S2 oh S3) (hj : S3[j]? = some (.lst (ds.map EV.val))) : DE c (.Subscript a (.Slice lo hi none p2) pos) Γ S (dL (cutD ds ol oh)) S3 := fun X ok =>
  PE_imp (pe_slice sl_list (ha X ok) (hl X ok) (hh X ok)) fun σ H Q ⟨A, R, k⟩ => ⟨A, R, fun A1 v H1 t1 R1 x1 => ⟨A1, R1, fun A2 H2 t2 R2 => ⟨A2, R2, fun A3 H3 t3 R3 => by
    obtain ⟨p, h1, rfl⟩ := t3.vrep (t2.vrep x1)
    obtain ⟨vs, e1, r1⟩ := R3.sto j _ p hj h1
    exact ⟨p, vs, rfl, SqL.of e1, fun q hq => (((k.tr t1).tr t2).tr t3).new R3 hq (VRep.lst R3 hq (cut_rep r1.vals ol oh))⟩⟩⟩⟩

/-! ### calls of built-ins -/
theorem e_cb {x id : String} {xs : Str} {r : List V → Hp → VK → Prop} {vs : List EV} {z : EV} {p : Pos} (hc : ∀ X, c.Ok X → CallR X (.builtin id) r)
    (h : ∀ A σ H Q ws, RS A Γ S1 σ H → VReps A H vs ws → Post A Γ S2 z σ H Q → r ws H Q) (hm : c.W.mg xs = none) (hv : bootBuiltins xs = some (.builtin id)) (ha : DA c (e :: es) Γ S vs S1)
    (hg : c.sc.names.lookup xs = some .globalImplicit := by rfl) (hn : xs ≠ "__name__" := by decide) (hdb : (xs == ("__debug__" : Str)) = false := by decide)
    (he : ∀ env : Env, starEach (e :: es) env = (false, eval e env) :: starEach es env := by intro _; rfl) (hpl : ∀ env : Env, (backTo pos (starEach es env)).any (·.1) = false := by intro _; rfl) :
    DE c (.Call (.Name xs p) (e :: es) [] pos) Γ S z S2 := fun X ok =>
  PE_imp (pe_callB (hc X ok) (gl_of ok hg) (by rw [ok.mg]; exact hm) hv (ha X ok) hn hdb (he X.env) (hpl X.env)) fun σ H Q ⟨A, R, k⟩ => ⟨A, R, fun A1 ws H1 t1 R1 x1 => h A1 σ H1 Q ws R1 x1 (k.tr t1)⟩
theorem e_cty {T : String} {xs : Str} {r : List V → Hp → VK → Prop} {vs : List EV} {z : EV} {p : Pos} (hc : ∀ X, c.Ok X → CallR X (.type T) r)
    (h : ∀ A σ H Q ws, RS A Γ S1 σ H → VReps A H vs ws → Post A Γ S2 z σ H Q → r ws H Q) (hm : c.W.mg xs = none) (hv : bootBuiltins xs = some (.type T)) (ha : DA c (e :: es) Γ S vs S1)
    (hg : c.sc.names.lookup xs = some .globalImplicit := by rfl) (hn : xs ≠ "__name__" := by decide) (hdb : (xs == ("__debug__" : Str)) = false := by decide)
    (he : ∀ env : Env, starEach (e :: es) env = (false, eval e env) :: starEach es env := by intro _; rfl) (hpl : ∀ env : Env, (backTo pos (starEach es env)).any (·.1) = false := by intro _; rfl) :
    DE c (.Call (.Name xs p) (e :: es) [] pos) Γ S z S2 := fun X ok =>
  PE_imp (pe_callTy (hc X ok) (gl_of ok hg) (by rw [ok.mg]; exact hm) hv (ha X ok) hn hdb (he X.env) (hpl X.env)) fun σ H Q ⟨A, R, k⟩ => ⟨A, R, fun A1 ws H1 t1 R1 x1 => h A1 σ H1 Q ws R1 x1 (k.tr t1)⟩
theorem vreps1 {A : A0} {H : Hp} {x : EV} {ws : List V} (h : VReps A H [x] ws) : ∃ v, ws = [v] ∧ VRep A H x v := by
  match ws, h with
  | [v], h => exact ⟨v, rfl, h.1⟩
theorem a_one {x : EV} (h : DE c e Γ S x S1) (hs : ∀ env : Env, starEach [e] env = (false, eval e env) :: starEach [] env := by intro _; rfl) : DA c [e] Γ S [x] S1 := a_cons h a_nil hs
variable {p : Pos}
theorem e_lent {ds : List PyData} (hm : c.W.mg "len" = none) (h : DE c e Γ S (dT ds) S1) (hg : c.sc.names.lookup ("len" : Str) = some .globalImplicit := by rfl) (hs : ∀ env : Env, starEach [e] env = (false, eval e env) :: starEach [] env := by intro _; rfl) : DE c (.Call (.Name "len" p) [e] [] pos) Γ S (dI ds.length) S1 :=
  e_cb (x := "len") (r := fun xs H Q => ∃ p ys, xs = [.ref p] ∧ (SqL c.W.K H p ys ∨ SqT c.W.K H p ys) ∧ Q (.int ys.length) H) (fun X ok => by rw [← ok.K]; exact call_len_seq) (fun A σ H Q ws R x k => by
    obtain ⟨v, rfl, y⟩ := vreps1 x
    obtain ⟨q, vs, rfl, e1, r1, _⟩ := tup_of y
    exact ⟨q, vs, rfl, .inr (SqT.of e1), by rw [r1.len]; exact k.now R (Rep.int _)⟩) hm boot_len (a_one h hs) hg (he := hs)
theorem e_lenl {ds : List PyData} (hm : c.W.mg "len" = none) (h : DE c e Γ S (dL ds) S1) (hg : c.sc.names.lookup ("len" : Str) = some .globalImplicit := by rfl) (hs : ∀ env : Env, starEach [e] env = (false, eval e env) :: starEach [] env := by intro _; rfl) : DE c (.Call (.Name "len" p) [e] [] pos) Γ S (dI ds.length) S1 :=
  e_cb (x := "len") (r := fun xs H Q => ∃ p ys, xs = [.ref p] ∧ (SqL c.W.K H p ys ∨ SqT c.W.K H p ys) ∧ Q (.int ys.length) H) (fun X ok => by rw [← ok.K]; exact call_len_seq) (fun A σ H Q ws R x k => by
    obtain ⟨v, rfl, y⟩ := vreps1 x
    obtain ⟨q, vs, rfl, e1, r1, _⟩ := lst_of y
    exact ⟨q, vs, rfl, .inl (SqL.of e1), by rw [r1.len]; exact k.now R (Rep.int _)⟩) hm boot_len (a_one h hs) hg (he := hs)
theorem e_leno {j : Nat} {xs : List EV} (hm : c.W.mg "len" = none) (h : DE c e Γ S (.own j) S1) (hj : S1[j]? = some (.lst xs)) (hg : c.sc.names.lookup ("len" : Str) = some .globalImplicit := by rfl) (hs : ∀ env : Env, starEach [e] env = (false, eval e env) :: starEach [] env := by intro _; rfl) : DE c (.Call (.Name "len" p) [e] [] pos) Γ S (dI xs.length) S1 :=
  e_cb (x := "len") (r := fun xs H Q => ∃ p ys, xs = [.ref p] ∧ (SqL c.W.K H p ys ∨ SqT c.W.K H p ys) ∧ Q (.int ys.length) H) (fun X ok => by rw [← ok.K]; exact call_len_seq) (fun A σ H Q ws R x k => by
    obtain ⟨v, rfl, y⟩ := vreps1 x
    obtain ⟨q, h1, rfl⟩ := y
    obtain ⟨vs, e1, r1⟩ := R.sto j _ q hj h1
    exact ⟨q, vs, rfl, .inl (SqL.of e1), by rw [← r1.len]; exact k.now R (Rep.int _)⟩) hm boot_len (a_one h hs) hg (he := hs)
theorem e_sum {ns : List Int} (hm : c.W.mg "sum" = none) (hc : c.calm = true) (h : DE c e Γ S (dL (ns.map PyData.int)) S1) (hg : c.sc.names.lookup ("sum" : Str) = some .globalImplicit := by rfl) (hs : ∀ env : Env, starEach [e] env = (false, eval e env) :: starEach [] env := by intro _; rfl) : DE c (.Call (.Name "sum" p) [e] [] pos) Γ S (dI ns.sum) S1 :=
  e_cb (x := "sum") (r := rSum c.W.K) (fun X ok => by rw [← ok.K]; exact cr_sum (ok.calm hc)) (fun A σ H Q ws R x k => by
    obtain ⟨v, rfl, y⟩ := vreps1 x
    obtain ⟨q, vs, rfl, e1, r1, _⟩ := lst_of y
    have ev := RepL.ints r1
    subst ev
    exact ⟨q, ns, rfl, SqL.of e1, k.now R (Rep.int _)⟩) hm (by decide +kernel) (a_one h hs) hg (he := hs)
theorem e_abs {i : Int} (hm : c.W.mg "abs" = none) (h : DE c e Γ S (dI i) S1) (hg : c.sc.names.lookup ("abs" : Str) = some .globalImplicit := by rfl) (hs : ∀ env : Env, starEach [e] env = (false, eval e env) :: starEach [] env := by intro _; rfl) : DE c (.Call (.Name "abs" p) [e] [] pos) Γ S (dI (i.natAbs : Int)) S1 :=
  e_cb (x := "abs") (fun X ok => call_abs) (fun A σ H Q ws R x k => by
    obtain ⟨v, rfl, y⟩ := vreps1 x
    refine ⟨i, by rw [int_of y], ?_⟩
    have e1 : (if i < 0 then -i else i) = (i.natAbs : Int) := by split <;> omega
    rw [e1]
    exact k.now R (Rep.int _)) hm (by decide +kernel) (a_one h hs) hg (he := hs)
theorem e_toint {i : Int} (hm : c.W.mg "int" = none) (h : DE c e Γ S (dI i) S1) (hg : c.sc.names.lookup ("int" : Str) = some .globalImplicit := by rfl) (hs : ∀ env : Env, starEach [e] env = (false, eval e env) :: starEach [] env := by intro _; rfl) : DE c (.Call (.Name "int" p) [e] [] pos) Γ S (dI i) S1 :=
  e_cty (T := "int") (fun X ok => call_int1) (fun A σ H Q ws R x k => by
    obtain ⟨v, rfl, y⟩ := vreps1 x
    exact .inl ⟨i, by rw [int_of y], k.now R (Rep.int _)⟩) hm (by decide +kernel) (a_one h hs) hg (he := hs)
/-- tuple(a list) -/
theorem e_tupl {ds : List PyData} (hm : c.W.mg "tuple" = none) (h : DE c e Γ S (dL ds) S1) (hg : c.sc.names.lookup ("tuple" : Str) = some .globalImplicit := by rfl) (hs : ∀ env : Env, starEach [e] env = (false, eval e env) :: starEach [] env := by intro _; rfl) : DE c (.Call (.Name "tuple" p) [e] [] pos) Γ S (dT ds) S1 :=
  e_cty (T := "tuple") (r := fun xs H Q => ∃ p ys, xs = [.ref p] ∧ ((SqL c.W.K H p ys ∧ ∀ l, H l = none → Q (.ref l) (upd H l (.tup ys))) ∨ (SqT c.W.K H p ys ∧ Q (.ref p) H))) (fun X ok => by rw [← ok.K]; exact call_tuple_of) (fun A σ H Q ws R x k => by
    obtain ⟨v, rfl, y⟩ := vreps1 x
    obtain ⟨q, vs, rfl, e1, r1, _⟩ := lst_of y
    exact ⟨q, vs, rfl, .inl ⟨SqL.of e1, fun l hl => k.new R hl (VRep.tup R hl r1)⟩⟩) hm (by decide +kernel) (a_one h hs) hg (he := hs)
theorem e_tupo {j : Nat} {ds : List PyData} (hm : c.W.mg "tuple" = none) (h : DE c e Γ S (.own j) S1) (hj : S1[j]? = some (.lst (ds.map EV.val))) (hg : c.sc.names.lookup ("tuple" : Str) = some .globalImplicit := by rfl) (hs : ∀ env : Env, starEach [e] env = (false, eval e env) :: starEach [] env := by intro _; rfl) : DE c (.Call (.Name "tuple" p) [e] [] pos) Γ S (dT ds) S1 :=
  e_cty (T := "tuple") (r := fun xs H Q => ∃ p ys, xs = [.ref p] ∧ ((SqL c.W.K H p ys ∧ ∀ l, H l = none → Q (.ref l) (upd H l (.tup ys))) ∨ (SqT c.W.K H p ys ∧ Q (.ref p) H))) (fun X ok => by rw [← ok.K]; exact call_tuple_of) (fun A σ H Q ws R x k => by
    obtain ⟨v, rfl, y⟩ := vreps1 x
    obtain ⟨q, h1, rfl⟩ := y
    obtain ⟨vs, e1, r1⟩ := R.sto j _ q hj h1
    exact ⟨q, vs, rfl, .inl ⟨SqL.of e1, fun l hl => k.new R hl (VRep.tup R hl r1.vals)⟩⟩) hm (by decide +kernel) (a_one h hs) hg (he := hs)
/-- list(..): data -/
theorem e_lstt {ds : List PyData} (hm : c.W.mg "list" = none) (h : DE c e Γ S (dT ds) S1) (hg : c.sc.names.lookup ("list" : Str) = some .globalImplicit := by rfl) (hs : ∀ env : Env, starEach [e] env = (false, eval e env) :: starEach [] env := by intro _; rfl) : DE c (.Call (.Name "list" p) [e] [] pos) Γ S (dL ds) S1 :=
  e_cty (T := "list") (r := fun xs H Q => ∃ p ys, xs = [.ref p] ∧ (SqL c.W.K H p ys ∨ SqT c.W.K H p ys) ∧ ∀ l, H l = none → Q (.ref l) (upd H l (.lst ys))) (fun X ok => by rw [← ok.K]; exact call_list_of) (fun A σ H Q ws R x k => by
    obtain ⟨v, rfl, y⟩ := vreps1 x
    obtain ⟨q, vs, rfl, e1, r1, _⟩ := tup_of y
    exact ⟨q, vs, rfl, .inr (SqT.of e1), fun l hl => k.new R hl (VRep.lst R hl r1)⟩) hm (by decide +kernel) (a_one h hs) hg (he := hs)
theorem e_lstl {ds : List PyData} (hm : c.W.mg "list" = none) (h : DE c e Γ S (dL ds) S1) (hg : c.sc.names.lookup ("list" : Str) = some .globalImplicit := by rfl) (hs : ∀ env : Env, starEach [e] env = (false, eval e env) :: starEach [] env := by intro _; rfl) : DE c (.Call (.Name "list" p) [e] [] pos) Γ S (dL ds) S1 :=
  e_cty (T := "list") (r := fun xs H Q => ∃ p ys, xs = [.ref p] ∧ (SqL c.W.K H p ys ∨ SqT c.W.K H p ys) ∧ ∀ l, H l = none → Q (.ref l) (upd H l (.lst ys))) (fun X ok => by rw [← ok.K]; exact call_list_of) (fun A σ H Q ws R x k => by
    obtain ⟨v, rfl, y⟩ := vreps1 x
    obtain ⟨q, vs, rfl, e1, r1, _⟩ := lst_of y
    exact ⟨q, vs, rfl, .inl (SqL.of e1), fun l hl => k.new R hl (VRep.lst R hl r1)⟩) hm (by decide +kernel) (a_one h hs) hg (he := hs)
/-- list(..): one's own -/
theorem own_new {A : A0} {σ : SL} {H : Hp} {Q : VK} {vs : List V} {xs : List EV} {l : Addr} (R : RS A Γ S σ H) (k : Post A Γ (S ++ [.lst xs]) (.own S.length) σ H Q) (hl : H l = none) (r : VReps A H xs vs) : Q (.ref l) (upd H l (.lst vs)) := by
  have t0 : Tr A ⟨A.av, A.ad ++ [l], A.dd⟩ H (upd H l (.lst vs)) :=
    ⟨rfl, ⟨[l], rfl, fun a ha => by simp at ha; rw [ha]; exact hl⟩, fun _ h => h, fun a o e _ => same_upd hl a o e, fun a o e => ⟨o, same_upd hl a o e⟩⟩
  obtain ⟨t2, R2⟩ := R.add (mo := .lst xs) hl ⟨vs, upd_same, t0.vreps r⟩
  exact k _ _ _ t2 R2 ⟨l, by rw [← R.len]; simp, rfl⟩
theorem e_lstto {ds : List PyData} (hm : c.W.mg "list" = none) (h : DE c e Γ S (dT ds) S1) (hg : c.sc.names.lookup ("list" : Str) = some .globalImplicit := by rfl) (hs : ∀ env : Env, starEach [e] env = (false, eval e env) :: starEach [] env := by intro _; rfl) : DE c (.Call (.Name "list" p) [e] [] pos) Γ S (.own S1.length) (S1 ++ [.lst (ds.map EV.val)]) :=
  e_cty (T := "list") (r := fun xs H Q => ∃ p ys, xs = [.ref p] ∧ (SqL c.W.K H p ys ∨ SqT c.W.K H p ys) ∧ ∀ l, H l = none → Q (.ref l) (upd H l (.lst ys))) (fun X ok => by rw [← ok.K]; exact call_list_of) (fun A σ H Q ws R x k => by
    obtain ⟨v, rfl, y⟩ := vreps1 x
    obtain ⟨q, vs, rfl, e1, r1, _⟩ := tup_of y
    exact ⟨q, vs, rfl, .inr (SqT.of e1), fun l hl => own_new R k hl (VReps.ofVals r1)⟩) hm (by decide +kernel) (a_one h hs) hg (he := hs)
theorem e_lstlo {ds : List PyData} (hm : c.W.mg "list" = none) (h : DE c e Γ S (dL ds) S1) (hg : c.sc.names.lookup ("list" : Str) = some .globalImplicit := by rfl) (hs : ∀ env : Env, starEach [e] env = (false, eval e env) :: starEach [] env := by intro _; rfl) : DE c (.Call (.Name "list" p) [e] [] pos) Γ S (.own S1.length) (S1 ++ [.lst (ds.map EV.val)]) :=
  e_cty (T := "list") (r := fun xs H Q => ∃ p ys, xs = [.ref p] ∧ (SqL c.W.K H p ys ∨ SqT c.W.K H p ys) ∧ ∀ l, H l = none → Q (.ref l) (upd H l (.lst ys))) (fun X ok => by rw [← ok.K]; exact call_list_of) (fun A σ H Q ws R x k => by
    obtain ⟨v, rfl, y⟩ := vreps1 x
    obtain ⟨q, vs, rfl, e1, r1, _⟩ := lst_of y
    exact ⟨q, vs, rfl, .inl (SqL.of e1), fun l hl => own_new R k hl (VReps.ofVals r1)⟩) hm (by decide +kernel) (a_one h hs) hg (he := hs)

/-! ### isinstance -/
def tyD : PyData → String
  | .none => "NoneType"
  | .bool _ => "bool"
  | .int _ => "int"
  | .str _ => "str"
  | .list _ => "list"
  | .tuple _ => "tuple"
  | .dict _ => "dict"
theorem ty_rep {av : Av} {H : Hp} {K : PySem.W.Frag} {v : V} {d : PyData} (r : Rep av H v d) : TyX K H v (.type (tyD d)) := by
  cases r with
  | non => exact .base .non
  | bl b => exact .base (.bl b)
  | int i => exact .base (.int i)
  | str x => exact .base (.str x)
  | tup n e r => exact .base (.tup e)
  | lst n e r => exact .base (.lst e)
  | dct n e r => exact .base (.dK e)
theorem e_isi {T : String} {Ts : Str} {k : Bool} {x : PyData} {q : Pos} (hm : c.W.mg "isinstance" = none) (hT : c.W.mg Ts = none) (hv : bootBuiltins Ts = some (.type T)) (h : DE c e Γ S (.val x) S1) (hk : kitB (tyD x) T = some k)
    (hg : c.sc.names.lookup ("isinstance" : Str) = some .globalImplicit := by rfl) (hgT : c.sc.names.lookup Ts = some .globalImplicit := by rfl) (hn : Ts ≠ "__name__" := by decide) (hdb : (Ts == ("__debug__" : Str)) = false := by decide)
    (hs : ∀ env : Env, starEach [e, .Name Ts q] env = (false, eval e env) :: starEach [.Name Ts q] env := by intro _; rfl) : DE c (.Call (.Name "isinstance" p) [e, .Name Ts q] [] pos) Γ S (dB k) S1 := fun X ok => by
  refine PE_imp (pe_callB (t := tCons (tD Γ S (.val x) S1) (tCons (tC (.ty T)) tNil)) (call_isi) (gl_of ok hg) (by rw [ok.mg]; exact hm) (by decide +kernel) (pa_cons (h X ok) (pa_cons (pe_bltn (v := .ty T) (gl_of ok hgT) (by rw [ok.mg]; exact hT) hv rfl hn hdb) pa_nil) (hs X.env)) (he := hs X.env)) fun σ H Q ⟨A, R, kk⟩ => ⟨A, R, fun A1 v H1 t1 R1 x1 => ?_⟩
  exact ⟨v, .ty T, _, _, k, rfl, .ty T, ty_rep x1, kit_ty hk, (kk.tr t1).now R1 (Rep.bl _)⟩

/-! ### repr of data -/
theorem cr_repr (hg : X.A.guards = some []) (hu : X.A.units + 200 < cLine) : CallR X (.builtin "repr") (fun xs H Q => ∃ (v : V) (d : PyData) (av : Av), xs = [v] ∧ Rep av H v d ∧ d.showable = true ∧ d.hasDict = false ∧ d.shown.length ≤ sizeLine ∧ d.depth ≤ 100 ∧ Q (.str d.shown) H) := by
  intro pins s σ H xs us Q I r h
  obtain ⟨v, d, av, rfl, hr, hs, hd, hz, hdp, q⟩ := h
  obtain ⟨u, rfl, ru⟩ := vals1 r
  obtain ⟨as, rd⟩ := Dp.reads I d v u (Rep.dp hd hr) ru
  have q' : ∀ y : Str, y = d.shown → Q (.str y) H := fun y e => by rw [e]; exact q
  cases hr with
  | non =>
    cases (show u = Value.none from ru)
    exact PySem.P.repr_of_none ⟨.str _, H, I.tok _, ⟨_, rfl⟩, q' _ PyData.shown_none.symm⟩
  | bl b =>
    cases (show u = Value.bool b from ru)
    refine PySem.P.repr_of_bool ⟨.str _, H, I.tok _, ⟨_, rfl⟩, q' _ ?_⟩
    rw [PyData.shown_bool]
  | int i =>
    obtain ⟨t, rfl⟩ := (show ∃ t, u = Value.int i t from ru)
    have hi : i.natAbs.log2 < 1920 := by simpa [PyData.showable] using hs
    exact PySem.P.repr_of_int hi ⟨.str _, H, I.tok _, ⟨_, rfl⟩, q' _ (PyData.shown_int i).symm⟩
  | str x =>
    obtain ⟨t, rfl⟩ := (show ∃ t, u = Value.str x t from ru)
    exact PySem.P.repr_of_str ⟨.str _, H, I.tok _, ⟨_, rfl⟩, q' _ (PyData.shown_str x).symm⟩ (by rw [PyData.shown_str] at hz; exact hz)
  | tup n e r =>
    cases (show u = Value.ref _ from ru)
    exact repr_of_reads' rd hs (by rw [hd]; intro z; cases z) hg (by omega) (fun _ _ e => e) (fun h' u tk hk => ⟨.str _, H, I.kept hk, ⟨_, rfl⟩, q⟩) hz
  | lst n e r =>
    cases (show u = Value.ref _ from ru)
    exact repr_of_reads' rd hs (by rw [hd]; intro z; cases z) hg (by omega) (fun _ _ e => e) (fun h' u tk hk => ⟨.str _, H, I.kept hk, ⟨_, rfl⟩, q⟩) hz
  | dct n e r => simp [PyData.hasDict] at hd
/-- what may be shown: no dict within, ints not too great, a text that has room -/
structure Shows (d : PyData) : Prop where
  sh : d.showable = true
  nd : d.hasDict = false
  sz : d.shown.length ≤ 16777216
  dp : d.depth ≤ 100
theorem e_repr {x : PyData} (hm : c.W.mg "repr" = none) (h : DE c e Γ S (.val x) S1) (hx : Shows x) (hg : c.sc.names.lookup ("repr" : Str) = some .globalImplicit := by rfl) (hs : ∀ env : Env, starEach [e] env = (false, eval e env) :: starEach [] env := by intro _; rfl) : DE c (.Call (.Name "repr" p) [e] [] pos) Γ S (dS x.shown) S1 :=
  e_cb (x := "repr") (fun X ok => cr_repr ok.gu ok.un) (fun A σ H Q ws R y k => by
    obtain ⟨v, rfl, z⟩ := vreps1 y
    exact ⟨v, x, A.no, rfl, z, hx.sh, hx.nd, small_line hx.sz, hx.dp, k.now R (Rep.str _)⟩) hm (by decide +kernel) (a_one h hs) hg (he := hs)
end
end DL
end
section
set_option Elab.async false
set_option linter.all false
set_option maxRecDepth 100000
set_option autoImplicit false
/-! Data layer, part 5: calls of defs. -/
namespace DL
open L2 PySem PySem.Spec PyProof.Rows
theorem Kx.Ok.W_eq {c : Kx} {X : Cx} (ok : c.Ok X) : c.W = ⟨X.prog, X.w, X.K, X.mg, X.base⟩ := by
  have h1 := ok.prog
  have h2 := ok.w
  have h3 := ok.K
  have h4 := ok.mg
  have h5 := ok.base
  rw [h1, h2, h3, h4, h5]
/-- what the callee sees of the caller's objects: the first n -/
def A0.first (A : A0) (n : Nat) : A0 := ⟨fun a => A.no a ∧ a ∉ A.ad.take n, A.ad.take n, []⟩
section
variable {A : A0} {Γ : List EV} {Sp Sr Sp' : List MO} {σ : SL} {H H' : Hp}
theorem first_lv (R : RS A Γ (Sp ++ Sr) σ H) (hg : ∀ k : Nat, Sp[k]? ≠ some MO.gone) {a : Addr} : (A.first Sp.length).lv a → A.lv a := by
  rintro ⟨k, h1, _⟩
  have h1 : (A.ad.take Sp.length)[k]? = some a := h1
  have hk : k < Sp.length := by
    have := (List.getElem?_eq_some_iff.mp h1).1
    rw [List.length_take] at this
    omega
  refine ⟨k, by rw [List.getElem?_take_of_lt hk] at h1; exact h1, fun z => ?_⟩
  have q := R.gn k z
  rw [List.getElem?_append_left hk] at q
  exact hg k q
theorem first_no (R : RS A Γ (Sp ++ Sr) σ H) (hg : ∀ k : Nat, Sp[k]? ≠ some MO.gone) (a : Addr) : (A.first Sp.length).no a ↔ A.no a := by
  constructor
  · rintro (⟨z, _⟩ | z)
    · exact z
    · exact .inr (first_lv R hg z)
  · intro z
    by_cases hm : a ∈ A.ad.take Sp.length
    · obtain ⟨k, hk⟩ := List.mem_iff_getElem?.mp hm
      exact .inr ⟨k, hk, fun z => by cases z⟩
    · exact .inl ⟨z, hm⟩
theorem first_rep (R : RS A Γ (Sp ++ Sr) σ H) (hg : ∀ k : Nat, Sp[k]? ≠ some MO.gone) {H1 : Hp} {v : V} {d : PyData} (r : Rep A.no H1 v d) : Rep (A.first Sp.length).no H1 v d :=
  r.move (fun _ _ e _ => e) fun a o _ h z => h ((first_no R hg a).mp z)
theorem rep_first (R : RS A Γ (Sp ++ Sr) σ H) (hg : ∀ k : Nat, Sp[k]? ≠ some MO.gone) {H1 : Hp} {v : V} {d : PyData} (r : Rep (A.first Sp.length).no H1 v d) : Rep A.no H1 v d :=
  r.move (fun _ _ e _ => e) fun a o _ h z => h ((first_no R hg a).mpr z)
theorem first_repL (R : RS A Γ (Sp ++ Sr) σ H) (hg : ∀ k : Nat, Sp[k]? ≠ some MO.gone) {H1 : Hp} {v : List V} {d : List PyData} (r : RepL A.no H1 v d) : RepL (A.first Sp.length).no H1 v d :=
  r.move (fun _ _ e _ => e) fun a o _ h z => h ((first_no R hg a).mp z)
theorem repL_first (R : RS A Γ (Sp ++ Sr) σ H) (hg : ∀ k : Nat, Sp[k]? ≠ some MO.gone) {H1 : Hp} {v : List V} {d : List PyData} (r : RepL (A.first Sp.length).no H1 v d) : RepL A.no H1 v d :=
  r.move (fun _ _ e _ => e) fun a o _ h z => h ((first_no R hg a).mpr z)
/-- only the first n own objects are spoken of -/
def ownE (n : Nat) : EV → Bool := closedE n
theorem first_v (R : RS A Γ (Sp ++ Sr) σ H) (hg : ∀ k : Nat, Sp[k]? ≠ some MO.gone) {H1 : Hp} {v : V} {e : EV} (he : closedE Sp.length e = true) (r : VRep A H1 e v) : VRep (A.first Sp.length) H1 e v := by
  cases e with
  | und => trivial
  | val d => exact first_rep R hg r
  | own k =>
    obtain ⟨a, h1, h2⟩ := r
    have hk : k < Sp.length := by simpa [closedE] using he
    exact ⟨a, by show (A.ad.take Sp.length)[k]? = _; rw [List.getElem?_take_of_lt hk]; exact h1, h2⟩
theorem v_first (R : RS A Γ (Sp ++ Sr) σ H) (hg : ∀ k : Nat, Sp[k]? ≠ some MO.gone) {H1 : Hp} {v : V} {e : EV} (r : VRep (A.first Sp.length) H1 e v) : VRep A H1 e v := by
  cases e with
  | und => trivial
  | val d => exact rep_first R hg r
  | own k =>
    obtain ⟨a, h1, h2⟩ := r
    have h1 : (A.ad.take Sp.length)[k]? = some a := h1
    have hk : k < Sp.length := by
      have := (List.getElem?_eq_some_iff.mp h1).1
      rw [List.length_take] at this
      omega
    rw [List.getElem?_take_of_lt hk] at h1
    exact ⟨a, h1, h2⟩
theorem first_vs (R : RS A Γ (Sp ++ Sr) σ H) (hg : ∀ k : Nat, Sp[k]? ≠ some MO.gone) {H1 : Hp} : ∀ {es : List EV} {vs : List V}, es.all (closedE Sp.length) = true → VReps A H1 es vs → VReps (A.first Sp.length) H1 es vs
  | [], [], _, _ => trivial
  | e :: es, v :: vs, ha, h => by
    simp only [List.all_cons, Bool.and_eq_true] at ha
    exact ⟨first_v R hg ha.1 h.1, first_vs R hg ha.2 h.2⟩
  | [], _ :: _, _, h => h.elim
  | _ :: _, [], _, h => h.elim
theorem vs_first (R : RS A Γ (Sp ++ Sr) σ H) (hg : ∀ k : Nat, Sp[k]? ≠ some MO.gone) {H1 : Hp} : ∀ {es : List EV} {vs : List V}, VReps (A.first Sp.length) H1 es vs → VReps A H1 es vs
  | [], [], _ => trivial
  | e :: es, v :: vs, h => ⟨v_first R hg h.1, vs_first R hg h.2⟩
  | [], _ :: _, h => h.elim
  | _ :: _, [], h => h.elim
theorem mem_first {a : Addr} {n : Nat} (h : a ∈ A.ad.take n) : a ∈ A.ad := List.mem_of_mem_take h
/-- the callee's state -/
theorem first_rs (R : RS A Γ (Sp ++ Sr) σ H) (hg : closedS Sp.length Sp = true) : RS (A.first Sp.length) [] Sp [] H := by
  have hgo := closedS_gone hg
  have hle : Sp.length ≤ A.ad.length := by
    rw [R.len, List.length_append]
    omega
  refine ⟨fun a ha => R.dom a ((first_no R hgo a).mp ha), R.nd.sublist (List.take_sublist _ _), fun a ha z => z.2 ha, ?_, fun k hk => (by cases hk), fun a ha => R.all a (mem_first ha), trivial, fun k o a h1 h2 => ?_⟩
  · show (A.ad.take Sp.length).length = Sp.length
    rw [List.length_take]
    omega
  · have h2 : (A.ad.take Sp.length)[k]? = some a := h2
    have hk : k < Sp.length := (List.getElem?_eq_some_iff.mp h1).1
    rw [List.getElem?_take_of_lt hk] at h2
    have q := R.sto k o a (by rw [List.getElem?_append_left hk]; exact h1) h2
    cases o with
    | lst xs =>
      obtain ⟨vs, e, r⟩ := q
      refine ⟨vs, e, first_vs R hgo (List.all_eq_true.mpr fun x hx => ?_) r⟩
      cases x with
      | und => rfl
      | val d => rfl
      | own j => simpa [closedE] using closedS_mem hg k xs h1 j hx
    | dK kvs => obtain ⟨vs, e, r⟩ := q; exact ⟨vs, e, first_repL R hgo r⟩
    | dT kvs => obtain ⟨vs, e, r⟩ := q; exact ⟨vs, e, first_repL R hgo r⟩
    | gone => trivial
/-- behind the call: the caller's state -/
theorem first_back (R : RS A Γ (Sp ++ Sr) σ H) (hg : closedS Sp.length Sp = true) (hl : Sp'.length = Sp.length) (ha : Aft (A.first Sp.length) Sp' H H') : Tr A A H H' ∧ RS A Γ (Sp' ++ Sr) σ H' := by
  have hgo := closedS_gone hg
  have t : Tr A A H H' := ⟨rfl, ⟨[], by simp, by simp⟩, fun _ h => h, fun a o e hn => ha.keep a o e fun z => hn (first_lv R hgo z), ha.dom⟩
  refine ⟨t, fun a hn => ?_, R.nd, R.sep, by rw [R.len, List.length_append, List.length_append, hl], fun k hk => ?_, fun a hm => ?_, t.ereps R.env, fun k o a h1 h2 => ?_⟩
  · obtain ⟨o, e⟩ := R.dom a hn
    exact ha.dom a o e
  · have q := R.gn k hk
    by_cases h : k < Sp.length
    · rw [List.getElem?_append_left h] at q
      exact absurd q (hgo k)
    · rw [List.getElem?_append_right (by omega)] at q ⊢
      rw [hl]
      exact q
  · obtain ⟨o, e⟩ := R.all a hm
    exact ha.dom a o e
  · by_cases h : k < Sp.length
    · rw [List.getElem?_append_left (by omega)] at h1
      have q := ha.rs.sto k o a h1 (by show (A.ad.take Sp.length)[k]? = _; rw [List.getElem?_take_of_lt h]; exact h2)
      cases o with
      | lst xs => obtain ⟨vs, e, r⟩ := q; exact ⟨vs, e, vs_first R hgo r⟩
      | dK kvs => obtain ⟨vs, e, r⟩ := q; exact ⟨vs, e, repL_first R hgo r⟩
      | dT kvs => obtain ⟨vs, e, r⟩ := q; exact ⟨vs, e, repL_first R hgo r⟩
      | gone => trivial
    · rw [List.getElem?_append_right (by omega), hl] at h1
      have h1' : (Sp ++ Sr)[k]? = some o := by
        rw [List.getElem?_append_right (by omega)]
        exact h1
      have q := R.sto k o a h1' h2
      have nl : ¬ (A.first Sp.length).lv a := by
        rintro ⟨j, h3, _⟩
        have h3 : (A.ad.take Sp.length)[j]? = some a := h3
        have hj : j < Sp.length := by
          have := (List.getElem?_eq_some_iff.mp h3).1
          rw [List.length_take] at this
          omega
        rw [List.getElem?_take_of_lt hj] at h3
        have := R.uniq h3 h2
        omega
      cases o with
      | lst xs => obtain ⟨vs, e, r⟩ := q; exact ⟨vs, ha.keep _ _ e nl, t.vreps r⟩
      | dK kvs => obtain ⟨vs, e, r⟩ := q; exact ⟨vs, ha.keep _ _ e nl, t.repL r⟩
      | dT kvs => obtain ⟨vs, e, r⟩ := q; exact ⟨vs, ha.keep _ _ e nl, t.repL r⟩
      | gone => trivial
end

/-! ### the call -/
section
variable {X : Cx} {k : Nat} {f : Addr} {fd : FuncData} {ps ks : List Str} {sp : Sp} {E : SL → XK} {x : Str} {p pos : Pos} {e : Expr} {es : List Expr} {kws : List Keyword} {t tk : TA}
theorem run_g {pins : List (Addr × Obj)} {σ : SL} {H : Hp} {s : Shared} {Q : VK} {us : List Value} {vs : List V} (F : FnG ⟨X.prog, X.w, X.K, X.mg, X.base⟩ k f fd ps sp) (hg : X.A.guards = some []) (hr : Room k X.A) (hb : Binds X.K fd ps []) (hx : PassesAt (L2.CX X.prog X.w) X σ (E σ))
    (I : Inv X pins σ H s) (r : Vals vs us) (h : sp vs H Q (E σ)) : wpAny (model X.prog X.w) X.A (call (.ref f) us) (EP X pins σ Q) X.xe s := by
  have hl : us.length = ps.length := by
    rw [← r.length]
    exact F.len _ _ _ _ h
  have b := hb s us I.kIn (by rw [List.append_nil]; exact hl)
  rw [List.append_nil] at b
  refine wpAny_call (codeAny_mono (F.run X.A X.stack s H ⟨us, []⟩ us vs Q (E σ) hg hr I.env0 b r h) fun res s' hq => ?_)
  match res, hq with
  | .error e, hq => exact hx pins H s e s' I hq
  | .ok (.ret u), hq => exact I.after hq
  | .ok .next, hq => exact False.elim hq
  | .ok .brk, hq => exact False.elim hq
  | .ok .cont, hq => exact False.elim hq
theorem pe_callG (F : FnG ⟨X.prog, X.w, X.K, X.mg, X.base⟩ k f fd ps sp) (hgu : X.A.guards = some []) (hr : Room k X.A) (hg : Gl X x) (hm : X.mg x = some (.ref f)) (hk : PySem.W.keepIn X.K (.ref f) = true) (hb : Binds X.K fd ps []) (hx : ∀ σ, PassesAt (L2.CX X.prog X.w) X σ (E σ))
    (ha : PA X (e :: es) t) (hdb : (x == ("__debug__" : Str)) = false := by decide) (he : starEach (e :: es) X.env = (false, eval e X.env) :: starEach es X.env := by rfl) (hpl : (backTo pos (starEach es X.env)).any (·.1) = false := by rfl) :
    PE X (.Call (.Name x p) (e :: es) [] pos) (tCallS sp E t) := by
  refine ⟨fun pins s σ H Q I h => ?_⟩
  refine wpAny_Call_Name_kw (ld_glob I hg hm ?_ hdb)
  refine PySem.W.callWith_K (h₀ := X.base) I.ok.mod.kin hk (thn (ha.run pos pins s σ H _ I h) fun us s1 hh => ?_) he hpl
  obtain ⟨vs, H1, I1, r, q⟩ := hh
  exact ⟨I1.kIn, run_g F hgu hr hb (hx σ) I1 r q⟩
theorem pe_callG0 (F : FnG ⟨X.prog, X.w, X.K, X.mg, X.base⟩ k f fd ps sp) (hgu : X.A.guards = some []) (hr : Room k X.A) (hg : Gl X x) (hm : X.mg x = some (.ref f)) (hk : PySem.W.keepIn X.K (.ref f) = true) (hb : Binds X.K fd ps []) (hx : ∀ σ, PassesAt (L2.CX X.prog X.w) X σ (E σ))
    (hdb : (x == ("__debug__" : Str)) = false := by decide) : PE X (.Call (.Name x p) [] [] pos) (tCallS sp E tNil) := by
  refine ⟨fun pins s σ H Q I h => ?_⟩
  refine wpAny_Call_Name_kw (ld_glob I hg hm ?_ hdb)
  exact PySem.W.callWith_K0 I.kIn hk (run_g (us := []) F hgu hr hb (hx σ) I .nil h)
/-- how keywords alone bind: ks their names in the call's order, g puts the values in the parameters' order -/
structure KwB (K : PySem.W.Frag) (fd : FuncData) (ps ks : List Str) (ix : List Nat) : Prop where
  to : ∀ (s : Shared) (ws : List Value), K.In s.heap → ws.length = ks.length → ∃ us : List Value, us.length = ps.length ∧ (∀ i : Nat, us[i]? = (ix[i]?).bind fun j => ws[j]?) ∧ BindsTo s fd ⟨[], ks.zip ws⟩ (ps.zip us)
def pick {α : Type} (ix : List Nat) (ws : List α) : List α := ix.filterMap fun j => ws[j]?
theorem vals_pick {vs : List V} {ws : List Value} (r : Vals vs ws) : ∀ ix : List Nat, Vals (pick ix vs) (pick ix ws)
  | [] => .nil
  | j :: ix => by
    unfold pick
    rw [List.filterMap_cons, List.filterMap_cons]
    cases e : vs[j]? with
    | none =>
      rw [r.none_of e]
      exact vals_pick r ix
    | some v =>
      obtain ⟨u, e2, ru⟩ := r.get e
      rw [e2]
      exact .cons ru (vals_pick r ix)
def KwBinds (K : PySem.W.Frag) (fd : FuncData) (ps ks : List Str) (ix : List Nat) : Prop := ∀ (s : Shared) (ws : List Value), K.In s.heap → ws.length = ks.length → (pick ix ws).length = ps.length → BindsTo s fd ⟨[], ks.zip ws⟩ (ps.zip (pick ix ws))
def tCallKw (sp : Sp) (n : Nat) (ix : List Nat) (E : SL → XK) (tk : TA) : TE := fun σ H Q => tk σ H fun zs H1 => zs.length = n ∧ sp (pick ix zs) H1 Q (E σ)
theorem pe_callGK {ix : List Nat} (F : FnG ⟨X.prog, X.w, X.K, X.mg, X.base⟩ k f fd ps sp) (hgu : X.A.guards = some []) (hr : Room k X.A) (hg : Gl X x) (hm : X.mg x = some (.ref f)) (hk : PySem.W.keepIn X.K (.ref f) = true) (hb : KwBinds X.K fd ps ks ix) (hx : ∀ σ, PassesAt (L2.CX X.prog X.w) X σ (E σ))
    (hkw : PK X kws tk) (hall : (backToKw pos (keywordEach kws X.env)).all (·.1.isSome) = true := by rfl) (hks : (backToKw pos (keywordEach kws X.env)).filterMap (·.1) = ks := by rfl) (hdb : (x == ("__debug__" : Str)) = false := by decide)
    (hpl : ((backTo pos (starEach [] X.env)).any (·.1) || (backToKw pos (keywordEach kws X.env)).any (·.1.isNone)) = false := by rfl) :
    PE X (.Call (.Name x p) [] kws pos) (tCallKw sp ks.length ix E tk) := by
  refine ⟨fun pins s σ H Q I h => ?_⟩
  refine wpAny_Call_Name_kw (ld_glob I hg hm ?_ hdb)
  refine PySem.W.callWith_KW0 (h₀ := X.base) I.ok.mod.kin hk hall ?_ hpl
  refine thn (hkw.run pos pins s σ H _ I h) fun ws s1 hh => ?_
  obtain ⟨zs, H1, I1, r, hn, q⟩ := hh
  refine ⟨I1.kIn, ?_⟩
  rw [hks]
  have r2 := vals_pick r ix
  have hl : (pick ix ws).length = ps.length := by
    rw [← r2.length]
    exact F.len _ _ _ _ q
  refine wpAny_call (codeAny_mono (F.run X.A X.stack s1 H1 ⟨[], ks.zip ws⟩ (pick ix ws) (pick ix zs) Q (E σ) hgu hr I1.env0 (hb s1 ws I1.kIn (by rw [← r.length]; exact hn) hl) r2 q) fun res s' hq => ?_)
  match res, hq with
  | .error e, hq => exact hx σ pins H1 s1 e s' I1 hq
  | .ok (.ret u), hq => exact I1.after hq
  | .ok .next, hq => exact False.elim hq
  | .ok .brk, hq => exact False.elim hq
  | .ok .cont, hq => exact False.elim hq
end

section
variable {c : Kx} {Γ : List EV} {S S1 S2 S3 Sp Sp' Sr : List MO} {a b d e : Expr} {es : List Expr} {pos p : Pos} {x : Str} {ps : List Str} {k : Nat} {R : Spec} {vs : List EV} {z : EV}
/-- f(e, ..): the first objects of one's own, Sp, may be changed by it -/
theorem e_call (F : Def c.W x ps k R) (hR : R vs Sp (.ok z Sp')) (ha : DA c (e :: es) Γ S vs (Sp ++ Sr)) (hk : k ≤ c.k := by exact Nat.le_of_ble_eq_true rfl) (hcalm : c.calm = true := by rfl) (hcl : closedS Sp.length Sp = true := by rfl) (hvs : vs.all (closedE Sp.length) = true := by rfl) (hl : Sp'.length = Sp.length := by rfl)
    (hg : c.sc.names.lookup x = some .globalImplicit := by rfl) (hdb : (x == ("__debug__" : Str)) = false := by decide)
    (he : ∀ env : Env, starEach (e :: es) env = (false, eval e env) :: starEach es env := by intro _; rfl) (hpl : ∀ env : Env, (backTo pos (starEach es env)).any (·.1) = false := by intro _; rfl) :
    DE c (.Call (.Name x p) (e :: es) [] pos) Γ S z (Sp' ++ Sr) := fun X ok => by
  have F' := F.mono hk
  obtain ⟨f, fd, h1, h2, h3, h4⟩ := F'.ex
  rw [ok.W_eq] at h3
  refine PE_imp (pe_callG h3 ok.gu (ok.room hcalm) (gl_of ok hg) (by rw [ok.mg]; exact h1) (by rw [ok.K]; exact h2) (by rw [ok.K]; exact h4) (fun σ => passAt ok.tk σ) (ha X ok) hdb (he X.env) (hpl X.env)) fun σ H Q ⟨A, Rs, q⟩ => ⟨A, Rs, fun A1 ws H1 t1 R1 x1 => ?_⟩
  have hgo := closedS_gone hcl
  refine ⟨A1.first Sp.length, vs, Sp, .ok z Sp', rfl, first_rs R1 hcl, first_vs R1 hgo hvs x1, hR, fun v H' af hv => ?_⟩
  obtain ⟨t2, R2⟩ := first_back R1 hcl hl af
  exact q A1 v H' (t1.trans t2) R2 (v_first R1 hgo hv)
/-- .. that raises -/
theorem x_call {cls : Value} (F : Def c.W x ps k R) (hR : R vs Sp (.ex cls Sp')) (ha : DA c (e :: es) Γ S vs (Sp ++ Sr)) (hk : k ≤ c.k := by exact Nat.le_of_ble_eq_true rfl) (hcalm : c.calm = true := by rfl) (hcl : closedS Sp.length Sp = true := by rfl) (hvs : vs.all (closedE Sp.length) = true := by rfl) (hl : Sp'.length = Sp.length := by rfl)
    (hg : c.sc.names.lookup x = some .globalImplicit := by rfl) (hdb : (x == ("__debug__" : Str)) = false := by decide)
    (he : ∀ env : Env, starEach (e :: es) env = (false, eval e env) :: starEach es env := by intro _; rfl) (hpl : ∀ env : Env, (backTo pos (starEach es env)).any (·.1) = false := by intro _; rfl) :
    DX c (.Call (.Name x p) (e :: es) [] pos) Γ S cls (Sp' ++ Sr) := fun X ok => by
  have F' := F.mono hk
  obtain ⟨f, fd, h1, h2, h3, h4⟩ := F'.ex
  rw [ok.W_eq] at h3
  refine PE_imp (pe_callG h3 ok.gu (ok.room hcalm) (gl_of ok hg) (by rw [ok.mg]; exact h1) (by rw [ok.K]; exact h2) (by rw [ok.K]; exact h4) (fun σ => passAt ok.tk σ) (ha X ok) hdb (he X.env) (hpl X.env)) fun σ H Q ⟨A, Rs, q⟩ => ⟨A, Rs, fun A1 ws H1 t1 R1 x1 => ?_⟩
  have hgo := closedS_gone hcl
  refine ⟨A1.first Sp.length, vs, Sp, .ex cls Sp', rfl, first_rs R1 hcl, first_vs R1 hgo hvs x1, hR, fun H' af => ?_⟩
  obtain ⟨t2, R2⟩ := first_back R1 hcl hl af
  exact q A1 H' (t1.trans t2) R2
/-- a def that can be called by keywords alone as well -/
structure DefK (W : WD) (x : Str) (ps : List Str) (k : Nat) (R : Spec) (ks : List Str) (ix : List Nat) : Prop where
  ex : ∃ f fd, W.mg x = some (.ref f) ∧ PySem.W.keepIn W.K (.ref f) = true ∧ FnG W k f fd ps (spD R) ∧ KwBinds W.K fd ps ks ix
variable {kws : List Keyword} {ks : List Str} {ix : List Nat}
theorem e_callk (F : DefK c.W x ps k R ks ix) (hR : R (pick ix vs) Sp (.ok z Sp')) (ha : DK c kws Γ S vs (Sp ++ Sr)) (hk : k ≤ c.k := by exact Nat.le_of_ble_eq_true rfl) (hcalm : c.calm = true := by rfl) (hn : vs.length = ks.length := by rfl) (hcl : closedS Sp.length Sp = true := by rfl) (hvs : (pick ix vs).all (closedE Sp.length) = true := by rfl)
    (hvz : vs.all (closedE Sp.length) = true := by rfl) (hl : Sp'.length = Sp.length := by rfl) (hg : c.sc.names.lookup x = some .globalImplicit := by rfl) (hdb : (x == ("__debug__" : Str)) = false := by decide)
    (hall : ∀ env : Env, (backToKw pos (keywordEach kws env)).all (·.1.isSome) = true := by intro _; rfl) (hks : ∀ env : Env, (backToKw pos (keywordEach kws env)).filterMap (·.1) = ks := by intro _; rfl)
    (hpl : ∀ env : Env, ((backTo pos (starEach [] env)).any (·.1) || (backToKw pos (keywordEach kws env)).any (·.1.isNone)) = false := by intro _; rfl) :
    DE c (.Call (.Name x p) [] kws pos) Γ S z (Sp' ++ Sr) := fun X ok => by
  obtain ⟨f, fd, h1, h2, h3, h4⟩ := F.ex
  have h3 := h3.mono hk
  rw [ok.W_eq] at h3
  refine PE_imp (pe_callGK h3 ok.gu (ok.room hcalm) (gl_of ok hg) (by rw [ok.mg]; exact h1) (by rw [ok.K]; exact h2) (by rw [ok.K]; exact h4) (fun σ => passAt ok.tk σ) (ha X ok) (hall X.env) (hks X.env) hdb (hpl X.env)) fun σ H Q ⟨A, Rs, q⟩ => ⟨A, Rs, fun A1 ws H1 t1 R1 x1 => ?_⟩
  have hgo := closedS_gone hcl
  refine ⟨by rw [← x1.len]; exact hn, A1.first Sp.length, pick ix vs, Sp, .ok z Sp', rfl, first_rs R1 hcl, ?_, hR, fun v H' af hv => ?_⟩
  · have y := first_vs R1 hgo hvz x1
    have go : ∀ ix : List Nat, VReps (A1.first Sp.length) H1 (pick ix vs) (pick ix ws) := fun ix => by
      induction ix with
      | nil => trivial
      | cons j ix ih =>
        unfold pick
        rw [List.filterMap_cons, List.filterMap_cons]
        cases e1 : vs[j]? with
        | none =>
          have e2 : ws[j]? = none := List.getElem?_eq_none_iff.mpr (by rw [← x1.len]; exact List.getElem?_eq_none_iff.mp e1)
          rw [e2]
          exact ih
        | some v =>
          obtain ⟨w, e2, r⟩ := y.get e1
          rw [e2]
          exact ⟨r, ih⟩
    exact go ix
  · obtain ⟨t2, R2⟩ := first_back R1 hcl hl af
    exact q A1 v H' (t1.trans t2) R2 (v_first R1 hgo hv)
theorem x_callk {cls : Value} (F : DefK c.W x ps k R ks ix) (hR : R (pick ix vs) Sp (.ex cls Sp')) (ha : DK c kws Γ S vs (Sp ++ Sr)) (hk : k ≤ c.k := by exact Nat.le_of_ble_eq_true rfl) (hcalm : c.calm = true := by rfl) (hn : vs.length = ks.length := by rfl) (hcl : closedS Sp.length Sp = true := by rfl)
    (hvz : vs.all (closedE Sp.length) = true := by rfl) (hl : Sp'.length = Sp.length := by rfl) (hg : c.sc.names.lookup x = some .globalImplicit := by rfl) (hdb : (x == ("__debug__" : Str)) = false := by decide)
    (hall : ∀ env : Env, (backToKw pos (keywordEach kws env)).all (·.1.isSome) = true := by intro _; rfl) (hks : ∀ env : Env, (backToKw pos (keywordEach kws env)).filterMap (·.1) = ks := by intro _; rfl)
    (hpl : ∀ env : Env, ((backTo pos (starEach [] env)).any (·.1) || (backToKw pos (keywordEach kws env)).any (·.1.isNone)) = false := by intro _; rfl) :
    DX c (.Call (.Name x p) [] kws pos) Γ S cls (Sp' ++ Sr) := fun X ok => by
  obtain ⟨f, fd, h1, h2, h3, h4⟩ := F.ex
  have h3 := h3.mono hk
  rw [ok.W_eq] at h3
  refine PE_imp (pe_callGK h3 ok.gu (ok.room hcalm) (gl_of ok hg) (by rw [ok.mg]; exact h1) (by rw [ok.K]; exact h2) (by rw [ok.K]; exact h4) (fun σ => passAt ok.tk σ) (ha X ok) (hall X.env) (hks X.env) hdb (hpl X.env)) fun σ H Q ⟨A, Rs, q⟩ => ⟨A, Rs, fun A1 ws H1 t1 R1 x1 => ?_⟩
  have hgo := closedS_gone hcl
  refine ⟨by rw [← x1.len]; exact hn, A1.first Sp.length, pick ix vs, Sp, .ex cls Sp', rfl, first_rs R1 hcl, ?_, hR, fun H' af => ?_⟩
  · have y := first_vs R1 hgo hvz x1
    have go : ∀ ix : List Nat, VReps (A1.first Sp.length) H1 (pick ix vs) (pick ix ws) := fun ix => by
      induction ix with
      | nil => trivial
      | cons j ix ih =>
        unfold pick
        rw [List.filterMap_cons, List.filterMap_cons]
        cases e1 : vs[j]? with
        | none =>
          have e2 : ws[j]? = none := List.getElem?_eq_none_iff.mpr (by rw [← x1.len]; exact List.getElem?_eq_none_iff.mp e1)
          rw [e2]
          exact ih
        | some v =>
          obtain ⟨w, e2, r⟩ := y.get e1
          rw [e2]
          exact ⟨r, ih⟩
    exact go ix
  · obtain ⟨t2, R2⟩ := first_back R1 hcl hl af
    exact q A1 H' (t1.trans t2) R2
/-- a test around a raise -/
theorem x_ifT {cls : Value} {Γ : List EV} (ht : DT c d Γ S true S1) (h : DX c a Γ S1 cls S2) : DX c (.IfExp d a b pos) Γ S cls S2 := fun X ok =>
  PE_imp (pe_ifExp (ht X ok) (h X ok) pe_no) fun σ H Q ⟨A, R, q⟩ => ⟨A, R, fun A1 H1 t1 R1 => by
    show if true = true then _ else _
    rw [if_pos rfl]
    exact ⟨A1, R1, fun A2 H2 t2 R2 => q A2 H2 (t1.trans t2) R2⟩⟩
theorem x_ifF {cls : Value} {Γ : List EV} (ht : DT c d Γ S false S1) (h : DX c b Γ S1 cls S2) : DX c (.IfExp d a b pos) Γ S cls S2 := fun X ok =>
  PE_imp (pe_ifExp (ht X ok) pe_no (h X ok)) fun σ H Q ⟨A, R, q⟩ => ⟨A, R, fun A1 H1 t1 R1 => by
    show if false = true then _ else _
    rw [if_neg Bool.false_ne_true]
    exact ⟨A1, R1, fun A2 H2 t2 R2 => q A2 H2 (t1.trans t2) R2⟩⟩
end
end DL
end
section
set_option Elab.async false
set_option linter.all false
set_option maxRecDepth 100000
set_option autoImplicit false
/-! Data layer, part 6: targets, what is walked, comprehensions. -/
namespace DL
open L2 PySem PySem.Spec PyProof.Rows

/-! ### targets: the value e is stored, the names become Γ'; only the slots ix change -/
def tDG (Γ : List EV) (S : List MO) (e : EV) (Γ' : List EV) (ix : List Nat) : TG := fun v σ H Q => ∃ A, RS A Γ S σ H ∧ VRep A H e v ∧ ∀ σ', RS A Γ' S σ' H → σ'.length = σ.length → (∀ j : Nat, j ∉ ix → σ'[j]? = σ[j]?) → Q σ' H
def tDGs (Γ : List EV) (S : List MO) (es : List EV) (Γ' : List EV) (ix : List Nat) : TGs := fun vs σ H Q => ∃ A, RS A Γ S σ H ∧ VReps A H es vs ∧ ∀ σ', RS A Γ' S σ' H → σ'.length = σ.length → (∀ j : Nat, j ∉ ix → σ'[j]? = σ[j]?) → Q σ' H
def DG (c : Kx) (x : Expr) (Γ : List EV) (S : List MO) (e : EV) (Γ' : List EV) (ix : List Nat) : Prop := ∀ X, c.Ok X → PG X x (tDG Γ S e Γ' ix)
def DGs (c : Kx) (xs : List Expr) (Γ : List EV) (S : List MO) (es : List EV) (Γ' : List EV) (ix : List Nat) : Prop := ∀ X, c.Ok X → PGs X xs (tDGs Γ S es Γ' ix)
section
variable {X : Cx} {c : Kx} {Γ Γ' Γ1 : List EV} {S S1 S2 S3 : List MO} {a b d e tg : Expr} {es ts : List Expr} {pos : Pos} {x : Str}
theorem PG_imp {t t' : TG} (h : PG X e t) (k : ∀ v σ H Q, t' v σ H Q → t v σ H Q) : PG X e t' := ⟨fun pins s σ H v u Q I r q => h.run pins s σ H v u Q I r (k v σ H Q q)⟩
theorem PGs_imp {t t' : TGs} (h : PGs X es t) (k : ∀ v σ H Q, t' v σ H Q → t v σ H Q) : PGs X es t' := ⟨fun pins s σ H v u Q I r q => h.run pins s σ H v u Q I r (k v σ H Q q)⟩
/-- a name that may be stored here -/
def Sto (c : Kx) (x : Str) : Prop := c.sc.names.lookup x = some .local ∨ (c.sc.names.lookup x = some .cell ∧ c.cel x = true)
theorem Sto.loc {X : Cx} (ok : c.Ok X) (h : Sto c x) : Loc X.env.scope x := by
  rw [ok.sc]
  rcases h with h | h
  · exact .inl h
  · exact .inr h.1
theorem Sto.fn {X : Cx} (ok : c.Ok X) (h : Sto c x) : X.fn x = true ∨ X.env.scope.names.lookup x = some .local := by
  rcases h with h | h
  · right
    rw [ok.sc]
    exact h
  · exact .inl (ok.fn x h.2)
theorem g_n (i : Nat) {ev : EV} (hnd : c.N.Nodup) (hN : c.N[i]? = some x := by rfl) (hs : Sto c x := by first | exact Or.inl rfl | exact Or.inr ⟨rfl, rfl⟩) (hΓ : Γ.set i ev = Γ' := by rfl) : DG c (.Name x pos) Γ S ev Γ' [i] := fun X ok =>
  PG_imp (pg_name (i := i) (by rw [ok.N]; exact hnd) (by rw [ok.N]; exact hN) (hs.loc ok) (hs.fn ok)) fun v σ H Q ⟨A, R, r, k⟩ => by
    refine k (σ.set i (some v)) (by rw [← hΓ]; exact R.set r i) (by simp) fun j hj => ?_
    have hne : i ≠ j := fun e => hj (by rw [e]; exact List.mem_singleton.mpr rfl)
    rw [List.getElem?_set_ne hne]
theorem gs_nil : DGs c [] Γ S [] Γ [] := fun X ok => PGs_imp pgs_nil fun vs σ H Q ⟨A, R, r, k⟩ => by
  cases vs with
  | nil => exact ⟨rfl, k σ R rfl fun _ _ => rfl⟩
  | cons v vs => exact r.elim
theorem gs_cons {ev : EV} {evs : List EV} {ix ix' : List Nat} (h1 : DG c e Γ S ev Γ1 ix) (h2 : DGs c es Γ1 S evs Γ' ix') (hs : ∀ env : Env, (assignEach (e :: es) env).map (·.2) = assign e env :: (assignEach es env).map (·.2) := by intro _; rfl) : DGs c (e :: es) Γ S (ev :: evs) Γ' (ix ++ ix') := fun X ok =>
  PGs_imp (pgs_cons (h1 X ok) (h2 X ok) (hs X.env)) fun vs σ H Q ⟨A, R, r, k⟩ => by
    cases vs with
    | nil => exact r.elim
    | cons v vs =>
      refine ⟨v, vs, rfl, A, R, r.1, fun σ1 R1 l1 z1 => ⟨A, R1, r.2, fun σ2 R2 l2 z2 => k σ2 R2 (l2.trans l1) fun j hj => ?_⟩⟩
      rw [List.mem_append, not_or] at hj
      rw [z2 j hj.2, z1 j hj.1]
theorem g_t {ds : List PyData} {ix : List Nat} {k n : Nat} (hc : c.calm = true) (h : DGs c ts Γ S (ds.map EV.val) Γ' ix) (hn : ∀ env : Env, (assignEach ts env).length = n := by intro _; rfl) (hst : ∀ env : Env, (assignEach ts env).findIdx? (·.1) = none := by intro _; rfl) (hl : ds.length = n := by rfl) :
    DG c (.Tuple ts k pos) Γ S (dT ds) Γ' ix := fun X ok =>
  PG_imp (pg_tup (ok.calm hc) (h X ok) (hn X.env) (hst X.env)) fun v σ H Q ⟨A, R, r, kk⟩ => by
    obtain ⟨p, vs, rfl, e1, r1, n1⟩ := tup_of r
    exact ⟨p, vs, rfl, SqT.of e1, by rw [r1.len]; exact hl, A, R, VReps.ofVals r1, kk⟩
/-- .. from a list -/
theorem g_l {ds : List PyData} {ix : List Nat} {k n : Nat} (hc : c.calm = true) (h : DGs c ts Γ S (ds.map EV.val) Γ' ix) (hn : ∀ env : Env, (assignEach ts env).length = n := by intro _; rfl) (hst : ∀ env : Env, (assignEach ts env).findIdx? (·.1) = none := by intro _; rfl) (hl : ds.length = n := by rfl) :
    DG c (.Tuple ts k pos) Γ S (dL ds) Γ' ix := fun X ok =>
  PG_imp (pg_lst (ok.calm hc) (h X ok) (hn X.env) (hst X.env)) fun v σ H Q ⟨A, R, r, kk⟩ => by
    obtain ⟨p, vs, rfl, e1, r1, n1⟩ := lst_of r
    exact ⟨p, vs, rfl, SqL.of e1, by rw [r1.len]; exact hl, A, R, VReps.ofVals r1, kk⟩

/-! ### what is walked -/
/-- later: others may own more, but nothing that was data here -/
structure TrW (A B : A0) (H H1 : Hp) : Prop where
  no : ∀ a o, H a = some o → ¬ A.no a → ¬ B.no a
  keep : ∀ a o, H a = some o → ¬ A.lv a → H1 a = some o
  at_ : ∀ (k : Nat) (a : Addr), A.ad[k]? = some a → B.ad[k]? = some a
theorem Tr.w {A B : A0} {H H1 : Hp} (t : Tr A B H H1) : TrW A B H H1 := ⟨fun a o e h => t.no e h, t.keep, fun k a h => t.at_ h⟩
theorem TrW.repL {A B : A0} {H H1 : Hp} (x : TrW A B H H1) {v : List V} {d : List PyData} (r : RepL A.no H v d) : RepL B.no H1 v d :=
  r.move (fun a o e h => x.keep a o e fun z => h (.inr z)) fun a o e h => x.no a o e h
/-- from (A, H) on, the walk J gives the items one after another -/
def ItOk (A : A0) (H : Hp) (J : It) (items : List EV) : Prop := ∀ (i : Nat) (A1 : A0) (H1 : Hp), TrW A A1 H H1 → (∀ a, A1.no a → ∃ o, H1 a = some o) → (∀ x, items[i]? = some x → J.go i H1 ∧ ∀ v H2, J.yld i H1 v H2 → Same H1 H2 ∧ VRep A1 H2 x v) ∧ (items.length ≤ i → J.stop i H1)
def tDI (Γ : List EV) (S : List MO) (items : List EV) (S1 : List MO) : TI := fun σ H R => ∃ A, RS A Γ S σ H ∧ ∀ A' H' J, Tr A A' H H' → RS A' Γ S1 σ H' → ItOk A' H' J items → R J H'
def DI (c : Kx) (tg iter : Expr) (Γ : List EV) (S : List MO) (items : List EV) (S1 : List MO) : Prop := ∀ X, c.Ok X → PI X tg iter (tDI Γ S items S1)
theorem PI_imp {wi wi' : TI} (h : PI X tg e wi) (k : ∀ σ H R, wi' σ H R → wi σ H R) : PI X tg e wi' := ⟨fun pins s σ H R I q => h.run pins s σ H R I (k σ H R q)⟩
theorem it_list {A : A0} {H : Hp} {K : PySem.W.Frag} {p : Addr} {vs : List V} {ds : List PyData} (e : H p = some (.lst vs)) (r : RepL A.no H vs ds) (n : ¬ A.no p) : ItOk A H (Itl K p) (ds.map EV.val) := fun i A1 H1 t dm => by
  have e1 : H1 p = some (.lst vs) := t.keep _ _ e fun z => n (.inr z)
  have r1 := t.repL r
  refine ⟨fun x hx => ?_, fun hi => ⟨vs, SqL.of e1, by rw [r.len]; simpa using hi⟩⟩
  rw [List.getElem?_map] at hx
  cases q : ds[i]? with
  | none => rw [q] at hx; cases hx
  | some d =>
    rw [q] at hx
    cases hx
    obtain ⟨v, hv, rv⟩ := r1.get q
    refine ⟨⟨vs, v, SqL.of e1, hv⟩, fun w H2 y => ?_⟩
    obtain ⟨rfl, y⟩ := y
    have := y vs (SqL.of e1)
    rw [hv] at this
    cases this
    exact ⟨Same.refl _, rv⟩
theorem it_tup {A : A0} {H : Hp} {K : PySem.W.Frag} {p : Addr} {vs : List V} {ds : List PyData} (e : H p = some (.tup vs)) (r : RepL A.no H vs ds) (n : ¬ A.no p) : ItOk A H (Itt K p) (ds.map EV.val) := fun i A1 H1 t dm => by
  have e1 : H1 p = some (.tup vs) := t.keep _ _ e fun z => n (.inr z)
  have r1 := t.repL r
  refine ⟨fun x hx => ?_, fun hi => ⟨vs, SqT.of e1, by rw [r.len]; simpa using hi⟩⟩
  rw [List.getElem?_map] at hx
  cases q : ds[i]? with
  | none => rw [q] at hx; cases hx
  | some d =>
    rw [q] at hx
    cases hx
    obtain ⟨v, hv, rv⟩ := r1.get q
    refine ⟨⟨vs, v, SqT.of e1, hv⟩, fun w H2 y => ?_⟩
    obtain ⟨rfl, y⟩ := y
    have := y vs (SqT.of e1)
    rw [hv] at this
    cases this
    exact ⟨Same.refl _, rv⟩
theorem i_l {ds : List PyData} (h : DE c e Γ S (dL ds) S1) : DI c tg e Γ S (ds.map EV.val) S1 := fun X ok =>
  PI_imp (pi_list (h X ok)) fun σ H R ⟨A, Rs, k⟩ => ⟨A, Rs, fun A1 v H1 t1 R1 x1 => by
    obtain ⟨p, vs, rfl, e1, r1, n1⟩ := lst_of x1
    exact ⟨p, rfl, ⟨vs, SqL.of e1⟩, k A1 H1 _ t1 R1 (it_list e1 r1 n1)⟩⟩
theorem i_t {ds : List PyData} (h : DE c e Γ S (dT ds) S1) : DI c tg e Γ S (ds.map EV.val) S1 := fun X ok =>
  PI_imp (pi_tup (h X ok)) fun σ H R ⟨A, Rs, k⟩ => ⟨A, Rs, fun A1 v H1 t1 R1 x1 => by
    obtain ⟨p, vs, rfl, e1, r1, n1⟩ := tup_of x1
    exact ⟨p, rfl, ⟨vs, SqT.of e1⟩, k A1 H1 _ t1 R1 (it_tup e1 r1 n1)⟩⟩
/-- lo, lo + 1, .. n of them -/
def rngE (lo : Int) (n : Nat) : List EV := (List.range n).map fun (i : Nat) => dI (lo + (i : Int))
theorem it_rng {A : A0} {H : Hp} (lo : Int) (n : Nat) : ItOk A H (Itr lo n) (rngE lo n) := fun i A1 H1 t dm => by
  refine ⟨fun x hx => ?_, fun hi => (show n ≤ i by simpa [rngE] using hi)⟩
  unfold rngE at hx
  rw [List.getElem?_map] at hx
  by_cases hi : i < n
  · rw [List.getElem?_range hi] at hx
    cases hx
    exact ⟨hi, fun w H2 ⟨e1, e2⟩ => by subst e1 e2; exact ⟨Same.refl _, Rep.int _⟩⟩
  · rw [List.getElem?_eq_none (by simpa using hi)] at hx
    cases hx
variable {p : Pos}
theorem i_r1 {j : Int} (hm : c.W.mg "range" = none) (h : DE c e Γ S (dI j) S1) (h1 : -(2 ^ 62) ≤ j) (h2 : j < 2 ^ 62) (hg : c.sc.names.lookup ("range" : Str) = some .globalImplicit := by rfl) (hs : ∀ env : Env, starEach [e] env = (false, eval e env) :: starEach [] env := by intro _; rfl) :
    DI c tg (.Call (.Name "range" p) [e] [] pos) Γ S (rngE 0 j.toNat) S1 := fun X ok =>
  PI_imp (pi_range1 (gl_of ok hg) (by rw [ok.mg]; exact hm) (pa_cons (h X ok) pa_nil (hs X.env)) (hs X.env)) fun σ H R ⟨A, Rs, k⟩ => ⟨A, Rs, fun A1 v H1 t1 R1 x1 => ⟨j, by rw [int_of x1], h1, h2, k A1 H1 _ t1 R1 (it_rng 0 _)⟩⟩
theorem i_r2 {i j : Int} (hm : c.W.mg "range" = none) (h : DE c e Γ S (dI i) S1) (h' : DE c d Γ S1 (dI j) S2) (h1 : -(2 ^ 62) ≤ i ∧ i < 2 ^ 62 ∧ -(2 ^ 62) ≤ j ∧ j < 2 ^ 62) (hg : c.sc.names.lookup ("range" : Str) = some .globalImplicit := by rfl)
    (hs : ∀ env : Env, starEach [e, d] env = (false, eval e env) :: starEach [d] env := by intro _; rfl) (hs' : ∀ env : Env, starEach [d] env = (false, eval d env) :: starEach [] env := by intro _; rfl) :
    DI c tg (.Call (.Name "range" p) [e, d] [] pos) Γ S (rngE i (j - i).toNat) S2 := fun X ok =>
  PI_imp (pi_range2 (gl_of ok hg) (by rw [ok.mg]; exact hm) (pa_cons (h X ok) (pa_cons (h' X ok) pa_nil (hs' X.env)) (hs X.env)) (by rw [hs, hs']; rfl) (by rw [hs']; rfl)) fun σ H R ⟨A, Rs, k⟩ => ⟨A, Rs, fun A1 v H1 t1 R1 x1 => ⟨A1, R1, fun A2 w H2 t2 R2 x2 =>
    ⟨i, j, by rw [int_of (t2.vrep x1), int_of x2], h1, k A2 H2 _ (t1.trans t2) R2 (it_rng i _)⟩⟩⟩
/-- pairs -/
theorem VRep.pair {A : A0} {H : Hp} {T : Addr} {x y : V} {d1 d2 : PyData} (hdom : ∀ a, A.no a → ∃ o, H a = some o) (hT : H T = none) (r1 : Rep A.no H x d1) (r2 : Rep A.no H y d2) : VRep A (upd H T (.tup [x, y])) (dT [d1, d2]) (.ref T) := by
  have s := same_upd (o := .tup [x, y]) hT
  have mv : ∀ {v : V} {d : PyData}, Rep A.no H v d → Rep A.no (upd H T (.tup [x, y])) v d := fun r => r.move (fun a o e _ => s a o e) fun _ _ _ h => h
  refine (show Rep A.no _ (.ref T) (.tuple [d1, d2]) from Rep.tup (fun z => ?_) upd_same (.cons (mv r1) (.cons (mv r2) .nil)))
  obtain ⟨o, e⟩ := hdom T z
  rw [hT] at e
  cases e
def zipE (ds es : List PyData) : List EV := (ds.zip es).map fun q => dT [q.1, q.2]
def enumE (ds : List PyData) : List EV := ds.zipIdx.map fun q => dT [.int (q.2 : Nat), q.1]
theorem zipE_get {ds es : List PyData} {i : Nat} {x : EV} (h : (zipE ds es)[i]? = some x) : ∃ d e, ds[i]? = some d ∧ es[i]? = some e ∧ x = dT [d, e] := by
  unfold zipE at h
  rw [List.getElem?_map] at h
  cases q : (ds.zip es)[i]? with
  | none => rw [q] at h; cases h
  | some y =>
    rw [q] at h
    cases h
    obtain ⟨d, e⟩ := y
    obtain ⟨h1, h2⟩ := List.getElem?_zip_eq_some.mp q
    exact ⟨d, e, h1, h2, rfl⟩
theorem it_zipL {A : A0} {H : Hp} {K : PySem.W.Frag} {p1 p2 : Addr} {vs ws : List V} {ds es : List PyData} (e1 : H p1 = some (.lst vs)) (r1 : RepL A.no H vs ds) (n1 : ¬ A.no p1) (e2 : H p2 = some (.lst ws)) (r2 : RepL A.no H ws es) (n2 : ¬ A.no p2) :
    ItOk A H (Itz K p1 p2) (zipE ds es) := fun i A3 H3 t3 dm => by
  have f1 : H3 p1 = some (.lst vs) := t3.keep _ _ e1 fun z => n1 (.inr z)
  have f2 : H3 p2 = some (.lst ws) := t3.keep _ _ e2 fun z => n2 (.inr z)
  have s1 := t3.repL r1
  have s2 := t3.repL r2
  refine ⟨fun x hx => ?_, fun hi => ⟨vs, ws, SqL.of f1, SqL.of f2, ?_⟩⟩
  · obtain ⟨d, e, h1, h2, rfl⟩ := zipE_get hx
    obtain ⟨u, hu, ru⟩ := s1.get h1
    obtain ⟨w, hw, rw'⟩ := s2.get h2
    refine ⟨⟨vs, ws, u, w, SqL.of f1, SqL.of f2, hu, hw⟩, fun v H4 y => ?_⟩
    obtain ⟨T, x, y, rfl, hT, rfl, y1, y2⟩ := y
    have z1 := y1 vs (SqL.of f1)
    have z2 := y2 ws (SqL.of f2)
    rw [hu] at z1
    rw [hw] at z2
    cases z1
    cases z2
    exact ⟨same_upd hT, VRep.pair dm hT ru rw'⟩
  · have hi' : min ds.length es.length ≤ i := by simpa [zipE] using hi
    rw [r1.len, r2.len]
    omega
theorem it_zipT {A : A0} {H : Hp} {K : PySem.W.Frag} {p1 p2 : Addr} {vs ws : List V} {ds es : List PyData} (e1 : H p1 = some (.tup vs)) (r1 : RepL A.no H vs ds) (n1 : ¬ A.no p1) (e2 : H p2 = some (.tup ws)) (r2 : RepL A.no H ws es) (n2 : ¬ A.no p2) :
    ItOk A H (RZ.ItzT K p1 p2) (zipE ds es) := fun i A3 H3 t3 dm => by
  have f1 : H3 p1 = some (.tup vs) := t3.keep _ _ e1 fun z => n1 (.inr z)
  have f2 : H3 p2 = some (.tup ws) := t3.keep _ _ e2 fun z => n2 (.inr z)
  have s1 := t3.repL r1
  have s2 := t3.repL r2
  refine ⟨fun x hx => ?_, fun hi => ⟨vs, ws, SqT.of f1, SqT.of f2, ?_⟩⟩
  · obtain ⟨d, e, h1, h2, rfl⟩ := zipE_get hx
    obtain ⟨u, hu, ru⟩ := s1.get h1
    obtain ⟨w, hw, rw'⟩ := s2.get h2
    refine ⟨⟨vs, ws, u, w, SqT.of f1, SqT.of f2, hu, hw⟩, fun v H4 y => ?_⟩
    obtain ⟨T, x, y, rfl, hT, rfl, y1, y2⟩ := y
    have z1 := y1 vs (SqT.of f1)
    have z2 := y2 ws (SqT.of f2)
    rw [hu] at z1
    rw [hw] at z2
    cases z1
    cases z2
    exact ⟨same_upd hT, VRep.pair dm hT ru rw'⟩
  · have hi' : min ds.length es.length ≤ i := by simpa [zipE] using hi
    rw [r1.len, r2.len]
    omega
theorem i_zl {ds es : List PyData} {elts : List Expr} {kk : Nat} {tpos : Pos} (hm : c.W.mg "zip" = none) (h : DE c e Γ S (dL ds) S1) (h' : DE c d Γ S1 (dL es) S2) (hg : c.sc.names.lookup ("zip" : Str) = some .globalImplicit := by rfl)
    (hs : ∀ env : Env, starEach [e, d] env = (false, eval e env) :: starEach [d] env := by intro _; rfl) (hs' : ∀ env : Env, starEach [d] env = (false, eval d env) :: starEach [] env := by intro _; rfl) (hpl : ∀ env : Env, (backTo pos (starEach [d] env)).any (·.1) = false := by intro _; rfl) :
    DI c (.Tuple elts kk tpos) (.Call (.Name "zip" p) [e, d] [] pos) Γ S (zipE ds es) S2 := fun X ok =>
  PI_imp (RZ.pi_zipA (gl_of ok hg) (by rw [ok.mg]; exact hm) (pa_cons (h X ok) (pa_cons (h' X ok) pa_nil (hs' X.env)) (hs X.env)) (hs X.env) (hpl X.env)) fun σ H R ⟨A, Rs, k⟩ => ⟨A, Rs, fun A1 v H1 t1 R1 x1 => ⟨A1, R1, fun A2 w H2 t2 R2 x2 => by
    obtain ⟨p1, vs, rfl, e1, r1, n1⟩ := lst_of (t2.vrep x1)
    obtain ⟨p2, ws, rfl, e2, r2, n2⟩ := lst_of x2
    exact ⟨p1, p2, vs, ws, rfl, .inl ⟨SqL.of e1, SqL.of e2, k A2 H2 _ (t1.trans t2) R2 (it_zipL e1 r1 n1 e2 r2 n2)⟩⟩⟩⟩
theorem i_zt {ds es : List PyData} {elts : List Expr} {kk : Nat} {tpos : Pos} (hm : c.W.mg "zip" = none) (h : DE c e Γ S (dT ds) S1) (h' : DE c d Γ S1 (dT es) S2) (hg : c.sc.names.lookup ("zip" : Str) = some .globalImplicit := by rfl)
    (hs : ∀ env : Env, starEach [e, d] env = (false, eval e env) :: starEach [d] env := by intro _; rfl) (hs' : ∀ env : Env, starEach [d] env = (false, eval d env) :: starEach [] env := by intro _; rfl) (hpl : ∀ env : Env, (backTo pos (starEach [d] env)).any (·.1) = false := by intro _; rfl) :
    DI c (.Tuple elts kk tpos) (.Call (.Name "zip" p) [e, d] [] pos) Γ S (zipE ds es) S2 := fun X ok =>
  PI_imp (RZ.pi_zipA (gl_of ok hg) (by rw [ok.mg]; exact hm) (pa_cons (h X ok) (pa_cons (h' X ok) pa_nil (hs' X.env)) (hs X.env)) (hs X.env) (hpl X.env)) fun σ H R ⟨A, Rs, k⟩ => ⟨A, Rs, fun A1 v H1 t1 R1 x1 => ⟨A1, R1, fun A2 w H2 t2 R2 x2 => by
    obtain ⟨p1, vs, rfl, e1, r1, n1⟩ := tup_of (t2.vrep x1)
    obtain ⟨p2, ws, rfl, e2, r2, n2⟩ := tup_of x2
    exact ⟨p1, p2, vs, ws, rfl, .inr ⟨SqT.of e1, SqT.of e2, k A2 H2 _ (t1.trans t2) R2 (it_zipT e1 r1 n1 e2 r2 n2)⟩⟩⟩⟩
theorem enumE_get {ds : List PyData} {i : Nat} {x : EV} (h : (enumE ds)[i]? = some x) : ∃ d, ds[i]? = some d ∧ x = dT [.int (i : Nat), d] := by
  unfold enumE at h
  rw [List.getElem?_map, List.getElem?_zipIdx] at h
  cases q : ds[i]? with
  | none => rw [q] at h; cases h
  | some y =>
    rw [q] at h
    cases h
    exact ⟨y, rfl, by simp⟩
theorem i_el {ds : List PyData} {elts : List Expr} {kk : Nat} {tpos : Pos} (hm : c.W.mg "enumerate" = none) (h : DE c e Γ S (dL ds) S1) (hg : c.sc.names.lookup ("enumerate" : Str) = some .globalImplicit := by rfl)
    (hs : ∀ env : Env, starEach [e] env = (false, eval e env) :: starEach [] env := by intro _; rfl) : DI c (.Tuple elts kk tpos) (.Call (.Name "enumerate" p) [e] [] pos) Γ S (enumE ds) S1 := fun X ok =>
  PI_imp (pi_enum (gl_of ok hg) (by rw [ok.mg]; exact hm) (pa_cons (h X ok) pa_nil (hs X.env)) (hs X.env)) fun σ H R ⟨A, Rs, k⟩ => ⟨A, Rs, fun A1 v H1 t1 R1 x1 => by
    obtain ⟨q, vs, rfl, e1, r1, n1⟩ := lst_of x1
    refine ⟨q, vs, rfl, SqL.of e1, k A1 H1 _ t1 R1 fun i A3 H3 t3 dm => ?_⟩
    have f1 : H3 q = some (.lst vs) := t3.keep _ _ e1 fun z => n1 (.inr z)
    have s1 := t3.repL r1
    refine ⟨fun x hx => ?_, fun hi => ⟨vs, SqL.of f1, by rw [r1.len]; simpa [enumE] using hi⟩⟩
    obtain ⟨d, h1, rfl⟩ := enumE_get hx
    obtain ⟨u, hu, ru⟩ := s1.get h1
    refine ⟨⟨vs, u, SqL.of f1, hu⟩, fun v H4 y => ?_⟩
    obtain ⟨T, x, rfl, hT, rfl, y1⟩ := y
    have z1 := y1 vs (SqL.of f1)
    rw [hu] at z1
    cases z1
    exact ⟨same_upd hT, VRep.pair dm hT (Rep.int _) ru⟩⟩
/-- from the end -/
theorem i_rl {ds : List PyData} (hm : c.W.mg "reversed" = none) (h : DE c e Γ S (dL ds) S1) (hg : c.sc.names.lookup ("reversed" : Str) = some .globalImplicit := by rfl)
    (hs : ∀ env : Env, starEach [e] env = (false, eval e env) :: starEach [] env := by intro _; rfl) : DI c tg (.Call (.Name "reversed" p) [e] [] pos) Γ S (ds.reverse.map EV.val) S1 := fun X ok =>
  PI_imp (RT.pi_revA (gl_of ok hg) (by rw [ok.mg]; exact hm) (h X ok) (hs X.env)) fun σ H R ⟨A, Rs, k⟩ => ⟨A, Rs, fun A1 v H1 t1 R1 x1 => by
    obtain ⟨q, vs, rfl, e1, r1, n1⟩ := lst_of x1
    refine ⟨q, vs, rfl, .inl ⟨SqL.of e1, k A1 H1 _ t1 R1 fun i A3 H3 t3 dm => ?_⟩⟩
    have f1 : H3 q = some (.lst vs) := t3.keep _ _ e1 fun z => n1 (.inr z)
    have s1 := t3.repL r1
    have hl := r1.len
    refine ⟨fun x hx => ?_, fun hi => (show vs.length ≤ i by rw [hl]; simpa using hi)⟩
    rw [List.getElem?_map] at hx
    cases z : ds.reverse[i]? with
    | none => rw [z] at hx; cases hx
    | some d =>
      rw [z] at hx
      cases hx
      have hi : i < ds.length := by
        have := (List.getElem?_eq_some_iff.mp z).1
        simpa using this
      rw [List.getElem?_reverse hi] at z
      obtain ⟨u, hu, ru⟩ := s1.get z
      rw [← hl] at hu
      refine ⟨⟨by omega, vs, u, SqL.of f1, hu⟩, fun v H4 y => ?_⟩
      obtain ⟨rfl, y1⟩ := y
      have z1 := y1 vs (SqL.of f1)
      rw [hu] at z1
      cases z1
      exact ⟨Same.refl _, ru⟩⟩

/-! ### list comprehensions -/
theorem wipe_get (σ : SL) : ∀ (vs : List Nat) (j : Nat), (L2.wipe σ vs)[j]? = if j ∈ vs ∧ j < σ.length then some none else σ[j]?
  | [], j => by simp [L2.wipe]
  | v :: vs, j => by
    unfold L2.wipe
    have ih := wipe_get σ vs j
    by_cases h : v = j
    · subst h
      by_cases hl : v < σ.length
      · rw [List.getElem?_set_self (by rw [L2.wipe_length]; exact hl), if_pos ⟨List.mem_cons_self, hl⟩]
      · rw [List.getElem?_eq_none (by rw [List.length_set, L2.wipe_length]; omega), if_neg (fun z => hl z.2), List.getElem?_eq_none (by omega)]
    · rw [List.getElem?_set_ne h, ih]
      have e : j ∈ v :: vs ↔ j ∈ vs := by
        rw [List.mem_cons]
        exact ⟨fun z => z.elim (fun q => absurd q.symm h) id, .inr⟩
      by_cases c : j ∈ vs ∧ j < σ.length
      · rw [if_pos c, if_pos ⟨e.mpr c.1, c.2⟩]
      · rw [if_neg c, if_neg (fun z => c ⟨e.mp z.1, z.2⟩)]
theorem wipe_ext {σ σ' : SL} {vs : List Nat} (hl : σ'.length = σ.length) (h : ∀ j : Nat, j ∉ vs → σ'[j]? = σ[j]?) : L2.wipe σ' vs = L2.wipe σ vs := by
  apply List.ext_getElem?
  intro j
  rw [wipe_get, wipe_get, hl]
  by_cases hj : j ∈ vs
  · by_cases hk : j < σ.length
    · rw [if_pos ⟨hj, hk⟩, if_pos ⟨hj, hk⟩]
    · rw [if_neg (fun z => hk z.2), if_neg (fun z => hk z.2), List.getElem?_eq_none (by omega), List.getElem?_eq_none (by omega)]
  · rw [if_neg (fun z => hj z.1), if_neg (fun z => hj z.1), h j hj]
theorem wipe_of_wiped {σ σ' : SL} {vs ix : List Nat} (hl : σ'.length = (L2.wipe σ vs).length) (h : ∀ j : Nat, j ∉ ix → σ'[j]? = (L2.wipe σ vs)[j]?) (hs : ∀ j : Nat, j ∈ ix → j ∈ vs) : L2.wipe σ' vs = L2.wipe σ vs := by
  rw [L2.wipe_length] at hl
  refine wipe_ext hl fun j hj => ?_
  rw [h j (fun z => hj (hs j z)), wipe_get, if_neg (fun z => hj z.1)]
/-- D is held apart -/
def A0.plus (A : A0) (D : Addr) : A0 := ⟨fun a => A.av a ∨ a = D, A.ad, A.dd⟩
theorem plus_no {A : A0} {D a : Addr} (h : A.no a) : (A.plus D).no a := h.elim (fun z => .inl (.inl z)) (fun z => .inr z)
theorem RS.updD {A : A0} {Γ : List EV} {S : List MO} {σ : SL} {H : Hp} {D : Addr} {o : HO} (R : RS A Γ S σ H) (hD : A.av D) : RS A Γ S σ (upd H D o) := by
  have mv : ∀ {v : V} {d : PyData}, Rep A.no H v d → Rep A.no (upd H D o) v d := fun r => r.move (fun a u e h => by rw [upd_ne (fun q => h (by rw [q]; exact .inl hD))]; exact e) fun _ _ _ h => h
  have mvL : ∀ {v : List V} {d : List PyData}, RepL A.no H v d → RepL A.no (upd H D o) v d := fun r => r.move (fun a u e h => by rw [upd_ne (fun q => h (by rw [q]; exact .inl hD))]; exact e) fun _ _ _ h => h
  have mvs : ∀ {es : List EV} {vs : List V}, VReps A H es vs → VReps A (upd H D o) es vs := by
    intro es
    induction es with
    | nil =>
      intro vs h
      cases vs with
      | nil => trivial
      | cons v vs => exact h.elim
    | cons e es ih =>
      intro vs h
      cases vs with
      | nil => exact h.elim
      | cons v vs =>
        refine ⟨?_, ih h.2⟩
        have h1 := h.1
        cases e with
        | und => trivial
        | val d => exact mv h1
        | own k => exact h1
  have mes : ∀ {es : List EV} {vs : SL}, EReps A H es vs → EReps A (upd H D o) es vs := by
    intro es
    induction es with
    | nil =>
      intro vs h
      cases vs with
      | nil => trivial
      | cons v vs => exact h.elim
    | cons e es ih =>
      intro vs h
      cases vs with
      | nil => exact h.elim
      | cons v vs =>
        refine ⟨?_, ih h.2⟩
        have h1 := h.1
        cases e with
        | und => trivial
        | val d => obtain ⟨w, e1, r⟩ := h1; exact ⟨w, e1, mv r⟩
        | own k => exact h1
  have dm : ∀ a, (∃ u, H a = some u) → ∃ u, upd H D o a = some u := fun a ⟨u, e⟩ => by
    by_cases q : a = D
    · exact ⟨o, by rw [q]; exact upd_same⟩
    · exact ⟨u, by rw [upd_ne q]; exact e⟩
  refine ⟨fun a ha => dm a (R.dom a ha), R.nd, R.sep, R.len, R.gn, fun a ha => dm a (R.all a ha), mes R.env, fun k mo a h1 h2 => ?_⟩
  have ne : a ≠ D := fun q => R.sep a (List.mem_of_getElem? h2) (by rw [q]; exact hD)
  have q := R.sto k mo a h1 h2
  cases mo with
  | lst xs => obtain ⟨vs, e, r⟩ := q; exact ⟨vs, by rw [upd_ne ne]; exact e, mvs r⟩
  | dK kvs => obtain ⟨vs, e, r⟩ := q; exact ⟨vs, by rw [upd_ne ne]; exact e, mvL r⟩
  | dT kvs => obtain ⟨vs, e, r⟩ := q; exact ⟨vs, by rw [upd_ne ne]; exact e, mvL r⟩
  | gone => trivial
/-- what stands in the middle of a comprehension at (A1, H1), the new list at D -/
structure MidLc (A1 : A0) (H1 : Hp) (D : Addr) (Γ : List EV) (S : List MO) (σ : SL) (ds : List PyData) (H : Hp) : Prop where
  ex : ∃ B : A0, B.av = (fun a => A1.av a ∨ a = D) ∧ RS B Γ S σ H ∧ (∃ fr, B.ad = A1.ad ++ fr ∧ ∀ a, a ∈ fr → H1 a = none) ∧ (∀ k, k ∈ A1.dd → k ∈ B.dd) ∧ (∀ a o, H1 a = some o → ¬ A1.lv a → H a = some o) ∧ (∀ a o, H1 a = some o → ∃ o', H a = some o') ∧
    ∃ acc, H D = some (.lst acc) ∧ RepL B.no H acc ds
theorem lc_run {g : TG} {tt : TT} {te : TE} {J : It} {A1 : A0} {H1 : Hp} {σ : SL} {vs : List Nat} {Γ : List EV} {items : List EV} {St : Nat → List MO} {r : Nat → Option PyData} {D : Addr} {Q : VK}
    (R1 : RS A1 Γ (St 0) σ H1) (hJ : ItOk A1 H1 J items) (hD : H1 D = none) (hlen : items.length ≤ 16777215)
    (turn : ∀ (i : Nat) (x : EV) (B : A0) (H : Hp) (v : V) (K1 : V → Hp → Prop) (K2 : Hp → Prop), items[i]? = some x → RS B (wipeE Γ vs) (St i) (L2.wipe σ vs) H → VRep B H x v →
      (∀ B' y H' d, r i = some d → Tr B B' H H' → RS B' (wipeE Γ vs) (St (i + 1)) (L2.wipe σ vs) H' → Rep B'.no H' y d → K1 y H') →
      (∀ B' H', r i = none → Tr B B' H H' → RS B' (wipeE Γ vs) (St (i + 1)) (L2.wipe σ vs) H' → K2 H') →
      g v (L2.wipe σ vs) H fun σ2 H2 => L2.wipe σ2 vs = L2.wipe σ vs ∧ tt σ2 H2 fun b H3 => if b = true then te σ2 H3 K1 else K2 H3)
    (done : ∀ A2 H2, Tr A1 A2 H1 H2 → RS A2 Γ (St items.length) σ H2 → VRep A2 H2 (dL ((List.range items.length).filterMap r)) (.ref D) → Q (.ref D) H2) :
    ∃ W : Nat → Nat → Hp → Prop, (∃ m, W 0 m (upd H1 D (.lst []))) ∧ ∀ i m H, W i m H →
      (J.stop i H ∧ Q (.ref D) H) ∨ (J.go i H ∧ ∃ Nx : Hp → Prop, (∀ H', Nx H' → ∃ m', m' < m ∧ W (i + 1) m' H') ∧ ∀ x H', J.yld i H x H' → g x (L2.wipe σ vs) H' fun σ2 H2 => L2.wipe σ2 vs = L2.wipe σ vs ∧ tt σ2 H2 fun b H3 =>
        if b = true then te σ2 H3 fun y H4 => ∃ acc, H4 D = some (.lst acc) ∧ acc.length < sizeLine ∧ Nx (upd H4 D (.lst (acc ++ [y]))) else Nx H3) := by
  have nD : ¬ A1.no D := R1.fresh hD
  have nDa : D ∉ A1.ad := fun z => by
    obtain ⟨o, e⟩ := R1.all D z
    rw [hD] at e
    cases e
  refine ⟨fun i m H => m = items.length - i ∧ i ≤ items.length ∧ MidLc A1 H1 D (wipeE Γ vs) (St i) (L2.wipe σ vs) ((List.range i).filterMap r) H, ⟨items.length, by simp, Nat.zero_le _, ?_⟩, ?_⟩
  · -- the start
    have s : Same H1 (upd H1 D (.lst [])) := same_upd hD
    have mv : ∀ a o, H1 a = some o → ¬ A1.no a → ¬ (A1.plus D).no a := fun a o e h z => by
      rcases z with (z | z) | z
      · exact h (.inl z)
      · rw [z, hD] at e
        cases e
      · exact h (.inr z)
    have R2 := (R1.wipe vs).same s
    have mvR : ∀ {v : V} {d : PyData}, Rep A1.no H1 v d → Rep (A1.plus D).no (upd H1 D (.lst [])) v d := fun rr => rr.move (fun a o e _ => s a o e) mv
    have mvL : ∀ {v : List V} {d : List PyData}, RepL A1.no H1 v d → RepL (A1.plus D).no (upd H1 D (.lst [])) v d := fun rr => rr.move (fun a o e _ => s a o e) mv
    have w : TrW A1 (A1.plus D) H1 (upd H1 D (.lst [])) := ⟨mv, fun a o e _ => s a o e, fun _ _ h => h⟩
    have mvs : ∀ {es : List EV} {vs : List V}, VReps A1 H1 es vs → VReps (A1.plus D) (upd H1 D (.lst [])) es vs := by
      intro es
      induction es with
      | nil =>
        intro vs h
        cases vs with
        | nil => trivial
        | cons v vs => exact h.elim
      | cons e es ih =>
        intro vs h
        cases vs with
        | nil => exact h.elim
        | cons v vs =>
          refine ⟨?_, ih h.2⟩
          have h1 := h.1
          cases e with
          | und => trivial
          | val d => exact mvR h1
          | own k => exact h1
    have mes : ∀ {es : List EV} {vs : SL}, EReps A1 H1 es vs → EReps (A1.plus D) (upd H1 D (.lst [])) es vs := by
      intro es
      induction es with
      | nil =>
        intro vs h
        cases vs with
        | nil => trivial
        | cons v vs => exact h.elim
      | cons e es ih =>
        intro vs h
        cases vs with
        | nil => exact h.elim
        | cons v vs =>
          refine ⟨?_, ih h.2⟩
          have h1 := h.1
          cases e with
          | und => trivial
          | val d => obtain ⟨w, e1, rr⟩ := h1; exact ⟨w, e1, mvR rr⟩
          | own k => exact h1
    have R1w := R1.wipe vs
    have R3 : RS (A1.plus D) (wipeE Γ vs) (St 0) (L2.wipe σ vs) (upd H1 D (.lst [])) := by
      refine ⟨fun a ha => ?_, R1w.nd, fun a ha z => ?_, R1w.len, R1w.gn, fun a ha => R2.all a ha, mes R1w.env, fun k mo a h1 h2 => ?_⟩
      · rcases ha with (z | z) | z
        · exact R2.dom a (.inl z)
        · exact ⟨_, by rw [z]; exact upd_same⟩
        · exact R2.dom a (.inr z)
      · rcases z with z | z
        · exact R1.sep a ha z
        · exact nDa (by rw [← z]; exact ha)
      · have q := R1w.sto k mo a h1 h2
        cases mo with
        | lst xs => obtain ⟨vs, e, rr⟩ := q; exact ⟨vs, s _ _ e, mvs rr⟩
        | dK kvs => obtain ⟨vs, e, rr⟩ := q; exact ⟨vs, s _ _ e, mvL rr⟩
        | dT kvs => obtain ⟨vs, e, rr⟩ := q; exact ⟨vs, s _ _ e, mvL rr⟩
        | gone => trivial
    exact ⟨A1.plus D, rfl, R3, ⟨[], by simp [A0.plus], by simp⟩, fun _ h => h, fun a o e _ => s a o e, fun a o e => ⟨o, s a o e⟩, [], upd_same, .nil⟩
  · rintro i m H ⟨rfl, hi, B, hav, R, ⟨fr, efr, nfr⟩, hdd, keep, dom, acc, hacc, rep⟩
    have avD : B.av D := by
      rw [hav]
      exact .inr rfl
    have nlv : ¬ B.lv D := fun z => R.sep D (A0.lv_mem z) avD
    have tw : TrW A1 B H1 H := by
      refine ⟨fun a o e h z => ?_, keep, fun k a h => by rw [efr, List.getElem?_append_left (List.getElem?_eq_some_iff.mp h).1]; exact h⟩
      rcases z with z | ⟨k, h1, h2⟩
      · rw [hav] at z
        rcases z with z | z
        · exact h (.inl z)
        · rw [z, hD] at e
          cases e
      · by_cases hk : k < A1.ad.length
        · rw [efr, List.getElem?_append_left hk] at h1
          exact h (.inr ⟨k, h1, fun w => h2 (hdd k w)⟩)
        · rw [efr, List.getElem?_append_right (by omega)] at h1
          rw [nfr a (List.mem_of_getElem? h1)] at e
          cases e
    obtain ⟨it1, it2⟩ := hJ i B H tw R.dom
    by_cases hlt : i < items.length
    · obtain ⟨go, yl⟩ := it1 items[i] (List.getElem?_eq_getElem hlt)
      refine .inr ⟨go, fun H' => MidLc A1 H1 D (wipeE Γ vs) (St (i + 1)) (L2.wipe σ vs) ((List.range (i + 1)).filterMap r) H', fun H' p => ⟨items.length - (i + 1), by omega, rfl, hlt, p⟩, fun x H' y => ?_⟩
      obtain ⟨sm, vr⟩ := yl x H' y
      have hr : (List.range (i + 1)).filterMap r = (List.range i).filterMap r ++ (match r i with | some d => [d] | none => []) := by
        rw [List.range_succ, List.filterMap_append]
        congr 1
        cases hq : r i <;> simp [hq]
      have hacc' := sm _ _ hacc
      have rep' := (Tr.same (A := B) sm).repL rep
      -- from H' on
      have step : ∀ {B' : A0} {H3 : Hp}, Tr B B' H' H3 → RS B' (wipeE Γ vs) (St (i + 1)) (L2.wipe σ vs) H3 → B'.av = (fun a => A1.av a ∨ a = D) ∧ (∃ fr, B'.ad = A1.ad ++ fr ∧ ∀ a, a ∈ fr → H1 a = none) ∧ (∀ k, k ∈ A1.dd → k ∈ B'.dd) ∧
          (∀ a o, H1 a = some o → ¬ A1.lv a → H3 a = some o) ∧ (∀ a o, H1 a = some o → ∃ o', H3 a = some o') ∧ H3 D = some (.lst acc) ∧ RepL B'.no H3 acc ((List.range i).filterMap r) := by
        intro B' H3 t R3
        obtain ⟨f2, e2, n2⟩ := t.ad
        refine ⟨t.av.trans hav, ⟨fr ++ f2, by rw [e2, efr, List.append_assoc], fun a ha => ?_⟩, fun k hk => t.dd k (hdd k hk), fun a o e h => ?_, fun a o e => ?_, t.keep _ _ hacc' nlv, t.repL rep'⟩
        · rcases List.mem_append.mp ha with z | z
          · exact nfr a z
          · cases q : H1 a with
            | none => rfl
            | some o =>
              obtain ⟨o', e'⟩ := dom a o q
              have e2 := sm _ _ e'
              rw [n2 a z] at e2
              cases e2
        · have e1 := sm _ _ (keep a o e h)
          refine t.keep _ _ e1 fun z => ?_
          obtain ⟨k, h1, h2⟩ := z
          by_cases hk : k < A1.ad.length
          · rw [efr, List.getElem?_append_left hk] at h1
            exact h ⟨k, h1, fun w => h2 (hdd k w)⟩
          · rw [efr, List.getElem?_append_right (by omega)] at h1
            rw [nfr a (List.mem_of_getElem? h1)] at e
            cases e
        · obtain ⟨o', e'⟩ := dom a o e
          exact t.dom a o' (sm _ _ e')
      refine turn i items[i] B H' x _ _ (List.getElem?_eq_getElem hlt) (R.same sm) vr (fun B' y H3 d hd t R3 ry => ?_) (fun B' H3 hd t R3 => ?_)
      · obtain ⟨a1, a2, a3, a4, a5, a6, a7⟩ := step t R3
        have avD' : B'.av D := by
          rw [a1]
          exact .inr rfl
        refine ⟨acc, a6, ?_, B', a1, R3.updD avD', a2, a3, fun a o e h => ?_, fun a o e => ?_, acc ++ [y], upd_same, ?_⟩
        · have hl := rep.len
          have h2 : ((List.range i).filterMap r).length ≤ i := by
            have := List.length_filterMap_le r (List.range i)
            simpa using this
          have := small_line (n := acc.length + 1) (by omega)
          omega
        · rw [upd_ne (fun q => by rw [q, hD] at e; cases e)]
          exact a4 a o e h
        · rw [upd_ne (fun q => by rw [q, hD] at e; cases e)]
          exact a5 a o e
        · rw [hr, hd]
          have mv : ∀ {v : List V} {d : List PyData}, RepL B'.no H3 v d → RepL B'.no (upd H3 D (.lst (acc ++ [y]))) v d := fun rr => rr.move (fun a u e h => by rw [upd_ne (fun q => h (by rw [q]; exact .inl avD'))]; exact e) fun _ _ _ h => h
          exact mv (a7.app (.cons ry .nil))
      · obtain ⟨a1, a2, a3, a4, a5, a6, a7⟩ := step t R3
        refine ⟨B', a1, R3, a2, a3, a4, a5, acc, a6, ?_⟩
        rw [hr, hd]
        simpa using a7
    · have e : i = items.length := by omega
      subst e
      refine .inl ⟨it2 (Nat.le_refl _), done ⟨A1.av, B.ad, B.dd⟩ H ?_ ?_ ?_⟩
      · exact ⟨rfl, ⟨fr, efr, nfr⟩, hdd, keep, dom⟩
      · have t2 : Tr A1 ⟨A1.av, B.ad, B.dd⟩ H1 H := ⟨rfl, ⟨fr, efr, nfr⟩, hdd, keep, dom⟩
        have sub : ∀ a, (⟨A1.av, B.ad, B.dd⟩ : A0).no a → B.no a := fun a z => z.elim (fun q => .inl (by rw [hav]; exact .inl q)) fun q => .inr q
        have mvR : ∀ {v : V} {d : PyData}, Rep B.no H v d → Rep (⟨A1.av, B.ad, B.dd⟩ : A0).no H v d := fun rr => rr.move (fun _ _ e _ => e) fun a o _ h z => h (sub a z)
        have mvL : ∀ {v : List V} {d : List PyData}, RepL B.no H v d → RepL (⟨A1.av, B.ad, B.dd⟩ : A0).no H v d := fun rr => rr.move (fun _ _ e _ => e) fun a o _ h z => h (sub a z)
        have mvs : ∀ {es : List EV} {vs : List V}, VReps B H es vs → VReps (⟨A1.av, B.ad, B.dd⟩ : A0) H es vs := by
          intro es
          induction es with
          | nil =>
            intro vs h
            cases vs with
            | nil => trivial
            | cons v vs => exact h.elim
          | cons e es ih =>
            intro vs h
            cases vs with
            | nil => exact h.elim
            | cons v vs =>
              refine ⟨?_, ih h.2⟩
              have h1 := h.1
              cases e with
              | und => trivial
              | val d => exact mvR h1
              | own k => exact h1
        refine ⟨fun a z => R.dom a (sub a z), R.nd, fun a ha z => R.sep a ha (by rw [hav]; exact .inl z), R.len, R.gn, R.all, t2.ereps R1.env, fun k mo a h1 h2 => ?_⟩
        have q := R.sto k mo a h1 h2
        cases mo with
        | lst xs => obtain ⟨vs, e, rr⟩ := q; exact ⟨vs, e, mvs rr⟩
        | dK kvs => obtain ⟨vs, e, rr⟩ := q; exact ⟨vs, e, mvL rr⟩
        | dT kvs => obtain ⟨vs, e, rr⟩ := q; exact ⟨vs, e, mvL rr⟩
        | gone => trivial
      · have sub : ∀ a, (⟨A1.av, B.ad, B.dd⟩ : A0).no a → B.no a := fun a z => z.elim (fun q => .inl (by rw [hav]; exact .inl q)) fun q => .inr q
        refine (show Rep _ H (.ref D) (.list _) from Rep.lst (fun z => ?_) hacc (rep.move (fun _ _ e _ => e) fun a o _ h z => h (sub a z)))
        rcases z with z | z
        · exact nD (.inl z)
        · exact nlv z
end
end DL
end
section
set_option Elab.async false
set_option linter.all false
set_option maxRecDepth 100000
set_option autoImplicit false
/-! Data layer, part 7: list comprehensions, statements. -/
namespace DL
open L2 PySem PySem.Spec PyProof.Rows
/-- a comprehension's block -/
def Kx.blk (c : Kx) (scope : Scope) : Kx := ⟨c.W, c.N, relS scope c.sc, c.k, false, fun x => scope.names.lookup x == some .cell, c.calm, fun _ _ _ _ => False⟩
theorem ok_blk {c : Kx} {X : Cx} (ok : c.Ok X) (scope : Scope) (s : Shared) (H : Hp) (C : Addr) (cl : List (Str × Addr)) (fp : List Addr) : (c.blk scope).Ok (X.blk s H scope (compEnvC scope cl C X.env) fp) where
  prog := ok.prog
  w := ok.w
  K := ok.K
  mg := ok.mg
  base := ok.base
  N := ok.N
  sc := by
    show relS scope X.env.scope = relS scope c.sc
    rw [ok.sc]
  gu := ok.gu
  un := ok.un
  room := ok.room
  calm := ok.calm
  fn := fun x h => h
  stk := fun h => by cases h
  tk := takes0
  po := PassesOwn.never
section
variable {X : Cx} {c : Kx} {Γ Γ' Γ1 : List EV} {S S1 S2 S3 S' : List MO} {a b d e tg iter elt : Expr} {es ts : List Expr} {pos : Pos} {x : Str} {scope : Scope} {own : List (Str × Nat)} {items : List EV} {St : Nat → List MO}
/-- readings that hold for each of many data -/
def uG (c : Kx) (tg : Expr) : TG := fun v σ H Q => ∃ Γ0 Sx x Γ1 ix, DG c tg Γ0 Sx x Γ1 ix ∧ tDG Γ0 Sx x Γ1 ix v σ H Q
def uE (c : Kx) (e : Expr) : TE := fun σ H Q => ∃ Γ1 Sx x Sy, DE c e Γ1 Sx x Sy ∧ tD Γ1 Sx x Sy σ H Q
def uT (c : Kx) (e : Expr) : TT := fun σ H Q => ∃ Γ1 Sx x Sy, DT c e Γ1 Sx x Sy ∧ tDT Γ1 Sx x Sy σ H Q
def uS (c : Kx) (b : List Stmt) : TS := fun D σ H => ∃ Γ1 Sx o, DSs c b Γ1 Sx o ∧ tS c Γ1 Sx o D σ H
theorem pg_u (ok : c.Ok X) : PG X tg (uG c tg) := ⟨fun pins s σ H v u Q I r ⟨Γ0, Sx, x, Γ1, ix, h, q⟩ => (h X ok).run pins s σ H v u Q I r q⟩
theorem pe_u (ok : c.Ok X) : PE X e (uE c e) := ⟨fun pins s σ H Q I ⟨Γ1, Sx, x, Sy, h, q⟩ => (h X ok).run pins s σ H Q I q⟩
theorem pt_u (ok : c.Ok X) : PT X e (uT c e) := ⟨fun pins s σ H Q I ⟨Γ1, Sx, x, Sy, h, q⟩ => (h X ok).run pins s σ H Q I q⟩
theorem pss_u {bs : List Stmt} (ok : c.Ok X) : PSs X bs (uS c bs) := ⟨fun pins s σ H D I ⟨Γ1, Sx, o, h, q⟩ => (h X ok).run pins s σ H D I q⟩
/-- one turn of a comprehension without tests; with one test -/
def LcTurn (c : Kx) (scope : Scope) (own : List (Str × Nat)) (tg elt : Expr) (Γ : List EV) (x : EV) (Sx : List MO) (d : PyData) (Sy : List MO) : Prop :=
  ∃ Γ1 ix, DG (c.blk scope) tg (wipeE Γ (own.map (·.2))) Sx x Γ1 ix ∧ (∀ j, j ∈ ix → j ∈ own.map (·.2)) ∧ wipeE Γ1 (own.map (·.2)) = wipeE Γ (own.map (·.2)) ∧ DE (c.blk scope) elt Γ1 Sx (.val d) Sy
def LcTurnF (c : Kx) (scope : Scope) (own : List (Str × Nat)) (tg elt test : Expr) (Γ : List EV) (x : EV) (Sx : List MO) (d : Option PyData) (Sy : List MO) : Prop :=
  ∃ Γ1 ix, DG (c.blk scope) tg (wipeE Γ (own.map (·.2))) Sx x Γ1 ix ∧ (∀ j, j ∈ ix → j ∈ own.map (·.2)) ∧ wipeE Γ1 (own.map (·.2)) = wipeE Γ (own.map (·.2)) ∧
    match d with
    | some d => ∃ Sm, DT (c.blk scope) test Γ1 Sx true Sm ∧ DE (c.blk scope) elt Γ1 Sm (.val d) Sy
    | none => DT (c.blk scope) test Γ1 Sx false Sy
theorem lc_read {r : Nat → Option PyData} (hlen : items.length ≤ 16777215) (body : ∀ i x, items[i]? = some x → ∃ d, r i = some d ∧ LcTurn c scope own tg elt Γ x (St i) d (St (i + 1))) :
    ∀ σ H Q, tD Γ S (dL ((List.range items.length).filterMap r)) (St items.length) σ H Q → tLc (tDI Γ S items (St 0)) (uG (c.blk scope) tg) tYes (uE (c.blk scope) elt) (own.map (·.2)) σ H Q := fun σ H Q ⟨A, R, k⟩ =>
  ⟨A, R, fun A1 H1 J t1 R1 hJ D hD => lc_run (St := St) (r := r) R1 hJ hD hlen (fun i x B Hb v K1 K2 hx Rb vb k1 k2 => by
    obtain ⟨dd, hr, Γ1, ix, hg, hix, hw, he⟩ := body i x hx
    refine ⟨_, _, _, _, _, hg, B, Rb, vb, fun σ' R' hl hj => ⟨wipe_of_wiped hl hj hix, ?_⟩⟩
    show if true = true then uE (c.blk scope) elt σ' Hb K1 else K2 Hb
    rw [if_pos rfl]
    refine ⟨_, _, _, _, he, B, R', fun B' y H' t' R'' vy => k1 B' y H' dd hr t' ?_ vy⟩
    have q := R''.wipe (own.map (·.2))
    rw [hw, wipe_of_wiped hl hj hix] at q
    exact q) fun A2 H2 t2 R2 vv => k A2 (.ref D) H2 (t1.trans t2) R2 vv⟩
theorem lc_readF {test : Expr} {r : Nat → Option PyData} (hlen : items.length ≤ 16777215) (body : ∀ i x, items[i]? = some x → LcTurnF c scope own tg elt test Γ x (St i) (r i) (St (i + 1))) :
    ∀ σ H Q, tD Γ S (dL ((List.range items.length).filterMap r)) (St items.length) σ H Q → tLc (tDI Γ S items (St 0)) (uG (c.blk scope) tg) (uT (c.blk scope) test) (uE (c.blk scope) elt) (own.map (·.2)) σ H Q := fun σ H Q ⟨A, R, k⟩ =>
  ⟨A, R, fun A1 H1 J t1 R1 hJ D hD => lc_run (St := St) (r := r) R1 hJ hD hlen (fun i x B Hb v K1 K2 hx Rb vb k1 k2 => by
    obtain ⟨Γ1, ix, hg, hix, hw, he⟩ := body i x hx
    refine ⟨_, _, _, _, _, hg, B, Rb, vb, fun σ' R' hl hj => ⟨wipe_of_wiped hl hj hix, ?_⟩⟩
    cases hr : r i with
    | some dd =>
      rw [hr] at he
      obtain ⟨Sm, h1, h2⟩ := he
      refine ⟨_, _, _, _, h1, B, R', fun B1 H1' t1' R1' => ?_⟩
      show if true = true then uE (c.blk scope) elt σ' H1' K1 else K2 H1'
      rw [if_pos rfl]
      refine ⟨_, _, _, _, h2, B1, R1', fun B' y H' t' R'' vy => k1 B' y H' dd hr (t1'.trans t') ?_ vy⟩
      have q := R''.wipe (own.map (·.2))
      rw [hw, wipe_of_wiped hl hj hix] at q
      exact q
    | none =>
      rw [hr] at he
      refine ⟨_, _, _, _, he, B, R', fun B1 H1' t1' R1' => ?_⟩
      show if false = true then uE (c.blk scope) elt σ' H1' K1 else K2 H1'
      rw [if_neg Bool.false_ne_true]
      refine k2 B1 H1' hr t1' ?_
      have q := R1'.wipe (own.map (·.2))
      rw [hw, wipe_of_wiped hl hj hix] at q
      exact q) fun A2 H2 t2 R2 vv => k A2 (.ref D) H2 (t1.trans t2) R2 vv⟩
theorem range_res {res : List PyData} : (List.range res.length).filterMap (fun i => res[i]?) = res := by
  induction res with
  | nil => rfl
  | cons x xs ih =>
    rw [List.length_cons, List.range_succ_eq_map, List.filterMap_cons, List.filterMap_map]
    show x :: List.filterMap (fun i => xs[i]?) (List.range xs.length) = x :: xs
    rw [ih]
theorem e_lc {res : List PyData} (hc : c.calm = true) (hnd : c.N.Nodup) (hi : DI c tg iter Γ S items (St 0)) (hres : res.length = items.length) (hlen : items.length ≤ 16777215)
    (body : ∀ (i : Nat) x d, items[i]? = some x → res[i]? = some d → LcTurn c scope own tg elt Γ x (St i) d (St (i + 1))) (hb : blkC c.N c.sc scope own = true := by with_unfolding_all rfl) (hs : ∀ (env : Env) x, foldedSetIterable iter env x = pure x := by intro _ _; rfl) :
    DE c (.ListComp elt [⟨tg, iter, [], 0⟩] scope pos) Γ S (dL res) (St items.length) := fun X ok => by
  have hr := lc_read (c := c) (Γ := Γ) (S := S) (tg := tg) (elt := elt) (scope := scope) (own := own) (items := items) (St := St) (r := fun i => res[i]?) hlen fun i x hx => by
    have hi' : i < res.length := by
      rw [hres]
      exact (List.getElem?_eq_some_iff.mp hx).1
    exact ⟨res[i], List.getElem?_eq_getElem hi', body i x _ hx (List.getElem?_eq_getElem hi')⟩
  rw [← hres] at hr
  rw [range_res] at hr
  rw [hres] at hr
  exact PE_imp (pe_lc (ok.calm hc) (by rw [ok.N]; exact hnd) (hi X ok) (by rw [ok.N, ok.sc]; exact blkOk_by hb) (fun s H C cl fp => pg_u (ok_blk ok scope s H C cl fp)) (fun _ _ _ _ _ => pts_nil) (fun s H C cl fp => pe_u (ok_blk ok scope s H C cl fp)) (hs X.env)) hr
theorem e_lcF {test : Expr} {r : Nat → Option PyData} (hc : c.calm = true) (hnd : c.N.Nodup) (hi : DI c tg iter Γ S items (St 0)) (hlen : items.length ≤ 16777215)
    (body : ∀ i x, items[i]? = some x → LcTurnF c scope own tg elt test Γ x (St i) (r i) (St (i + 1))) (hb : blkC c.N c.sc scope own = true := by with_unfolding_all rfl) (hs : ∀ (env : Env) x, foldedSetIterable iter env x = pure x := by intro _ _; rfl) :
    DE c (.ListComp elt [⟨tg, iter, [test], 0⟩] scope pos) Γ S (dL ((List.range items.length).filterMap r)) (St items.length) := fun X ok =>
  PE_imp (pe_lc (ok.calm hc) (by rw [ok.N]; exact hnd) (hi X ok) (by rw [ok.N, ok.sc]; exact blkOk_by hb) (fun s H C cl fp => pg_u (ok_blk ok scope s H C cl fp)) (fun s H C cl fp => pts_one (pt_u (ok_blk ok scope s H C cl fp))) (fun s H C cl fp => pe_u (ok_blk ok scope s H C cl fp)) (hs X.env)) (lc_readF (S := S) hlen body)

/-! ### statements -/
theorem Meets.tr {A A1 : A0} {H H1 : Hp} {D : Ends} {o : Out} (h : Meets c A H D o) (t : Tr A A1 H H1) : Meets c A1 H1 D o := by
  cases o with
  | nx Γ' S' => exact fun A' σ' H' t' R => h A' σ' H' (t.trans t') R
  | rt e S' => exact fun A' v σ' H' Γ' t' R x => h A' v σ' H' Γ' (t.trans t') R x
  | ex cls S' => exact fun A' σ' H' Γ' t' R => h A' σ' H' Γ' (t.trans t') R
  | bk Γ' S' => exact fun A' σ' H' t' R => h A' σ' H' (t.trans t') R
  | ct Γ' S' => exact fun A' σ' H' t' R => h A' σ' H' (t.trans t') R
variable {st : Stmt} {rest bs bs' : List Stmt} {o : Out}
theorem ss_nil : DSs c [] Γ S (.nx Γ S) := fun X ok => PSs_imp pss_nil fun D σ H ⟨A, R, k⟩ => k A σ H Tr.refl R
theorem ss_cons (h : DS c st Γ S (.nx Γ1 S1)) (h2 : DSs c rest Γ1 S1 o) : DSs c (st :: rest) Γ S o := fun X ok =>
  PSs_imp (pss_cons (h X ok) (h2 X ok)) fun D σ H ⟨A, R, k⟩ => ⟨A, R, fun A' σ' H' t R' => ⟨A', R', k.tr t⟩⟩
def Out.stops : Out → Bool
  | .nx _ _ => false
  | _ => true
theorem ss_stop (h : DS c st Γ S o) (hs : o.stops = true := by rfl) : DSs c (st :: rest) Γ S o := fun X ok =>
  PSs_imp (pss_cons (h X ok) pss_never) fun D σ H ⟨A, R, k⟩ => ⟨A, R, by
    cases o with
    | nx Γ' S' => cases hs
    | rt e S' => exact k
    | ex cls S' => exact k
    | bk Γ' S' => exact k
    | ct Γ' S' => exact k⟩
theorem ss_one (h : DS c st Γ S o) : DSs c [st] Γ S o := fun X ok => pss_one (h X ok)
theorem s_pass : DS c (.Pass pos) Γ S (.nx Γ S) := fun X ok => PS_imp ps_pass fun D σ H ⟨A, R, k⟩ => k A σ H Tr.refl R
theorem s_break : DS c (.Break pos) Γ S (.bk Γ S) := fun X ok => PS_imp ps_break fun D σ H ⟨A, R, k⟩ => k A σ H Tr.refl R
theorem s_cont : DS c (.Continue pos) Γ S (.ct Γ S) := fun X ok => PS_imp ps_continue fun D σ H ⟨A, R, k⟩ => k A σ H Tr.refl R
theorem s_ret {v : EV} (h : DE c e Γ S v S1) : DS c (.Return (some e) pos) Γ S (.rt v S1) := fun X ok => PS_imp (ps_ret (h X ok)) fun D σ H ⟨A, R, k⟩ => ⟨A, R, fun A1 v H1 t1 R1 x1 => k A1 v σ H1 Γ t1 R1 x1⟩
theorem s_retN : DS c (.Return none pos) Γ S (.rt dN S) := fun X ok => PS_imp ps_retN fun D σ H ⟨A, R, k⟩ => k A .non σ H Γ Tr.refl R Rep.non
theorem s_retX {cls : Value} (h : DX c e Γ S cls S1) : DS c (.Return (some e) pos) Γ S (.ex cls S1) := fun X ok => PS_imp (ps_ret (h X ok)) fun D σ H ⟨A, R, k⟩ => ⟨A, R, fun A1 H1 t1 R1 => k A1 σ H1 Γ t1 R1⟩
theorem s_expr {v : EV} (h : DE c e Γ S v S1) (hs : ∀ env : Env, swapsWith e none pos.line env = pure false := by intro _; rfl) : DS c (.Expr e pos) Γ S (.nx Γ S1) := fun X ok =>
  PS_imp (ps_expr (h X ok) (hs X.env)) fun D σ H ⟨A, R, k⟩ => ⟨A, R, fun A1 v H1 t1 R1 x1 => k A1 σ H1 t1 R1⟩
theorem s_exprX {cls : Value} (h : DX c e Γ S cls S1) (hs : ∀ env : Env, swapsWith e none pos.line env = pure false := by intro _; rfl) : DS c (.Expr e pos) Γ S (.ex cls S1) := fun X ok =>
  PS_imp (ps_expr (h X ok) (hs X.env)) fun D σ H ⟨A, R, k⟩ => ⟨A, R, fun A1 H1 t1 R1 => k A1 σ H1 Γ t1 R1⟩
theorem s_ifT (ht : DT c d Γ S true S1) (h : DSs c bs Γ S1 o) : DS c (.If d bs bs' pos) Γ S o := fun X ok =>
  PS_imp (ps_if (ht X ok) (h X ok) pss_never) fun D σ H ⟨A, R, k⟩ => ⟨A, R, fun A1 H1 t1 R1 => by
    show if true = true then _ else _
    rw [if_pos rfl]
    exact ⟨A1, R1, k.tr t1⟩⟩
theorem s_ifF (ht : DT c d Γ S false S1) (h : DSs c bs' Γ S1 o) : DS c (.If d bs bs' pos) Γ S o := fun X ok =>
  PS_imp (ps_if (ht X ok) pss_never (h X ok)) fun D σ H ⟨A, R, k⟩ => ⟨A, R, fun A1 H1 t1 R1 => by
    show if false = true then _ else _
    rw [if_neg Bool.false_ne_true]
    exact ⟨A1, R1, k.tr t1⟩⟩
theorem s_if {k : Bool} (ht : DT c d Γ S k S1) (h1 : k = true → DSs c bs Γ S1 o) (h2 : k = false → DSs c bs' Γ S1 o) : DS c (.If d bs bs' pos) Γ S o := by
  cases k with
  | true => exact s_ifT ht (h1 rfl)
  | false => exact s_ifF ht (h2 rfl)
theorem s_asg {v : EV} {ix : List Nat} (h : DE c e Γ S v S1) (hg : DG c tg Γ S1 v Γ' ix) (hs : ∀ env : Env, swapsWithSole [tg] e pos.line env = pure false := by intro _; rfl) (hw : ∀ env : Env, swappedStores [tg] e env = pure none := by intro _; rfl)
    (h1 : ∀ env : Env, (assignEach [tg] env).map (·.2) = [assign tg env] := by intro _; rfl) : DS c (.Assign [tg] e pos) Γ S (.nx Γ' S1) := fun X ok =>
  PS_imp (ps_asg (h X ok) (hg X ok) (hs X.env) (hw X.env) (h1 X.env)) fun D σ H ⟨A, R, k⟩ => ⟨A, R, fun A1 v H1 t1 R1 x1 => ⟨A1, R1, x1, fun σ' R' _ _ => k A1 σ' H1 t1 R'⟩⟩
/-- name = e -/
theorem s_set (i : Nat) {v : EV} {p' : Pos} (hnd : c.N.Nodup) (h : DE c e Γ S v S1) (hN : c.N[i]? = some x := by rfl) (hst : Sto c x := by first | exact Or.inl rfl | exact Or.inr ⟨rfl, rfl⟩) (hΓ : Γ.set i v = Γ' := by rfl)
    (hs : ∀ env : Env, env.scope = c.sc → swapsWith e (some (.Name x p')) pos.line env = pure false := by intro env h; first | rfl | (simp only [swapsWith, Env.kindOf, h]; rfl)) : DS c (.Assign [.Name x p'] e pos) Γ S (.nx Γ' S1) := fun X ok =>
  PS_imp (ps_set (i := i) (by rw [ok.N]; exact hnd) (by rw [ok.N]; exact hN) (hst.loc ok) (h X ok) (hs X.env ok.sc) (hst.fn ok)) fun D σ H ⟨A, R, k⟩ => ⟨A, R, fun A1 v H1 t1 R1 x1 => k A1 _ H1 t1 (by rw [← hΓ]; exact R1.set x1 i)⟩
theorem s_setX {cls : Value} (i : Nat) {p' : Pos} (hnd : c.N.Nodup) (h : DX c e Γ S cls S1) (hN : c.N[i]? = some x := by rfl) (hst : Sto c x := by first | exact Or.inl rfl | exact Or.inr ⟨rfl, rfl⟩)
    (hs : ∀ env : Env, env.scope = c.sc → swapsWith e (some (.Name x p')) pos.line env = pure false := by intro env h; first | rfl | (simp only [swapsWith, Env.kindOf, h]; rfl)) : DS c (.Assign [.Name x p'] e pos) Γ S (.ex cls S1) := fun X ok =>
  PS_imp (ps_set (i := i) (by rw [ok.N]; exact hnd) (by rw [ok.N]; exact hN) (hst.loc ok) (h X ok) (hs X.env ok.sc) (hst.fn ok)) fun D σ H ⟨A, R, k⟩ => ⟨A, R, fun A1 H1 t1 R1 => k A1 σ H1 Γ t1 R1⟩
/-- name = [..] on one line, the name a plain local -/
theorem s_lc (j : Nat) {res : List PyData} {p' : Pos} (hc : c.calm = true) (hnd : c.N.Nodup) (hi : DI c tg iter Γ S items (St 0)) (hres : res.length = items.length) (hlen : items.length ≤ 16777215)
    (body : ∀ (i : Nat) x d, items[i]? = some x → res[i]? = some d → LcTurn c scope own tg elt Γ x (St i) d (St (i + 1))) (hb : blkC c.N c.sc scope own = true := by with_unfolding_all rfl)
    (hN : c.N[j]? = some x := by rfl) (hst : c.sc.names.lookup x = some .local := by rfl) (hk : c.sc.kind = .function := by rfl) (hln : (p'.line == pos.line) = true := by rfl) (hna : (scope.names.any fun (n, k) => n == x && (k == .local || k == .cell)) = false := by with_unfolding_all rfl)
    (hΓ : Γ.set j (dL res) = Γ' := by rfl) (hs : ∀ (env : Env) x, foldedSetIterable iter env x = pure x := by intro _ _; rfl) {spos : Pos} (hsl : spos.line = spos.line := by rfl) :
    DS c (.Assign [.Name x p'] (.ListComp elt [⟨tg, iter, [], 0⟩] scope pos) spos) Γ S (.nx Γ' (St items.length)) := fun X ok => by
  have hr := lc_read (c := c) (Γ := Γ) (S := S) (tg := tg) (elt := elt) (scope := scope) (own := own) (items := items) (St := St) (r := fun i => res[i]?) hlen fun i x hx => by
    have hi' : i < res.length := by
      rw [hres]
      exact (List.getElem?_eq_some_iff.mp hx).1
    exact ⟨res[i], List.getElem?_eq_getElem hi', body i x _ hx (List.getElem?_eq_getElem hi')⟩
  rw [← hres] at hr
  rw [range_res] at hr
  rw [hres] at hr
  refine PS_imp (ps_setLc (i := j) (ok.calm hc) (by rw [ok.N]; exact hnd) (by rw [ok.N]; exact hN) (by rw [ok.sc]; exact hst) (sw_true (by rw [ok.sc]; exact hk) (by rw [ok.sc]; exact hst) hln hna) (hi X ok) (by rw [ok.N, ok.sc]; exact blkOk_by hb) (fun s H C cl fp => pg_u (ok_blk ok scope s H C cl fp)) (fun _ _ _ _ _ => pts_nil)
    (fun s H C cl fp => pe_u (ok_blk ok scope s H C cl fp)) (hs X.env)) fun D σ H ⟨A, R, k⟩ => hr σ H _ ⟨A, R, fun A1 v H1 t1 R1 x1 => k A1 _ H1 t1 (by rw [← hΓ]; exact R1.set x1 j)⟩
theorem s_lcF (j : Nat) {test : Expr} {r : Nat → Option PyData} {p' : Pos} (hc : c.calm = true) (hnd : c.N.Nodup) (hi : DI c tg iter Γ S items (St 0)) (hlen : items.length ≤ 16777215)
    (body : ∀ i x, items[i]? = some x → LcTurnF c scope own tg elt test Γ x (St i) (r i) (St (i + 1))) (hb : blkC c.N c.sc scope own = true := by with_unfolding_all rfl)
    (hN : c.N[j]? = some x := by rfl) (hst : c.sc.names.lookup x = some .local := by rfl) (hk : c.sc.kind = .function := by rfl) (hln : (p'.line == pos.line) = true := by rfl) (hna : (scope.names.any fun (n, k) => n == x && (k == .local || k == .cell)) = false := by with_unfolding_all rfl)
    (hΓ : Γ.set j (dL ((List.range items.length).filterMap r)) = Γ' := by rfl) (hs : ∀ (env : Env) x, foldedSetIterable iter env x = pure x := by intro _ _; rfl) {spos : Pos} :
    DS c (.Assign [.Name x p'] (.ListComp elt [⟨tg, iter, [test], 0⟩] scope pos) spos) Γ S (.nx Γ' (St items.length)) := fun X ok => by
  refine PS_imp (ps_setLc (i := j) (ok.calm hc) (by rw [ok.N]; exact hnd) (by rw [ok.N]; exact hN) (by rw [ok.sc]; exact hst) (sw_true (by rw [ok.sc]; exact hk) (by rw [ok.sc]; exact hst) hln hna) (hi X ok) (by rw [ok.N, ok.sc]; exact blkOk_by hb) (fun s H C cl fp => pg_u (ok_blk ok scope s H C cl fp)) (fun s H C cl fp => pts_one (pt_u (ok_blk ok scope s H C cl fp)))
    (fun s H C cl fp => pe_u (ok_blk ok scope s H C cl fp)) (hs X.env)) fun D σ H ⟨A, R, k⟩ => lc_readF (S := S) hlen body σ H _ ⟨A, R, fun A1 v H1 t1 R1 x1 => k A1 _ H1 t1 (by rw [← hΓ]; exact R1.set x1 j)⟩
end
end DL
end
section
set_option Elab.async false
set_option linter.all false
set_option maxRecDepth 100000
set_option autoImplicit false
/-! Data layer, part 8: loops, stores, raise. -/
namespace DL
open L2 PySem PySem.Spec PyProof.Rows
section
variable {X : Cx} {c : Kx} {Γ Γ' Γ1 : List EV} {S S1 S2 S3 S' : List MO} {a b d e tg iter elt : Expr} {es ts : List Expr} {pos p : Pos} {x : Str} {items : List EV} {st : Stmt} {rest bs bs' : List Stmt} {o : Out} {Γs : Nat → List EV} {St : Nat → List MO}

/-! ### for -/
/-- turn i of a loop's body: the next turn's state, or how the loop is left -/
def Turn1 (c : Kx) (tg : Expr) (bs : List Stmt) (Γ : List EV) (S : List MO) (x : EV) (o : Out) : Prop := ∃ Γ1 ix, DG c tg Γ S x Γ1 ix ∧ DSs c bs Γ1 S o
theorem s_for_core {m : Nat} (hc : c.calm = true) (hi : DI c tg iter Γ S items (St 0)) (h0 : Γs 0 = Γ) (hm : m ≤ items.length)
    (body : ∀ i x, i < m → items[i]? = some x → Turn1 c tg bs (Γs i) (St i) x (.nx (Γs (i + 1)) (St (i + 1))) ∨ Turn1 c tg bs (Γs i) (St i) x (.ct (Γs (i + 1)) (St (i + 1))))
    (last : (m = items.length ∧ o = .nx (Γs m) (St m)) ∨ ∃ x, items[m]? = some x ∧ ((∃ e S', Turn1 c tg bs (Γs m) (St m) x (.rt e S') ∧ o = .rt e S') ∨ (∃ cl S', Turn1 c tg bs (Γs m) (St m) x (.ex cl S') ∧ o = .ex cl S') ∨ ∃ Γ' S', Turn1 c tg bs (Γs m) (St m) x (.bk Γ' S') ∧ o = .nx Γ' S'))
    (hs : ∀ (env : Env) x, foldedSetIterable iter env x = pure x := by intro _ _; rfl) : DS c (.For tg iter bs [] pos) Γ S o := fun X ok => by
  refine PS_imp (ps_for ok.po (ok.calm hc) (hi X ok) (pg_u ok) (pss_u (bs := bs) ok) (hs X.env)) fun D σ H ⟨A, R, k⟩ => ⟨A, R, fun A1 H1 J t1 R1 hJ => ?_⟩
  have k1 := k.tr t1
  subst h0
  refine ⟨fun i n σ' H' => n = m + 1 - i ∧ i ≤ m ∧ ∃ B, Tr A1 B H1 H' ∧ RS B (Γs i) (St i) σ' H', ⟨m + 1, rfl, Nat.zero_le _, A1, Tr.refl, R1⟩, ?_⟩
  rintro i n σ' H' ⟨rfl, hi', B, tB, RB⟩
  obtain ⟨it1, it2⟩ := hJ i B H' tB.w RB.dom
  by_cases hlt : i < m
  · have hx : items[i]? = some items[i] := List.getElem?_eq_getElem (by omega)
    obtain ⟨go, yl⟩ := it1 _ hx
    refine .inr ⟨go, fun σ2 H2 => ∃ B2, Tr A1 B2 H1 H2 ∧ RS B2 (Γs (i + 1)) (St (i + 1)) σ2 H2, fun σ2 H2 q => ⟨m + 1 - (i + 1), by omega, rfl, hlt, q⟩, fun v H2 y => ?_⟩
    obtain ⟨sm, vr⟩ := yl v H2 y
    have t2 : Tr A1 B H1 H2 := tB.trans (Tr.same sm)
    rcases body i _ hlt hx with ⟨Γ1, ix, hg, hb⟩ | ⟨Γ1, ix, hg, hb⟩
    · exact ⟨_, _, _, _, _, hg, B, RB.same sm, vr, fun σ3 R3 _ _ => ⟨_, _, _, hb, B, R3, fun A' σ4 H4 t4 R4 => ⟨A', t2.trans t4, R4⟩⟩⟩
    · exact ⟨_, _, _, _, _, hg, B, RB.same sm, vr, fun σ3 R3 _ _ => ⟨_, _, _, hb, B, R3, fun A' σ4 H4 t4 R4 => ⟨A', t2.trans t4, R4⟩⟩⟩
  · have e1 : i = m := by omega
    subst e1
    rcases last with ⟨hl, ho⟩ | ⟨x, hx, last⟩
    · subst ho
      exact .inl ⟨it2 (by omega), k1 B σ' H' tB RB⟩
    · obtain ⟨go, yl⟩ := it1 _ hx
      refine .inr ⟨go, fun _ _ => False, fun _ _ q => q.elim, fun v H2 y => ?_⟩
      obtain ⟨sm, vr⟩ := yl v H2 y
      have t2 : Tr A1 B H1 H2 := tB.trans (Tr.same sm)
      rcases last with ⟨ev, S', ⟨Γ1, ix, hg, hb⟩, ho⟩ | ⟨cl, S', ⟨Γ1, ix, hg, hb⟩, ho⟩ | ⟨Γ', S', ⟨Γ1, ix, hg, hb⟩, ho⟩
      · subst ho
        exact ⟨_, _, _, _, _, hg, B, RB.same sm, vr, fun σ3 R3 _ _ => ⟨_, _, _, hb, B, R3, fun A' v σ4 H4 Γ4 t4 R4 x4 => k1 A' v σ4 H4 Γ4 (t2.trans t4) R4 x4⟩⟩
      · subst ho
        exact ⟨_, _, _, _, _, hg, B, RB.same sm, vr, fun σ3 R3 _ _ => ⟨_, _, _, hb, B, R3, fun A' σ4 H4 Γ4 t4 R4 => k1 A' σ4 H4 Γ4 (t2.trans t4) R4⟩⟩
      · subst ho
        exact ⟨_, _, _, _, _, hg, B, RB.same sm, vr, fun σ3 R3 _ _ => ⟨_, _, _, hb, B, R3, fun A' σ4 H4 t4 R4 => k1 A' σ4 H4 (t2.trans t4) R4⟩⟩
/-- every turn goes on -/
theorem s_for (Γs : Nat → List EV) (St : Nat → List MO) (hc : c.calm = true) (hi : DI c tg iter Γ S items (St 0)) (h0 : Γs 0 = Γ)
    (body : ∀ i x, items[i]? = some x → Turn1 c tg bs (Γs i) (St i) x (.nx (Γs (i + 1)) (St (i + 1)))) (hs : ∀ (env : Env) x, foldedSetIterable iter env x = pure x := by intro _ _; rfl) :
    DS c (.For tg iter bs [] pos) Γ S (.nx (Γs items.length) (St items.length)) :=
  s_for_core (m := items.length) hc hi h0 (Nat.le_refl _) (fun i x _ hx => .inl (body i x hx)) (.inl ⟨rfl, rfl⟩) hs
/-- turn m returns -/
theorem s_forR (Γs : Nat → List EV) (St : Nat → List MO) {m : Nat} {xm v : EV} (hc : c.calm = true) (hi : DI c tg iter Γ S items (St 0)) (h0 : Γs 0 = Γ)
    (body : ∀ i x, i < m → items[i]? = some x → Turn1 c tg bs (Γs i) (St i) x (.nx (Γs (i + 1)) (St (i + 1)))) (hx : items[m]? = some xm) (last : Turn1 c tg bs (Γs m) (St m) xm (.rt v S')) (hs : ∀ (env : Env) x, foldedSetIterable iter env x = pure x := by intro _ _; rfl) :
    DS c (.For tg iter bs [] pos) Γ S (.rt v S') :=
  s_for_core (m := m) hc hi h0 (Nat.le_of_lt (List.getElem?_eq_some_iff.mp hx).1) (fun i x h hx => .inl (body i x h hx)) (.inr ⟨xm, hx, .inl ⟨v, S', last, rfl⟩⟩) hs
/-- turn m raises -/
theorem s_forE (Γs : Nat → List EV) (St : Nat → List MO) {m : Nat} {xm : EV} {cl : Value} (hc : c.calm = true) (hi : DI c tg iter Γ S items (St 0)) (h0 : Γs 0 = Γ)
    (body : ∀ i x, i < m → items[i]? = some x → Turn1 c tg bs (Γs i) (St i) x (.nx (Γs (i + 1)) (St (i + 1)))) (hx : items[m]? = some xm) (last : Turn1 c tg bs (Γs m) (St m) xm (.ex cl S')) (hs : ∀ (env : Env) x, foldedSetIterable iter env x = pure x := by intro _ _; rfl) :
    DS c (.For tg iter bs [] pos) Γ S (.ex cl S') :=
  s_for_core (m := m) hc hi h0 (Nat.le_of_lt (List.getElem?_eq_some_iff.mp hx).1) (fun i x h hx => .inl (body i x h hx)) (.inr ⟨xm, hx, .inr (.inl ⟨cl, S', last, rfl⟩)⟩) hs
/-- turn m breaks off -/
theorem s_forB (Γs : Nat → List EV) (St : Nat → List MO) {m : Nat} {xm : EV} (hc : c.calm = true) (hi : DI c tg iter Γ S items (St 0)) (h0 : Γs 0 = Γ)
    (body : ∀ i x, i < m → items[i]? = some x → Turn1 c tg bs (Γs i) (St i) x (.nx (Γs (i + 1)) (St (i + 1)))) (hx : items[m]? = some xm) (last : Turn1 c tg bs (Γs m) (St m) xm (.bk Γ' S')) (hs : ∀ (env : Env) x, foldedSetIterable iter env x = pure x := by intro _ _; rfl) :
    DS c (.For tg iter bs [] pos) Γ S (.nx Γ' S') :=
  s_for_core (m := m) hc hi h0 (Nat.le_of_lt (List.getElem?_eq_some_iff.mp hx).1) (fun i x h hx => .inl (body i x h hx)) (.inr ⟨xm, hx, .inr (.inr ⟨Γ', S', last, rfl⟩)⟩) hs

/-! ### while: n turns -/
theorem s_while (Γs : Nat → List EV) (St Sm : Nat → List MO) (n : Nat) (h0 : Γs 0 = Γ) (hS : St 0 = S) (ht : ∀ i, i < n → DT c d (Γs i) (St i) true (Sm i)) (hb : ∀ i, i < n → DSs c bs (Γs i) (Sm i) (.nx (Γs (i + 1)) (St (i + 1)))) (he : DT c d (Γs n) (St n) false (Sm n)) :
    DS c (.While d bs [] pos) Γ S (.nx (Γs n) (Sm n)) := fun X ok => by
  refine PS_imp (ps_while ok.po (pt_u (e := d) ok) (pss_u (bs := bs) ok)) fun D σ H ⟨A, R, k⟩ => ?_
  subst h0 hS
  refine ⟨fun m σ' H' => ∃ i, i ≤ n ∧ m = n - i ∧ ∃ B, Tr A B H H' ∧ RS B (Γs i) (St i) σ' H', ⟨n, 0, Nat.zero_le _, rfl, A, Tr.refl, R⟩, ?_⟩
  rintro m σ' H' ⟨i, hi, rfl, B, tB, RB⟩
  by_cases hlt : i < n
  · refine ⟨_, _, _, _, ht i hlt, B, RB, fun B1 H1 t1 R1 => ?_⟩
    refine (if_pos (rfl : true = true)).mpr ?_
    refine ⟨fun σ2 H2 => ∃ B2, Tr A B2 H H2 ∧ RS B2 (Γs (i + 1)) (St (i + 1)) σ2 H2, fun σ2 H2 q => ⟨n - (i + 1), by omega, i + 1, hlt, rfl, q⟩, ?_⟩
    exact ⟨_, _, _, hb i hlt, B1, R1, fun A' σ4 H4 t4 R4 => ⟨A', (tB.trans t1).trans t4, R4⟩⟩
  · have e1 : i = n := by omega
    subst e1
    refine ⟨_, _, _, _, he, B, RB, fun B1 H1 t1 R1 => ?_⟩
    exact (if_neg Bool.false_ne_true).mpr (k B1 σ' H1 (tB.trans t1) R1)

/-! ### several names at once -/
/-- an environment of a scope, for what is asked of a text alone -/
def envS (sc : Scope) : Env := envOfC "" sc 0 0 .none
theorem swapped_of {sc : Scope} {tgs : List Expr} {v : Expr} {r : Sem (Option (List Str))} (h : swappedStores tgs v (envS sc) = r) (env : Env) (he : env.scope = sc) : swappedStores tgs v env = r := by
  rw [← h]
  subst he
  rfl
theorem s_par (i j : Nat) {x y : Str} {v w : EV} {px py pt : Pos} {kt k2 : Nat} {pt2 : Pos} (hc : c.calm = true) (hnd : c.N.Nodup) (ha : DE c a Γ S v S1) (hb : DE c b Γ S1 w S2) (hi : c.N[i]? = some x := by rfl) (hj : c.N[j]? = some y := by rfl) (hij : i ≠ j := by decide)
    (hx : c.sc.names.lookup x = some .local := by rfl) (hy : c.sc.names.lookup y = some .local := by rfl) (hΓ : (Γ.set i v).set j w = Γ' := by rfl)
    (hw : swappedStores [.Tuple [.Name x px, .Name y py] kt pt] (.Tuple [a, b] k2 pt2) (envS c.sc) = pure (some [x, y]) := by rfl)
    (hs : ∀ env : Env, starEach [a, b] env = (false, eval a env) :: starEach [b] env := by intro _; rfl) (hs2 : ∀ env : Env, starEach [b] env = (false, eval b env) :: starEach [] env := by intro _; rfl) :
    DS c (.Assign [.Tuple [.Name x px, .Name y py] kt pt] (.Tuple [a, b] k2 pt2) pos) Γ S (.nx Γ' S2) := fun X ok =>
  PS_imp (ps_par (i := i) (j := j) (ok.calm hc) (by rw [ok.N]; exact hnd) (by rw [ok.N]; exact hi) (by rw [ok.N]; exact hj) hij (by rw [ok.sc]; exact hx) (by rw [ok.sc]; exact hy) (pa_cons (ha X ok) (pa_cons (hb X ok) pa_nil (hs2 X.env)) (hs X.env)) (swapped_of hw X.env ok.sc))
    fun D σ H ⟨A, R, k⟩ => ⟨A, R, fun A1 v1 H1 t1 R1 x1 => ⟨A1, R1, fun A2 v2 H2 t2 R2 x2 => ⟨v1, v2, rfl, k A2 _ H2 (t1.trans t2) (by rw [← hΓ]; exact (R2.set (t2.vrep x1) i).set x2 j)⟩⟩⟩

/-! ### changing a list of one's own -/
theorem vreps2 {A : A0} {H : Hp} {x y : EV} {ws : List V} (h : VReps A H [x, y] ws) : ∃ v w, ws = [v, w] ∧ VRep A H x v ∧ VRep A H y w := by
  match ws, h with
  | [v, w], h => exact ⟨v, w, rfl, h.1, h.2.1⟩
theorem put_own {A : A0} {σ : SL} {H : Hp} {Q : VK} {k : Nat} {q : Addr} {v : V} {z : EV} {xs : List EV} {vs : List V} (R : RS A Γ S σ H) (kk : Post A Γ (S.set k (.lst xs)) z σ H Q) (hq : A.ad[k]? = some q) {mo : MO} (hS : S[k]? = some mo) (hmo : mo ≠ .gone) (r : VReps A H xs vs)
    (hz : ∀ A' H', Tr A A' H H' → VRep A' H' z v) : Q v (upd H q (.lst vs)) := by
  have nd := R.live hS hmo
  have t0 : Tr A A H (upd H q (.lst vs)) := by
    refine ⟨rfl, ⟨[], by simp, by simp⟩, fun _ h => h, fun b u e hb => ?_, fun b u e => ?_⟩
    · rw [upd_ne (fun w => hb (by rw [w]; exact ⟨k, hq, nd⟩))]
      exact e
    · by_cases w : b = q
      · subst w
        exact ⟨_, upd_same⟩
      · exact ⟨u, by rw [upd_ne w]; exact e⟩
  obtain ⟨t2, R2⟩ := R.put (mo := .lst xs) hq nd ⟨vs, upd_same, t0.vreps r⟩
  exact kk A v _ t2 R2 (hz _ _ t2)
/-- what a call of a method with one argument asks of its text -/
def M1 (a b : Expr) (nm : Str) (apos pos : Pos) : Prop :=
  (∀ env : Env, attributeBase a nm env (eval a env) = eval a env) ∧
    (∀ env : Env, ((backTo pos (starEach [b] env)).all (fun x => !x.1) && (backToKw pos (keywordEach [] env)).all (fun x => x.1.isSome) && decide (([b] : List Expr).length + ([] : List Keyword).length + (if ([] : List Keyword).isEmpty then 0 else 1) < 30)) = true) ∧
      (apos.endLine == pos.line) = true ∧ (∀ env : Env, starEach [b] env = (false, eval b env) :: starEach [] env) ∧ ∀ env : Env, (backTo pos (starEach [] env)).any (·.1) = false
theorem e_append {k : Nat} {xs ys : List EV} {v : EV} {apos : Pos} (h : DE c a Γ S (.own k) S1) (hk1 : S1[k]? = some (.lst ys)) (h2 : DE c b Γ S1 v S2) (hk : S2[k]? = some (.lst xs)) (hl : xs.length ≤ 16777214) (hS : S2.set k (.lst (xs ++ [v])) = S3 := by rfl)
    (hm : M1 a b "append" apos pos := by exact ⟨fun _ => rfl, fun _ => rfl, rfl, fun _ => rfl, fun _ => rfl⟩) : DE c (.Call (.Attribute a "append" apos) [b] [] pos) Γ S dN S3 := fun X ok =>
  PE_imp (pe_bm PySem.F.plainAttrs_list PySem.F.slot_list_append PySem.F.type_list_append mt_append (h X ok) (pa_cons (h2 X ok) pa_nil (hm.2.2.2.1 X.env)) (hm.1 X.env) (hm.2.1 X.env) hm.2.2.1 (hm.2.2.2.1 X.env) (hm.2.2.2.2 X.env)) fun σ H Q ⟨A, R, q⟩ => ⟨A, R, fun A1 v1 H1 t1 R1 x1 => by
    obtain ⟨l, hl1, rfl⟩ := x1
    obtain ⟨vs1, e1, _⟩ := R1.sto k _ l hk1 hl1
    refine ⟨.inl ⟨rfl, vs1, .inl (Rd.of e1)⟩, A1, R1, fun A2 v2 H2 t2 R2 x2 => ?_⟩
    have hl2 := t2.at_ hl1
    obtain ⟨vs, e, r⟩ := R2.sto k _ l hk hl2
    subst hS
    refine ⟨l, vs, v2, rfl, rfl, e, ?_, ?_⟩
    · rw [← r.len]
      have := small_line (n := xs.length + 1) (by omega)
      omega
    · exact put_own R2 ((q.tr t1).tr t2) hl2 hk (by simp) (VReps.app r ⟨x2, trivial⟩) fun _ _ _ => Rep.non⟩
end
end DL
end
section
set_option Elab.async false
set_option linter.all false
set_option maxRecDepth 100000
set_option maxHeartbeats 1000000
set_option autoImplicit false
/-! Data layer, part 9: enumerate over a tuple. -/
namespace DL
open L2 PySem PySem.Spec PyProof.Rows
open Sem (wp)
theorem meets_enum1 {v : Value} {o : Obj} {H : Heap → Prop} (B : Begins v o H) :
    PySem.Meets (Builtin.«enumerate.__new__» ⟨[.type "enumerate", v], []⟩) (fun _ R s => H s.heap ∧
      R (.ok (.ret (.ref (s.heap.push o).objs.size))) { s with heap := (s.heap.push o).push { cls := .type "enumerate", data := .fields #[.none, .bool false, .ref s.heap.objs.size, rawInt 0, .none, .none] } }) :=
  .of_wp fun prog w A R s h => by
    obtain ⟨hp, g, d, tk, os⟩ := s; obtain ⟨h1, h⟩ := h
    have hsub := sub_enumerate
    have q1 : ∀ {A' : Around} {E : Value → Shared → Prop} {Q : Value → Shared → Prop}, Q (.ref hp.objs.size) ⟨hp.push o, g, d, tk, os⟩ → wpAny (model prog w) A' (pyIter v) Q E ⟨hp, g, d, tk, os⟩ :=
      fun q => B.iter prog w _ _ ⟨hp, g, d, tk, os⟩ _ h1 q
    wp_walk using q1
    refine wpAny_stack_any fun st => wpAny_pure ?_
    split
    · rename_i c _ _ _ _ _
      cases (c == Value.type "enumerate")
      · wp_walk using q1
        exact ⟨_, rfl, h⟩
      · wp_walk using q1
        exact ⟨_, rfl, h⟩
    · wp_walk using q1
      exact ⟨_, rfl, h⟩
section
variable {prog : Program} {w : World} {A : Around} {E : Value → Shared → Prop} {s : Shared}
theorem call_enum1 {v : Value} {o : Obj} {H : Heap → Prop} {Q : Value → Shared → Prop} (B : Begins v o H) (h1 : H s.heap)
    (h : ∀ h', IsEnum h' (s.heap.objs.size + 1) s.heap.objs.size 0 .none → h'.get? s.heap.objs.size = some o → h'.objs.size = s.heap.objs.size + 2 →
      (∀ b o, s.heap.get? b = some o → h'.get? b = some o) → Q (.ref (s.heap.objs.size + 1)) { s with heap := h' }) :
    wpAny (model prog w) A (call (.type "enumerate") [v]) Q E s := by
  refine callType_new F.called_enumerate (by decide) (F.typeCall_enumerate_1 _) (F.newCall_enumerate_1 _) (fun obj => F.args_object_init_2 obj _) F.entry_enumerate_new
    (meets_enum1 B) ⟨h1, ?_⟩
  have hz : (s.heap.push o).objs.size = s.heap.objs.size + 1 := Heap.size_push ..
  show _ ∧ _
  rw [hz]
  have he : IsEnum ((s.heap.push o).push { cls := .type "enumerate", data := .fields #[.none, .bool false, .ref s.heap.objs.size, rawInt 0, .none, .none] }) (s.heap.objs.size + 1) s.heap.objs.size 0 .none := by
    have := Heap.get?_push_size (s.heap.push o) (o := { cls := .type "enumerate", data := .fields #[.none, .bool false, .ref s.heap.objs.size, rawInt 0, .none, .none] }) rfl
    rw [hz] at this; exact this
  refine ⟨⟨_, he, rfl⟩, h _ he (Heap.get?_push_of_some _ (Heap.get?_push_size _ B.free)) (by rw [Heap.size_push, hz]) fun b o x => Heap.get?_push_of_some _ (Heap.get?_push_of_some _ x)⟩
end
/-- the tracked tuple at a, of n items, each item in a new pair -/
def IteA (a : Addr) (n : Nat) : It :=
  ⟨fun i H => ∃ (xs : List V) (x : V), H a = some (.tup xs) ∧ xs[i]? = some x ∧ xs.length = n, fun i H v H' => ∃ T x, v = .ref T ∧ H T = none ∧ H' = upd H T (.tup [.int (i : Nat), x]) ∧ ∀ xs, H a = some (.tup xs) → xs[i]? = some x,
    fun i H => ∃ xs : List V, H a = some (.tup xs) ∧ xs.length = n ∧ n ≤ i⟩
theorem turn_enumT {P : Program} {w : World} {K : PySem.W.Frag} {elts : List Expr} {kk : Nat} {tpos : Pos} (a e it : Addr) (n : Nat) :
    Turn P w K (.Tuple elts kk tpos) (IteA a n) [e, it] e (fun i h => (∃ old, IsEnum h e it ((i : Nat) : Int) old) ∧ h.IsTupleIter it a i ∧ e ≠ it ∧ i ≤ n) where
  mem := by simp
  obj := fun i h st b hb => by
    obtain ⟨⟨old, he⟩, ⟨o, ho, hc, hd⟩, _⟩ := st
    have e' : b = e ∨ b = it := by simpa using hb
    rcases e' with z | z
    · rw [z]; exact ⟨_, he, fun v q => nomatch q⟩
    · rw [z]; exact ⟨o, ho, fun v q => by rw [hd] at q; cases q⟩
  keep := fun i h h' st k => let ⟨⟨old, he⟩, hi, hne, hn⟩ := st; ⟨⟨old, k e (by simp) _ he⟩, hi.at fun o q => k it (by simp) o q, hne, hn⟩
  item := by
    intro X hP hw hK hc i pins s σ H E I hf st hg
    subst hP hw hK
    obtain ⟨⟨old, he⟩, hit, hne, hn⟩ := st
    obtain ⟨xs, x, hq, hx, hln⟩ := hg
    obtain ⟨its, rv, p, hz⟩ := I.tuple (SqT.of (K := X.K) hq)
    obtain ⟨u, hu, ru⟩ := rv.get hx
    have hel : e < s.heap.objs.size := Heap.lt_size he
    have hil : it < s.heap.objs.size := by obtain ⟨_, q, _⟩ := hit; exact Heap.lt_size q
    have ne : a ≠ e ∧ a ≠ it := by
      constructor
      · intro z
        have f := (hf e (by simp)).1
        rw [← z, hq] at f
        cases f
      · intro z
        have f := (hf it (by simp)).1
        rw [← z, hq] at f
        cases f
    have pT : s.heap.IsTuple a its.toArray := by
      first
        | exact p
        | exact p.isTuple
    have hlt : i < its.toArray.size := by
      have := (List.getElem?_eq_some_iff.mp hu).1
      simpa using this
    refine wpAny_pyNext_enum_itemD (Draws.tuple (A := X.A.in1) (I.ok.hd hc) it a ne.2 its.toArray) he ⟨hit, pT⟩ hlt hne (by simp [hne, Ne.symm ne.1]) fun x' h' tk hP ho hit' hT hsz hk => ?_
    have ex : x' = u := by
      have q : its.toArray[i]? = some x' := hP
      rw [show its.toArray[i]? = some u from by simpa using hu] at q
      exact (Option.some.inj q).symm
    subst ex
    refine ⟨_, rfl, wpAny_letOwnedTupleGo_enum (s := { s with heap := h', toks := tk + 1 }) ho fun h'' he' sb => ?_⟩
    have hT2 : h''.get? s.heap.objs.size = some { cls := .type "tuple", data := .seq #[.int i tk, x'] } := (sb.2 _ (Nat.ne_of_gt hel)).trans hT
    have new : ObjOk X.prog X.w (upd H s.heap.objs.size (.tup [.int (i : Nat), x])) h'' s.heap.objs.size (.tup [.int (i : Nat), x]) :=
      ⟨by show 2 ≤ sizeLine; decide, [.int i tk, x'], .cons ⟨_, rfl⟩ (.cons ru .nil), ⟨_, hT2, rfl, _, rfl⟩⟩
    have I1 : Inv X pins σ (upd H s.heap.objs.size (.tup [.int (i : Nat), x])) { s with heap := h'', toks := tk + 1 } :=
      I.turnedNew (ch := [e, it]) (fun b ob hb q => (sb.2 b (fun z => hb (by simp [z]))).trans (hk b ob (fun z => hb (by simp [z])) (fun z => hb (by simp [z])) q)) hf (Nat.le_refl _) new
    refine ⟨.ref s.heap.objs.size, _, I1, rfl, ⟨_, x, rfl, I.hok.fresh (Nat.le_refl _), rfl, fun ys hy => by rw [hq] at hy; cases hy; exact hx⟩, ⟨⟨x', ?_⟩, hit'.1.at fun o q => (sb.2 it (Ne.symm hne)).trans q, hne, ?_⟩, fun b hb => ?_⟩
    · have e1 : ((i + 1 : Nat) : Int) = (i : Int) + 1 := by omega
      rw [e1]; exact he'
    · have := rv.length
      simp at hlt
      omega
    · have hb' : b < s.heap.objs.size := by
        have e' : b = e ∨ b = it := by simpa using hb
        rcases e' with z | z
        · rw [z]; exact hel
        · rw [z]; exact hil
      rw [upd_ne (Nat.ne_of_lt hb')]
      exact (hf b hb).1
  done := by
    intro X hP hw hK hc i pins s σ H E I hf st hg
    subst hP hw hK
    obtain ⟨⟨old, he⟩, hit, hne, hn⟩ := st
    obtain ⟨xs, hq, hl, hx⟩ := hg
    obtain ⟨its, rv, p, hz⟩ := I.tuple (SqT.of (K := X.K) hq)
    obtain ⟨f0, f1, f2, f3, f4, f5⟩ := hf it (by simp)
    have hl2 := rv.length
    have ei : i = its.toArray.size := by
      simp
      omega
    have pT : s.heap.IsTuple a its.toArray := by
      first
        | exact p
        | exact p.isTuple
    have nit : a ≠ it := by
      intro z
      rw [← z, hq] at f0
      cases f0
    exact wpAny_pyNext_enum_endD (Draws.tuple (A := X.A.in1) (I.ok.hd hc) it a nit its.toArray) he (by rw [← ei]; exact ⟨hit, pT⟩) fun h' eb => ⟨rfl, I.turned (t' := s.toks) (fun b o hb q => eb b o hb q) f0 f1 f3 f4 f5⟩
  self := fun A i s Q E st h => let ⟨⟨_, he⟩, _⟩ := st; wpAny_pyIter_enum he h
def iEnumT (ta : TA) : TI := fun σ H R => ta σ H fun vs H1 => ∃ a xs, vs = [.ref a] ∧ H1 a = some (.tup xs) ∧ R (IteA a xs.length) H1
theorem pi_enumT {X : Cx} {e : Expr} {ta : TA} {p pos tpos : Pos} {elts : List Expr} {kk : Nat} (hg : Gl X "enumerate") (hm : X.mg "enumerate" = none) (ha : PA X [e] ta) (hs : starEach [e] X.env = [(false, eval e X.env)] := by rfl) :
    PI X (.Tuple elts kk tpos) (.Call (.Name "enumerate" p) [e] [] pos) (iEnumT ta) := by
  refine ⟨fun pins s σ H R I h => ?_⟩
  refine Call_ (ld_blt I hg hm boot_enumerate (PyProof.Rows.callWith_type1 (thn (ha.run pos pins s σ H _ I h) fun us s1 ⟨vs, H1, I1, r1, q1⟩ => ?_) hs rfl))
  obtain ⟨a, xs, ex, hq, q⟩ := q1
  subst ex
  cases r1 with
  | cons r rr =>
    cases rr
    cases r
    obtain ⟨its, rv, p', hz⟩ := I1.tuple (SqT.of (K := X.K) hq)
    have pT : s1.heap.IsTuple a its.toArray := by
      first
        | exact p'
        | exact p'.isTuple
    refine call_enum1 (begins_tuple a its.toArray) pT fun h' he hit hsz hk => wpAny_pyIter_enum he ?_
    have I2 : Inv X pins σ H1 { s1 with heap := h' } := I1.kept (t' := s1.toks) hk
    refine ⟨s1.heap.objs.size + 1, [s1.heap.objs.size + 1, s1.heap.objs.size], _, _, H1, rfl, I2, turn_enumT a (s1.heap.objs.size + 1) s1.heap.objs.size xs.length, ⟨⟨.none, he⟩, ⟨_, hit, rfl, rfl⟩, Nat.succ_ne_self _, Nat.zero_le _⟩, fun b hb => ?_, q⟩
    have e' : b = s1.heap.objs.size + 1 ∨ b = s1.heap.objs.size := by simpa using hb
    have hle : s1.heap.objs.size ≤ b := by
      rcases e' with z | z
      · rw [z]; exact Nat.le_add_right _ _
      · rw [z]; exact Nat.le_refl _
    exact I1.fpOk hle (I1.hok.fresh hle)
section
variable {c : Kx} {Γ : List EV} {S S1 : List MO} {e : Expr} {p pos : Pos}
theorem i_et {ds : List PyData} {elts : List Expr} {kk : Nat} {tpos : Pos} (hm : c.W.mg "enumerate" = none) (h : DE c e Γ S (dT ds) S1) (hg : c.sc.names.lookup ("enumerate" : Str) = some .globalImplicit := by rfl)
    (hs : ∀ env : Env, starEach [e] env = (false, eval e env) :: starEach [] env := by intro _; rfl) : DI c (.Tuple elts kk tpos) (.Call (.Name "enumerate" p) [e] [] pos) Γ S (enumE ds) S1 := fun X ok =>
  PI_imp (pi_enumT (gl_of ok hg) (by rw [ok.mg]; exact hm) (pa_cons (h X ok) pa_nil (hs X.env)) (hs X.env)) fun σ H R ⟨A, Rs, k⟩ => ⟨A, Rs, fun A1 v H1 t1 R1 x1 => by
    obtain ⟨q, vs, rfl, e1, r1, n1⟩ := tup_of x1
    refine ⟨q, vs, rfl, e1, k A1 H1 _ t1 R1 fun i A3 H3 t3 dm => ?_⟩
    have f1 : H3 q = some (.tup vs) := t3.keep _ _ e1 fun z => n1 (.inr z)
    have s1 := t3.repL r1
    refine ⟨fun x hx => ?_, fun hi => ⟨vs, f1, rfl, by rw [r1.len]; simpa [enumE] using hi⟩⟩
    obtain ⟨d, h1, rfl⟩ := enumE_get hx
    obtain ⟨u, hu, ru⟩ := s1.get h1
    refine ⟨⟨vs, u, f1, hu, rfl⟩, fun v H4 y => ?_⟩
    obtain ⟨T, x, rfl, hT, rfl, y1⟩ := y
    have z1 := y1 vs f1
    rw [hu] at z1
    cases z1
    exact ⟨same_upd hT, VRep.pair dm hT (Rep.int _) ru⟩⟩
end
end DL
end
section
set_option Elab.async false
set_option linter.all false
set_option maxRecDepth 100000
set_option maxHeartbeats 1000000
set_option autoImplicit false
/-! Data layer, part 10: list(reversed(a list)), a tuple times 0 or 1, powers of great numbers. -/
namespace DL
open L2 PySem PySem.Spec PyProof.Rows
section
variable {prog : Program} {w : World} {A : Around} {E : Value → Shared → Prop} {s : Shared}
theorem extend_rev {R : Result → Shared → Prop} {it l : Addr} {items : Array Value} (hh : A.handled = none) (hit : s.heap.IsRevIter it l ((items.size : Int) - 1)) (hl : s.heap.IsList l items) (hne : l ≠ it) (hn : items.size ≤ sizeLine) (S : Addr) (hSi : S ≠ it) (hSl : S ≠ l) (res : Value) (c₀ : Nat)
    (hS : s.heap.get? S = some { cls := .type "list", data := .seq #[] c₀ })
    (hR : ∀ h' tk acc' c', (∀ b o, b ≠ S → b ≠ it → s.heap.get? b = some o → h'.get? b = some o) → h'.get? S = some { cls := .type "list", dict := none, data := .seq acc' c', slots := #[] } →
      ItemsOf (fun i v => items[items.size - 1 - i]? = some v) acc' items.size → R (.ok (.ret res)) { s with heap := h', toks := tk }) :
    wpAny (model prog w) A.in1 (Builtin.List.listExtendWith (.ref S) (.ref it) res)
      (fun fin s' => match fin with | .done f => R (.ok f) s' | .again c' => c'.quiet = true ∧ codeAny (model prog w) A c' R s') (fun e s' => R (.error e) s') s := by
  have W := (Walks.listRev (prog := prog) (w := w) (A := A.in1) hh it l hne items).toS
  have hSf : S ∉ [it, l] := by simp only [List.mem_cons, List.not_mem_nil, or_false, not_or]; exact ⟨hSi, hSl⟩
  have hT : s.TypeIs (.ref it) "list_reverseiterator" := Heap.IsRevIter.typeIs hit
  have h1 : Builtin.List.listSameRef (.ref S) (.ref it) = false := by simp [Builtin.List.listSameRef, hSi]
  unfold Builtin.List.listExtendWith
  refine wpAny_bind (wpAny_typeOf hT ?_)
  rw [if_neg (by rw [h1]; decide)]
  refine wpAny_bind (wpAny_pyIter_revIter hit ?_)
  refine wpAny_bind (wpAny_holding ?_)
  unfold Builtin.List.listLengthHint
  refine wpAny_bind (wpAny_specialOf hT RT.nolen_lri ?_)
  show wpAny _ A.in1 (specialOf (Value.ref it) (Str.ofString "__length_hint__") >>= _) _ _ _
  refine wpAny_bind (wpAny_specialOf hT RT.hint_lri ?_)
  generalize hid : ("list_reverseiterator.__length_hint__" : String) = id0
  wp_delta
  rw [show splitId id0 = some ("list_reverseiterator", "__length_hint__") from by subst hid; decide +kernel]
  subst hid
  refine wpAny_bind (wpAny_isInstance (b := true) hT (by rw [isSubtype_type]; kernel_rfl) ?_)
  refine wpAny_pure ?_
  rw [if_neg (by decide)]
  have e0 : ((items.size : Nat) : Int) - 1 - ((0 : Nat) : Int) = (items.size : Int) - 1 := by omega
  refine wpAny_pure ⟨plainId_quiet F.plain_extend_loop _, codeAny_extend_loopS W hn _ hSf _ items.size 0 _ _ _ rfl (Nat.zero_le _) ⟨Nat.zero_le _, by rw [e0]; exact hit, hl⟩ hS (ItemsOf.nil _) fun s' acc' c' hm hS' hacc => ?_⟩
  rw [Moved.eq_with hm]
  refine hR s'.heap s'.toks acc' c' (fun b o hb hb2 e => hm.heap b o (fun hmem => ?_) e) hS' hacc
  rcases List.mem_cons.mp hmem with e' | hmem
  · exact hb e'
  · exact hb2 (List.mem_singleton.mp hmem)
theorem init_rev {R : Result → Shared → Prop} {it l : Addr} {items : Array Value} (hh : A.handled = none) (hit : s.heap.IsRevIter it l ((items.size : Int) - 1)) (hl : s.heap.IsList l items) (hne : l ≠ it) (hn : items.size ≤ sizeLine) (S : Addr) (hSi : S ≠ it) (hSl : S ≠ l)
    (hS : s.heap.get? S = some { cls := .type "list", data := .seq #[] })
    (hR : ∀ h' tk acc' c', (∀ b o, b ≠ S → b ≠ it → s.heap.get? b = some o → h'.get? b = some o) → h'.get? S = some { cls := .type "list", dict := none, data := .seq acc' c', slots := #[] } →
      ItemsOf (fun i v => items[items.size - 1 - i]? = some v) acc' items.size → R (.ok (.ret .none)) { s with heap := h', toks := tk }) :
    wpAny (model prog w) A.in1 (Builtin.«list.__init__» ⟨[.ref S, .ref it], []⟩)
      (fun fin s' => match fin with | .done f => R (.ok f) s' | .again c' => c'.quiet = true ∧ codeAny (model prog w) A c' R s') (fun e s' => R (.error e) s') s := by
  show wpAny _ _ (do let old ← Builtin.List.listItems (.ref S); Builtin.List.listUpdate (.ref S) (fun _ => #[]); letGo old.toList.reverse; Builtin.List.listExtendWith (.ref S) (.ref it) .none) _ _ s
  refine wpAny_bind ?_
  unfold Builtin.List.listItems
  refine wpAny_bind (wpAny_seqItems hS rfl (wpAny_pure ?_))
  show wpAny _ _ (updateSeq S (fun _ => #[]) >>= fun _ => letGo (#[] : Array Value).toList.reverse >>= fun _ => Builtin.List.listExtendWith (.ref S) (.ref it) .none) _ _ s
  refine wpAny_bind (wpAny_updateSeq hS rfl ?_)
  have hS₂ := Heap.get?_update_self (Obj.mapSeq (fun _ => (#[] : Array Value))) hS rfl
  have oth : ∀ b o, b ≠ S → s.heap.get? b = some o → (s.heap.update S (Obj.mapSeq (fun _ => (#[] : Array Value)))).get? b = some o :=
    fun b o hb e => (Heap.get?_update_other _ _ (Ne.symm hb)).trans e
  refine wpAny_bind (wpAny_letGo ?_)
  refine extend_rev hh (hit.at fun o e => oth it o (Ne.symm hSi) e) (hl.at fun o e => oth l o (Ne.symm hSl) e) hne hn S hSi hSl .none _ hS₂ fun h' tk acc' c' hk hS' hacc => ?_
  exact hR h' tk acc' c' (fun b o hb hb2 e => hk b o hb hb2 (oth b o hb e)) hS' hacc
theorem call_list_rev {Q : Value → Shared → Prop} {it l : Addr} {items : Array Value} (hh : A.handled = none) (hit : s.heap.IsRevIter it l ((items.size : Int) - 1)) (hl : s.heap.IsList l items) (hne : l ≠ it) (hn : items.size ≤ sizeLine)
    (hQ : ∀ h' tk acc' c', (∀ b o, b ≠ it → s.heap.get? b = some o → h'.get? b = some o) →
      h'.get? s.heap.objs.size = some { cls := .type "list", dict := none, data := .seq acc' c', slots := #[] } → ItemsOf (fun i v => items[items.size - 1 - i]? = some v) acc' items.size → Q (.ref s.heap.objs.size) { s with heap := h', toks := tk }) :
    wpAny (model prog w) A (call (.type "list") [.ref it]) Q E s := by
  refine callType_codes (Q₁ := fun obj s₁ => obj = .ref s.heap.objs.size ∧ s₁ = { s with heap := s.heap.push { cls := .type "list", data := .seq #[] } }) F.called_list (F.typeCall_list_1 _) F.entry_list_init
    (code_list_new _ ⟨rfl, rfl⟩) fun obj s₁ h₁ => ?_
  obtain ⟨rfl, rfl⟩ := h₁
  obtain ⟨oi, hoi, _⟩ := id hit
  obtain ⟨ol, hol, _⟩ := id hl
  have hS : (s.heap.push { cls := .type "list", data := .seq #[] }).get? s.heap.objs.size = some { cls := .type "list", data := .seq #[] } := Heap.get?_push_size _ rfl
  refine ⟨⟨_, hS, rfl⟩, F.args_list_init_2 _ _, init_rev (A := A.in1) hh (hit.at fun o e => Heap.get?_push_of_some _ e) (hl.push _) hne hn _ (Nat.ne_of_gt (Heap.lt_size hoi)) (Nat.ne_of_gt (Heap.lt_size hol)) hS fun h' tk acc' c' hk hS' hacc => ?_⟩
  exact ⟨rfl, hQ h' tk acc' c' (fun b o hb e => hk b o (Nat.ne_of_lt (Heap.lt_size e)) hb (Heap.get?_push_of_some _ e)) hS' hacc⟩
end
/-- list(reversed(x)), x a list: a new list -/
def tLstRev (K : PySem.W.Frag) (te : TE) : TE := fun σ H Q => te σ H fun v H1 => ∃ (a : Addr) (xs : List V), v = .ref a ∧ SqL K H1 a xs ∧ ∀ q, H1 q = none → Q (.ref q) (upd H1 q (.lst xs.reverse))
theorem pe_lstRev {X : Cx} {e : Expr} {te : TE} {p p2 pos pos2 : Pos} (hc : X.calm = true) (hg : Gl X "list") (hm : X.mg "list" = none) (hg2 : Gl X "reversed") (hm2 : X.mg "reversed" = none) (he : PE X e te)
    (hs : starEach [e] X.env = (false, eval e X.env) :: starEach [] X.env := by rfl)
    (hs2 : starEach [.Call (.Name "reversed" p2) [e] [] pos2] X.env = (false, eval (.Call (.Name "reversed" p2) [e] [] pos2) X.env) :: starEach [] X.env := by rfl) :
    PE X (.Call (.Name "list" p) [.Call (.Name "reversed" p2) [e] [] pos2] [] pos) (tLstRev X.K te) := by
  have bl : bootBuiltins ("list" : Str) = some (.type "list") := by decide +kernel
  refine ⟨fun pins s σ H Q I h => ?_⟩
  refine Call_ (ld_blt I hg hm bl (PyProof.Rows.callWith_type1 (args_cons (Call_ (ld_blt I hg2 hm2 PyProof.Rows.boot_reversed (PyProof.Rows.callWith_type1 (args_cons (thn (he.run pins s σ H _ I h) fun u s1 ⟨v, H1, I1, r1, q1⟩ => args_nil ?_) hs) hs rfl))) hs2) hs2 rfl))
  obtain ⟨a, xs, ev, hq, q⟩ := q1
  subst ev
  obtain rfl : u = Value.ref a := r1
  obtain ⟨its, rv, p', hz⟩ := I1.list hq
  refine call_reversed_list p'.isList (args_nil ?_)
  have k0 : ∀ b o, s1.heap.get? b = some o → (s1.heap.push (revObj a ((its.toArray.size : Int) - 1))).get? b = some o := fun b o e => Heap.get?_push_of_some _ e
  have I2 : Inv X pins σ H1 { s1 with heap := s1.heap.push (revObj a ((its.toArray.size : Int) - 1)) } := I1.kept (t' := s1.toks) k0
  obtain ⟨f0, f1, f2, f3, f4, f5⟩ := I1.fpOk (H' := H1) (b := s1.heap.objs.size) (Nat.le_refl _) (I1.hok.fresh (Nat.le_refl _))
  have hl := p'.isList
  obtain ⟨ol, hol, _⟩ := id hl
  have hne : a ≠ s1.heap.objs.size := Nat.ne_of_lt (Heap.lt_size hol)
  have hn : its.toArray.size ≤ sizeLine := by rw [List.size_toArray, ← rv.length]; exact hz
  refine call_list_rev (s := { s1 with heap := s1.heap.push (revObj a ((its.toArray.size : Int) - 1)) }) (I1.ok.hd hc) ⟨_, Heap.get?_push_size _ rfl, rfl, rfl⟩ (hl.push _) hne hn fun h' tk acc c' hk hS hi => ?_
  have hz2 : (s1.heap.push (revObj a ((its.toArray.size : Int) - 1))).objs.size = s1.heap.objs.size + 1 := Heap.size_push ..
  have keep : ∀ b o, s1.heap.get? b = some o → h'.get? b = some o := fun b o e => hk b o (Nat.ne_of_lt (Heap.lt_size e)) (k0 b o e)
  have I3 : Inv X pins σ (upd H1 (s1.heap.push (revObj a ((its.toArray.size : Int) - 1))).objs.size (.lst xs.reverse)) { s1 with heap := h', toks := tk } :=
    I1.laid (t' := tk) keep (by show s1.heap.objs.size ≤ _; rw [hz2]; exact Nat.le_succ _) (show ObjOk X.prog X.w _ _ _ (.lst xs.reverse) from ⟨by rw [List.length_reverse]; exact hz, acc.toList, c', RT.vals_rev rv hi, by rw [Array.toArray_toList]; exact hS⟩)
  exact ⟨.ref _, _, I3, rfl, q _ (I1.hok.fresh (by show s1.heap.objs.size ≤ _; rw [hz2]; exact Nat.le_succ _))⟩
theorem tuple_mul1 (l : Addr) (items : Array Value) (n : Nat) (dd : Option Addr) (sl : Array (Option Value)) (u : Tok) :
    PySem.Meets (Builtin.«tuple.__mul__» ⟨[.ref l, .int 1 u], []⟩) (fun _ R s => s.heap.get? l = some { cls := .type "tuple", dict := dd, data := .seq items n, slots := sl } ∧ R (.ok (.ret (Value.ref l))) s) :=
  .of_wp fun prog w A R s h => by
    obtain ⟨hp, g, d, tk, os⟩ := s
    obtain ⟨hl, h⟩ := h
    have f1 := AutoSeq1.idx_int
    have hT : (Shared.mk hp g d tk os).TypeIs (.ref l) "tuple" := ⟨_, hl, rfl⟩
    have c1 : (items.isEmpty || (1 : Int) == 1) = true := by rw [show ((1 : Int) == 1) = true from rfl, Bool.or_true]
    wp_walk using wpAny_loadPart' hl, wpAny_typeOf hT
    repeat (first
      | (refine wpAny_ite_true (decide_eq_true (by rw [c1])) ?_; wp_walk using wpAny_loadPart' hl, wpAny_typeOf hT))
    exact ⟨_, rfl, h⟩
theorem tuple_mul0 (l : Addr) (items : Array Value) (n : Nat) (dd : Option Addr) (sl : Array (Option Value)) (u : Tok) (c1 : items.isEmpty = false) :
    PySem.Meets (Builtin.«tuple.__mul__» ⟨[.ref l, .int 0 u], []⟩) (fun _ R s => s.heap.get? l = some { cls := .type "tuple", dict := dd, data := .seq items n, slots := sl } ∧
      R (.ok (.ret (Value.ref s.heap.objs.size))) { s with heap := s.heap.push { cls := Value.type "tuple", data := Data.seq #[] }, toks := s.toks }) :=
  .of_wp fun prog w A R s h => by
    obtain ⟨hp, g, d, tk, os⟩ := s
    obtain ⟨hl, h⟩ := h
    have f1 := AutoSeq1.idx_int
    have hT : (Shared.mk hp g d tk os).TypeIs (.ref l) "tuple" := ⟨_, hl, rfl⟩
    have c2 : (items.isEmpty || (0 : Int) == 1) = false := by rw [c1]; rfl
    wp_walk using wpAny_loadPart' hl, wpAny_typeOf hT
    repeat (first
      | (refine wpAny_ite_false (decide_eq_false (by rw [c2]; exact Bool.false_ne_true)) ?_; wp_walk using wpAny_loadPart' hl)
      | (refine wpAny_ite_true (decide_eq_true rfl) ?_; wp_walk using wpAny_loadPart' hl))
    exact ⟨_, rfl, h⟩
def rRep1 (K : PySem.W.Frag) : R2 := fun x y H Q => ∃ l k xs, x = .ref l ∧ y = .int k ∧ SqT K H l xs ∧ xs ≠ [] ∧ ((k = 1 ∧ Q (.ref l) H) ∨ (k = 0 ∧ ∀ p, H p = none → Q (.ref p) (upd H p (.tup []))))
theorem op_rep1 {X : Cx} : OpR X (binaryOp .Mult) (rRep1 X.K) := by
  intro pins s σ H x y v u Q I rx ry h
  obtain ⟨l, k, xs, rfl, rfl, hT, hne, h⟩ := h
  cases rx
  obtain ⟨t, rfl⟩ := ry
  obtain ⟨its, r, ⟨⟨cls, dd, data, sl⟩, ho, hc, n, hd⟩, hs⟩ := I.tuple hT
  simp only at hc hd
  subst hc hd
  have hle : its.length = xs.length := r.length.symm
  have hn : its ≠ [] := fun e => hne (by
    rw [e] at hle
    exact List.eq_nil_of_length_eq_zero hle.symm)
  have hi : its.toArray.isEmpty = false := by
    cases its with
    | nil => exact absurd rfl hn
    | cons a b => rfl
  rcases h with ⟨rfl, q⟩ | ⟨rfl, q⟩
  · refine wpAny_binaryOp_repeat_ref (T := "tuple") (U := "int") (by decide) ⟨_, ho, rfl⟩ (fun s' => typeIs_int s' 1 t) noFill_tuple_mul F.fills_int_mul F.slot_int_rmul repeat_tuple F.slot_int_index.lookup
      (call_meets F.slot_int_rmul (typeIs_int s 1 t) F.entry_int_rmul (F.args_int_rmul_2 _ _) (int_rmul_tuple 1 t l its.toArray n dd sl)
        ⟨ho, rfl, ⟨_, ho, rfl⟩, call_meets F.slot_tuple_mul ⟨_, ho, rfl⟩ F.entry_tuple_mul (F.args_tuple_mul_2 _ _) (tuple_mul1 l its.toArray n dd sl t) ⟨ho, ?_⟩⟩)
    exact ⟨.ref l, H, I, rfl, q⟩
  · refine wpAny_binaryOp_repeat_ref (T := "tuple") (U := "int") (by decide) ⟨_, ho, rfl⟩ (fun s' => typeIs_int s' 0 t) noFill_tuple_mul F.fills_int_mul F.slot_int_rmul repeat_tuple F.slot_int_index.lookup
      (call_meets F.slot_int_rmul (typeIs_int s 0 t) F.entry_int_rmul (F.args_int_rmul_2 _ _) (int_rmul_tuple 0 t l its.toArray n dd sl)
        ⟨ho, rfl, ⟨_, ho, rfl⟩, call_meets F.slot_tuple_mul ⟨_, ho, rfl⟩ F.entry_tuple_mul (F.args_tuple_mul_2 _ _) (tuple_mul0 l its.toArray n dd sl t hi) ⟨ho, ?_⟩⟩)
    refine ⟨.ref s.heap.objs.size, _, I.laid (t' := s.toks) (o := .tup []) (fun b ob q => Heap.get?_push_of_some _ q) (Nat.le_refl _) ?_, rfl, q _ (I.hok.fresh (Nat.le_refl _))⟩
    exact ⟨Nat.zero_le _, [], .nil, IsTup.new _ _⟩
section
variable {c : Kx} {Γ : List EV} {S S1 S2 : List MO} {e a b : Expr} {p p2 pos pos2 : Pos}
/-- list(reversed(x)), x a list: data -/
theorem e_lstrev {ds : List PyData} (hc : c.calm = true) (hm : c.W.mg "list" = none) (hm2 : c.W.mg "reversed" = none) (h : DE c e Γ S (dL ds) S1) (hg : c.sc.names.lookup ("list" : Str) = some .globalImplicit := by rfl) (hg2 : c.sc.names.lookup ("reversed" : Str) = some .globalImplicit := by rfl)
    (hs : ∀ env : Env, starEach [e] env = (false, eval e env) :: starEach [] env := by intro _; rfl)
    (hs2 : ∀ env : Env, starEach [.Call (.Name "reversed" p2) [e] [] pos2] env = (false, eval (.Call (.Name "reversed" p2) [e] [] pos2) env) :: starEach [] env := by intro _; rfl) :
    DE c (.Call (.Name "list" p) [.Call (.Name "reversed" p2) [e] [] pos2] [] pos) Γ S (dL ds.reverse) S1 := fun X ok =>
  PE_imp (pe_lstRev (ok.calm hc) (gl_of ok hg) (by rw [ok.mg]; exact hm) (gl_of ok hg2) (by rw [ok.mg]; exact hm2) (h X ok) (hs X.env) (hs2 X.env)) fun σ H Q ⟨A, R, k⟩ => ⟨A, R, fun A1 v H1 t1 R1 x1 => by
    obtain ⟨q, vs, rfl, e1, r1, _⟩ := lst_of x1
    exact ⟨q, vs, rfl, SqL.of e1, fun l hl => (k.tr t1).new R1 hl (VRep.lst R1 hl r1.rev)⟩⟩
theorem e_lstrevo {ds : List PyData} (hc : c.calm = true) (hm : c.W.mg "list" = none) (hm2 : c.W.mg "reversed" = none) (h : DE c e Γ S (dL ds) S1) (hg : c.sc.names.lookup ("list" : Str) = some .globalImplicit := by rfl) (hg2 : c.sc.names.lookup ("reversed" : Str) = some .globalImplicit := by rfl)
    (hs : ∀ env : Env, starEach [e] env = (false, eval e env) :: starEach [] env := by intro _; rfl)
    (hs2 : ∀ env : Env, starEach [.Call (.Name "reversed" p2) [e] [] pos2] env = (false, eval (.Call (.Name "reversed" p2) [e] [] pos2) env) :: starEach [] env := by intro _; rfl) :
    DE c (.Call (.Name "list" p) [.Call (.Name "reversed" p2) [e] [] pos2] [] pos) Γ S (.own S1.length) (S1 ++ [.lst (ds.reverse.map EV.val)]) := fun X ok =>
  PE_imp (pe_lstRev (ok.calm hc) (gl_of ok hg) (by rw [ok.mg]; exact hm) (gl_of ok hg2) (by rw [ok.mg]; exact hm2) (h X ok) (hs X.env) (hs2 X.env)) fun σ H Q ⟨A, R, k⟩ => ⟨A, R, fun A1 v H1 t1 R1 x1 => by
    obtain ⟨q, vs, rfl, e1, r1, _⟩ := lst_of x1
    exact ⟨q, vs, rfl, SqL.of e1, fun l hl => own_new R1 (k.tr t1) hl (VReps.ofVals r1.rev)⟩⟩
/-- a power of a great number -/
def CPowG (i j : Int) : Prop := 0 ≤ j ∧ ∃ m : Nat, i.natAbs < 2 ^ m ∧ (m : Int) * j ≤ 2 ^ 27
theorem op_powG {X : Cx} : OpR X (binaryOp .Pow) (rI CPowG fun i j => .int (i ^ j.toNat)) := opI fun _ _ _ _ _ _ _ hc q => by
  obtain ⟨h0, m, h1, h2⟩ := hc
  refine pow_int h0 (Int.le_trans ?_ h2) q
  have hb := intBits_le h1
  exact Int.mul_le_mul_of_nonneg_right (by omega) h0
theorem e_powG {i j : Int} (ha : DE c a Γ S (dI i) S1) (hb : DE c b Γ S1 (dI j) S2) (h : CPowG i j) : DE c (.BinOp a .Pow b pos) Γ S (dI (i ^ j.toNat)) S2 :=
  e_bin (fun _ _ => op_powG) (fun A σ H Q v w R x y k => ⟨i, j, int_of x, int_of y, h, k.now R (Rep.int _)⟩) ha hb
/-- a tuple times an int -/
theorem e_rept {ds : List PyData} {k : Int} (ha : DE c a Γ S (dT ds) S1) (hb : DE c b Γ S1 (dI k) S2) (hne : ds ≠ []) (h0 : 0 ≤ k) (h1 : k ≤ 1000) (hl : ds.length ≤ 1000) : DE c (.BinOp a .Mult b pos) Γ S (dT (List.replicate k.toNat ds).flatten) S2 :=
  if hk : 2 ≤ k then
    e_bin (r := rRepT c.W.K) (fun X ok => by rw [← ok.K]; exact op_repT) (fun A σ H Q v w R x y kk => by
      obtain ⟨q, vs, rfl, e1, r1, _⟩ := tup_of x
      refine ⟨q, k, vs, rfl, int_of y, SqT.of e1, ?_, hk, h1, by rw [r1.len]; exact hl, fun p hp => kk.new R hp (VRep.tup R hp (r1.flat _))⟩
      intro e
      have := r1.len
      rw [e] at this
      exact hne (List.eq_nil_of_length_eq_zero this.symm)) ha hb
  else
    e_bin (r := rRep1 c.W.K) (fun X ok => by rw [← ok.K]; exact op_rep1) (fun A σ H Q v w R x y kk => by
      have x0 := x
      obtain ⟨q, vs, rfl, e1, r1, _⟩ := tup_of x
      refine ⟨q, k, vs, rfl, int_of y, SqT.of e1, ?_, ?_⟩
      · intro e
        have := r1.len
        rw [e] at this
        exact hne (List.eq_nil_of_length_eq_zero this.symm)
      · have hk2 : k = 0 ∨ k = 1 := by omega
        rcases hk2 with rfl | rfl
        · exact .inr ⟨rfl, fun p hp => kk.new R hp (VRep.tup R hp (r1.flat 0))⟩
        · refine .inl ⟨rfl, kk.now R ?_⟩
          have e : (List.replicate (1 : Int).toNat ds).flatten = ds := by simp
          rw [e]
          exact x0) ha hb
end
end DL
end
section
set_option Elab.async false
set_option linter.all false
set_option maxRecDepth 100000
set_option maxHeartbeats 1000000
set_option autoImplicit false
/-! Data layer, part 11: extend, pop, a store by subscript, a dict of one pair, join, repr of a list with a dict, defs that make objects. -/
namespace DL
open L2 PySem PySem.Spec PyProof.Rows
section
variable {X : Cx} {c : Kx} {Γ Γ' : List EV} {S S1 S2 S3 S4 : List MO} {a b d e : Expr} {es : List Expr} {p pos apos : Pos}
theorem e_extend {k : Nat} {xs ys : List EV} {ds : List PyData} (h : DE c a Γ S (.own k) S1) (hk1 : S1[k]? = some (.lst ys)) (h2 : DE c b Γ S1 (dL ds) S2) (hk : S2[k]? = some (.lst xs)) (hl : xs.length + ds.length ≤ 16777214) (hS : S2.set k (.lst (xs ++ ds.map EV.val)) = S3 := by rfl)
    (hm : M1 a b "extend" apos pos := by exact ⟨fun _ => rfl, fun _ => rfl, rfl, fun _ => rfl, fun _ => rfl⟩) : DE c (.Call (.Attribute a "extend" apos) [b] [] pos) Γ S dN S3 := fun X ok =>
  PE_imp (pe_bm PySem.F.plainAttrs_list PySem.F.slot_list_extend PySem.F.type_list_extend mt_extend (h X ok) (pa_cons (h2 X ok) pa_nil (hm.2.2.2.1 X.env)) (hm.1 X.env) (hm.2.1 X.env) hm.2.2.1 (hm.2.2.2.1 X.env) (hm.2.2.2.2 X.env)) fun σ H Q ⟨A, R, q⟩ => ⟨A, R, fun A1 v1 H1 t1 R1 x1 => by
    obtain ⟨l, hl1, rfl⟩ := x1
    obtain ⟨vs1, e1, _⟩ := R1.sto k _ l hk1 hl1
    refine ⟨.inl ⟨rfl, vs1, .inl (Rd.of e1)⟩, A1, R1, fun A2 v2 H2 t2 R2 x2 => ?_⟩
    have hl2 := t2.at_ hl1
    obtain ⟨vs, e, r⟩ := R2.sto k _ l hk hl2
    obtain ⟨p2, ws, rfl, e2, r2, n2⟩ := lst_of x2
    subst hS
    refine ⟨l, p2, vs, ws, rfl, rfl, e, e2, ?_, ?_⟩
    · rw [← r.len, r2.len]
      exact small_line (by omega)
    · exact put_own R2 ((q.tr t1).tr t2) hl2 hk (by simp) (VReps.app r (VReps.ofVals r2)) fun _ _ _ => Rep.non⟩
theorem VReps.dropLast {A : A0} {H : Hp} : ∀ {es : List EV} {vs : List V}, VReps A H es vs → VReps A H es.dropLast vs.dropLast
  | [], [], _ => trivial
  | [_], [_], _ => trivial
  | e :: e' :: es, v :: v' :: vs, h => ⟨h.1, VReps.dropLast (es := e' :: es) (vs := v' :: vs) h.2⟩
  | [], _ :: _, h => h.elim
  | _ :: _, [], h => h.elim
  | [_], _ :: _ :: _, h => h.2.elim
  | _ :: _ :: _, [_], h => h.2.elim
theorem e_pop {k : Nat} {xs : List EV} {z : EV} (h : DE c a Γ S (.own k) S1) (hk : S1[k]? = some (.lst xs)) (hz : xs[xs.length - 1]? = some z) (hS : S1.set k (.lst xs.dropLast) = S2 := by rfl)
    (hbase : ∀ env : Env, attributeBase a "pop" env (eval a env) = eval a env := by intro _; rfl) (hline : (apos.endLine == pos.line) = true := by rfl) : DE c (.Call (.Attribute a "pop" apos) [] [] pos) Γ S z S2 := fun X ok =>
  PE_imp (pe_bm0 PySem.F.plainAttrs_list PySem.F.slot_list_pop PySem.F.type_list_pop mt_pop (h X ok) (hbase X.env) hline) fun σ H Q ⟨A, R, q⟩ => ⟨A, R, fun A1 v1 H1 t1 R1 x1 => by
    obtain ⟨l, hl1, rfl⟩ := x1
    obtain ⟨vs, e1, r⟩ := R1.sto k _ l hk hl1
    obtain ⟨y, hy, ry⟩ := r.get hz
    subst hS
    refine ⟨.inl ⟨rfl, vs, .inl (Rd.of e1)⟩, l, vs, y, rfl, rfl, e1, by rw [← r.len]; exact hy, ?_⟩
    exact put_own R1 (q.tr t1) hl1 hk (by simp) r.dropLast fun _ _ t => t.vrep ry⟩
/-- o[i] = e, o a list of one's own -/
theorem s_subo {k : Nat} {xs : List EV} {v : EV} {i : Int} {j : Nat} {p2 : Pos} (he : DE c e Γ S v S1) (ha : DE c a Γ S1 (.own k) S2) (hb : DE c b Γ S2 (dI i) S3) (hk : S3[k]? = some (.lst xs)) (hi : ixN xs.length i = some j) (hS : S3.set k (.lst (xs.set j v)) = S4 := by rfl)
    (hs : ∀ env : Env, swapsWithSole [.Subscript a b p2] e pos.line env = pure false := by intro _; rfl) (hw : ∀ env : Env, swappedStores [.Subscript a b p2] e env = pure none := by intro _; rfl)
    (h1 : ∀ env : Env, (assignEach [.Subscript a b p2] env).map (·.2) = [assign (.Subscript a b p2) env] := by intro _; rfl)
    (h2 : ∀ (env : Env) v, assign (.Subscript a b p2) env v = (do
      let ov ← holding [v] (eval a env)
      let iv ← holding [v, ov] (eval b env)
      standAt p2
      holding [v, ov, iv] (setItem ov iv v)
      release [v, ov, iv] []) := by intro _ _; rfl) : DS c (.Assign [.Subscript a b p2] e pos) Γ S (.nx Γ S4) := fun X ok =>
  PS_imp (ps_asg (he X ok) (pg_sub (ha X ok) (hb X ok) set_list (h2 X.env)) (hs X.env) (hw X.env) (h1 X.env)) fun D σ H ⟨A, R, q⟩ => ⟨A, R, fun A1 v1 H1 t1 R1 x1 => ⟨A1, R1, fun A2 o2 H2 t2 R2 x2 => ⟨A2, R2, fun A3 i3 H3 t3 R3 x3 => by
    obtain ⟨l, hl, rfl⟩ := t3.vrep x2
    obtain ⟨vs, e1, r⟩ := R3.sto k _ l hk hl
    subst hS
    refine ⟨l, vs, i, j, rfl, int_of x3, e1, by rw [← r.len]; exact hi, ?_⟩
    exact put_own (Q := fun _ H4 => D.nx σ H4) (z := dN) (v := .non) R3 (fun A4 _ H4 t4 R4 _ => q A4 σ H4 (((t1.trans t2).trans t3).trans t4) R4) hl hk (by simp) (VReps.setAt ((t2.trans t3).vrep x1) j r) fun _ _ _ => Rep.non⟩⟩⟩
/-- the own objects and the names stay, the others are told otherwise -/
theorem RS.shift {A A' : A0} {σ : SL} {H H' : Hp} (R : RS A Γ S σ H) (had : A'.ad = A.ad) (hdd : A'.dd = A.dd) (mv : ∀ {v : V} {d : PyData}, Rep A.no H v d → Rep A'.no H' v d) (mvL : ∀ {v : List V} {d : List PyData}, RepL A.no H v d → RepL A'.no H' v d)
    (ob : ∀ a, a ∈ A.ad → H' a = H a) (dom : ∀ a, A'.no a → ∃ o, H' a = some o) (sep : ∀ a, a ∈ A.ad → ¬ A'.av a) : RS A' Γ S σ H' := by
  have mvs : ∀ {es : List EV} {vs : List V}, VReps A H es vs → VReps A' H' es vs := by
    intro es
    induction es with
    | nil =>
      intro vs h
      cases vs with
      | nil => trivial
      | cons v vs => exact h.elim
    | cons e es ih =>
      intro vs h
      cases vs with
      | nil => exact h.elim
      | cons v vs =>
        refine ⟨?_, ih h.2⟩
        have h1 := h.1
        cases e with
        | und => trivial
        | val d => exact mv h1
        | own k =>
          obtain ⟨a, h2, h3⟩ := h1
          exact ⟨a, by rw [had]; exact h2, h3⟩
  have mes : ∀ {es : List EV} {vs : SL}, EReps A H es vs → EReps A' H' es vs := by
    intro es
    induction es with
    | nil =>
      intro vs h
      cases vs with
      | nil => trivial
      | cons v vs => exact h.elim
    | cons e es ih =>
      intro vs h
      cases vs with
      | nil => exact h.elim
      | cons v vs =>
        refine ⟨?_, ih h.2⟩
        have h1 := h.1
        cases e with
        | und => trivial
        | val d => obtain ⟨w, e1, r⟩ := h1; exact ⟨w, e1, mv r⟩
        | own k =>
          obtain ⟨a, h2, h3⟩ := h1
          exact ⟨a, by rw [had]; exact h2, h3⟩
  refine ⟨dom, by rw [had]; exact R.nd, fun a ha => sep a (by rw [← had]; exact ha), by rw [had]; exact R.len, fun k hk => R.gn k (by rw [← hdd]; exact hk), fun a ha => ?_, mes R.env, fun k mo a h1 h2 => ?_⟩
  · rw [had] at ha
    rw [ob a ha]
    exact R.all a ha
  · rw [had] at h2
    have q := R.sto k mo a h1 h2
    have eo := ob a (List.mem_of_getElem? h2)
    cases mo with
    | lst xs => obtain ⟨vs, e, r⟩ := q; exact ⟨vs, eo.trans e, mvs r⟩
    | dK kvs => obtain ⟨vs, e, r⟩ := q; exact ⟨vs, eo.trans e, mvL r⟩
    | dT kvs => obtain ⟨vs, e, r⟩ := q; exact ⟨vs, eo.trans e, mvL r⟩
    | gone => trivial
/-- a new object that is nobody's -/
theorem RS.plus {A : A0} {σ : SL} {H : Hp} {p : Addr} {o : HO} (R : RS A Γ S σ H) (hp : H p = none) : RS (A.plus p) Γ S σ (upd H p o) := by
  have np := R.fresh hp
  have s : Same H (upd H p o) := same_upd hp
  have mv : ∀ a o, H a = some o → ¬ A.no a → ¬ (A.plus p).no a := fun a o e h z => by
    rcases z with (z | z) | z
    · exact h (.inl z)
    · rw [z, hp] at e
      cases e
    · exact h (.inr z)
  refine R.shift rfl rfl (fun r => r.move (fun a o e _ => s a o e) mv) (fun r => r.move (fun a o e _ => s a o e) mv) (fun a ha => ?_) (fun a ha => ?_) (fun a ha z => ?_)
  · obtain ⟨u, e⟩ := R.all a ha
    rw [s a u e, e]
  · rcases ha with (z | z) | z
    · obtain ⟨u, e⟩ := R.dom a (.inl z)
      exact ⟨u, s a u e⟩
    · exact ⟨_, by rw [z]; exact upd_same⟩
    · obtain ⟨u, e⟩ := R.dom a (.inr z)
      exact ⟨u, s a u e⟩
  · rcases z with z | z
    · exact R.sep a ha z
    · obtain ⟨u, e⟩ := R.all a ha
      rw [z, hp] at e
      cases e
/-- .. is changed, and is data then -/
theorem RS.minus {A B : A0} {σ : SL} {H H2 : Hp} {p : Addr} {o : HO} (R : RS A Γ S σ H) (hp : H p = none) {o1 : HO} {Γ2 : List EV} {S2 : List MO} (t : Tr (A.plus p) B (upd H p o1) H2) (R2 : RS B Γ2 S2 σ H2) (h2 : H2 p = some o1) :
    Tr A ⟨A.av, B.ad, B.dd⟩ H (upd H2 p o) ∧ RS ⟨A.av, B.ad, B.dd⟩ Γ2 S2 σ (upd H2 p o) ∧ ¬ (⟨A.av, B.ad, B.dd⟩ : A0).no p ∧ ∀ {v : V} {d : PyData}, Rep B.no H2 v d → Rep (⟨A.av, B.ad, B.dd⟩ : A0).no (upd H2 p o) v d := by
  have np := R.fresh hp
  have s : Same H (upd H p o1) := same_upd hp
  have avB : B.av p := by
    rw [t.av]
    exact .inr rfl
  obtain ⟨fr, efr, nfr⟩ := t.ad
  have efr' : B.ad = A.ad ++ fr := efr
  have sub : ∀ a, (⟨A.av, B.ad, B.dd⟩ : A0).no a → B.no a := fun a z => z.elim (fun q => .inl (by rw [t.av]; exact .inl q)) fun q => .inr q
  have mv : ∀ {v : V} {d : PyData}, Rep B.no H2 v d → Rep (⟨A.av, B.ad, B.dd⟩ : A0).no (upd H2 p o) v d := fun r => r.move (fun a u e h => by rw [upd_ne (fun q => h (by rw [q]; exact .inl avB))]; exact e) fun a o _ h z => h (sub a z)
  have mvL : ∀ {v : List V} {d : List PyData}, RepL B.no H2 v d → RepL (⟨A.av, B.ad, B.dd⟩ : A0).no (upd H2 p o) v d := fun r => r.move (fun a u e h => by rw [upd_ne (fun q => h (by rw [q]; exact .inl avB))]; exact e) fun a o _ h z => h (sub a z)
  have neAd : ∀ a, a ∈ B.ad → a ≠ p := fun a ha q => R2.sep a ha (by rw [q]; exact avB)
  refine ⟨⟨rfl, ⟨fr, efr', fun a ha => ?_⟩, fun k hk => t.dd k hk, fun a u e hb => ?_, fun a u e => ?_⟩, R2.shift rfl rfl mv mvL (fun a ha => upd_ne (neAd a ha)) (fun a ha => ?_) (fun a ha z => R2.sep a ha (by rw [t.av]; exact .inl z)), ?_, mv⟩
  · have q := nfr a ha
    cases e : H a with
    | none => rfl
    | some u => rw [s a u e] at q; cases q
  · have ne : a ≠ p := fun q => by rw [q, hp] at e; cases e
    rw [upd_ne ne]
    exact t.keep a u (s a u e) hb
  · by_cases q : a = p
    · exact ⟨o, by rw [q]; exact upd_same⟩
    · obtain ⟨u', e'⟩ := t.dom a u (s a u e)
      exact ⟨u', by rw [upd_ne q]; exact e'⟩
  · by_cases q : a = p
    · exact ⟨o, by rw [q]; exact upd_same⟩
    · obtain ⟨u, e⟩ := R2.dom a (sub a ha)
      exact ⟨u, by rw [upd_ne q]; exact e⟩
  · rintro (z | ⟨k, h1, h2'⟩)
    · exact np (.inl z)
    · exact neAd p (List.mem_of_getElem? h1) rfl
/-- {0: v}, data -/
theorem e_dict1 {i : Int} {y : PyData} (h : DE c a Γ S (dI i) S1) (h2 : DE c b Γ S1 (.val y) S2) : DE c (.Dict [some a] [b] pos) Γ S (.val (.dict [(.int i, y)])) S2 := fun X ok =>
  PE_imp (pe_disp (pps_cons (h X ok) (h2 X ok) pps_nil) rfl rfl (by simp) (by simp)) fun σ H Q ⟨A, R, q⟩ => fun p hp => by
    refine ⟨A.plus p, R.plus hp, fun A1 v1 H1 t1 R1 x1 => ⟨A1, R1, fun A2 v2 H2 t2 R2 x2 => ?_⟩⟩
    have t := t1.trans t2
    have nl : ¬ (A.plus p).lv p := fun z => R.fresh hp (.inr z)
    have e2 : H2 p = some (.dK []) := t.keep _ _ upd_same nl
    refine ⟨e2, [(.inl i, v2)], by rw [int_of x1]; rfl, by simp, ?_⟩
    obtain ⟨t3, R3, n3, mv⟩ := R.minus (o := .dK (mergeK [] [(.inl i, v2)])) hp t R2 e2
    refine q _ (.ref p) _ t3 R3 ?_
    have e3 : mergeK [] [(Sum.inl i, v2)] = [(Sum.inl i, v2)] := rfl
    rw [e3] at mv ⊢
    exact (show Rep _ _ (.ref p) (.dict [(.int i, y)]) from Rep.dct (ds := [y]) n3 upd_same (.cons (mv x2) .nil))
end

/-! ### repr of a list that holds a dict -/
mutual
/-- no list within -/
def flatD : PyData → Bool
  | .list _ => false
  | .tuple ds => flatL ds
  | .dict kvs => flatK kvs
  | _ => true
def flatL : List PyData → Bool
  | [] => true
  | d :: ds => flatD d && flatL ds
def flatK : List (PyData × PyData) → Bool
  | [] => true
  | (_, d) :: ds => flatD d && flatK ds
end
section
variable {X : Cx} {pins : List (Addr × Obj)} {σ : SL} {H : Hp} {s : Shared} {av : Av}
theorem flatK_zip : ∀ (ks : List PyData) (ds : List PyData), ks.length = ds.length → flatK (ks.zip ds) = flatL ds
  | [], [], _ => rfl
  | k :: ks, d :: ds, h => by
    show (flatD d && flatK (ks.zip ds)) = (flatD d && flatL ds)
    rw [flatK_zip ks ds (by simpa using h)]
  | [], _ :: _, h => by simp at h
  | _ :: _, [], h => by simp at h
mutual
theorem flat_reads (I : Inv X pins σ H s) : ∀ {v : V} {d : PyData} {u : Value}, Rep av H v d → flatD d = true → RelV v u → ∃ as, Reads s.heap u d as ∧ sysModules ∉ as
  | _, _, u, .non, _, r => by cases r; exact ⟨_, Reads.none, by simp⟩
  | _, _, u, .bl b, _, r => by cases r; exact ⟨_, Reads.bool b, by simp⟩
  | _, _, u, .int i, _, r => by obtain ⟨t, rfl⟩ := r; exact ⟨_, Reads.int i t, by simp⟩
  | _, _, u, .str x, _, r => by obtain ⟨t, rfl⟩ := r; exact ⟨_, Reads.str x t, by simp⟩
  | _, _, u, .tup (a := a) (vs := vs) _ e rr, hf, r => by
    cases r
    obtain ⟨its, rv, ⟨o, ho, hc, n, hd⟩, _⟩ := I.tuple (SqT.of (K := X.K) e)
    obtain ⟨as, hr, hn⟩ := flat_readsL I rr (by simpa [flatD] using hf) rv
    exact ⟨_, Reads.tuple ho hc hd hr, hn⟩
  | _, _, u, .lst _ _ _, hf, _ => by simp [flatD] at hf
  | _, _, u, .dct (a := a) (kvs := kvs) (ds := ds) _ e rr, hf, r => by
    cases r
    obtain ⟨_, ha, vs, kv, o, es, ep, ho, hx, hd, hk, pr, _⟩ := dk_of I.hok e
    have hl := rr.len
    rw [flatD, flatK_zip _ _ (by simpa using hl)] at hf
    -- keys and values of the entries
    have go : ∀ {kvs : List (Key × V)} {vs : List (Key × Value)} {es : List DictEntry}, KV kvs vs → Pairs (mixKind X.prog X.w) es vs →
        (∃ as, ReadsAll s.heap (es.map (·.key)) (kvs.map fun p => match p.1 with | .inl i => PyData.int i | .inr x => PyData.str x) as ∧ sysModules ∉ as) ∧ Vals (kvs.map (·.2)) (es.map (·.val)) := by
      intro kvs vs es kv
      unfold KV at kv
      induction kv generalizing es with
      | nil =>
        intro pr
        cases pr
        exact ⟨⟨[], ReadsAll.nil, by simp⟩, .nil⟩
      | @cons p q ps qs h t ih =>
        intro pr
        cases pr with
        | @cons en _ es' _ h1 h2 h3 =>
          obtain ⟨⟨as, g1, g2⟩, g3⟩ := ih h3
          obtain ⟨k0, v0⟩ := p
          obtain ⟨k1, w1⟩ := q
          have hk0 : k0 = k1 := h.1
          have hv0 : RelV v0 w1 := h.2
          have h2 : en.val = w1 := h2
          subst hk0
          have sh : keyIs k0 en.key = true := h1
          refine ⟨?_, .cons (show RelV v0 en.val from by rw [h2]; exact hv0) g3⟩
          rcases keyIs_shape sh with ⟨i, t, e1, e2⟩ | ⟨x, t, e1, e2⟩
          · subst e1
            exact ⟨[] ++ as, ReadsAll.cons (show Reads s.heap en.key (.int i) [] from by rw [e2]; exact Reads.int i t) g1, by simpa using g2⟩
          · subst e1
            exact ⟨[] ++ as, ReadsAll.cons (show Reads s.heap en.key (.str x) [] from by rw [e2]; exact Reads.str x t) g1, by simpa using g2⟩
    obtain ⟨⟨as, g1, g2⟩, g3⟩ := go kv pr
    obtain ⟨bs, g4, g5⟩ := flat_readsL I rr hf g3
    refine ⟨_, Reads.dict ho hx.1 hd (as := as) (bs := bs) ?_ ?_, ?_⟩
    · rw [List.map_fst_zip (by simp [← hl])]
      exact g1
    · rw [List.map_snd_zip (by simp [← hl])]
      exact g4
    · have ne : sysModules ≠ a := fun z => by rw [z] at ha; simp at ha
      simp [ne, g2, g5]
theorem flat_readsL (I : Inv X pins σ H s) : ∀ {vs : List V} {ds : List PyData} {us : List Value}, RepL av H vs ds → flatL ds = true → Vals vs us → ∃ as, ReadsAll s.heap us ds as ∧ sysModules ∉ as
  | _, _, _, .nil, _, r => by cases r; exact ⟨_, ReadsAll.nil, by simp⟩
  | _, _, _, .cons h t, hf, r => by
    simp only [flatL, Bool.and_eq_true] at hf
    cases r with
    | cons r1 r2 =>
      obtain ⟨as, q1, n1⟩ := flat_reads I h hf.1 r1
      obtain ⟨bs, q2, n2⟩ := flat_readsL I t hf.2 r2
      exact ⟨_, ReadsAll.cons q1 q2, by simp [n1, n2]⟩
end
end
end DL
end
section
set_option Elab.async false
set_option linter.all false
set_option maxRecDepth 100000
set_option maxHeartbeats 1000000
set_option autoImplicit false
/-! Data layer, part 12: repr of a new list, join, defs that make objects, lengths of what repr shows. -/
namespace DL
open L2 PySem PySem.Spec PyProof.Rows
section
variable {X : Cx} {c : Kx} {Γ Γ' : List EV} {S S1 S2 S3 S4 : List MO} {a b d e : Expr} {es : List Expr} {p p2 pos apos : Pos}
/-- a new list, not at sysModules -/
def tLstB (t : TA) : TE := fun σ H Q => t σ H fun xs H1 => xs.length ≤ sizeLine ∧ ∀ p, H1 p = none → p ≠ sysModules → Q (.ref p) (upd H1 p (.lst xs))
theorem pe_lstB {t : TA} (h : PA X es t) : PE X (.List es pos) (tLstB t) := by
  refine ⟨fun pins s σ H Q I hq => ?_⟩
  refine wpAny_List_spliced (thn (h.run pos pins s σ H _ I hq) fun us s1 ⟨xs, H1, I1, r, z, q⟩ => ⟨by rw [← r.length]; exact z, ?_⟩)
  have hf : H1 s1.heap.objs.size = none := I1.hok.fresh (Nat.le_refl _)
  refine ⟨.ref s1.heap.objs.size, upd H1 s1.heap.objs.size (.lst xs), I1.laid (t' := s1.toks) (fun b u e => Heap.get?_push_of_some _ e) (Nat.le_refl _) ?_, rfl, q _ hf (Nat.ne_of_gt I1.big)⟩
  exact ⟨z, us, 0, r, Heap.get?_push_size _ rfl⟩
theorem cr_reprB (hg : X.A.guards = some []) (hu : X.A.units + 200 < cLine) : CallR X (.builtin "repr") (fun xs H Q => ∃ (p : Addr) (vs : List V) (ds : List PyData) (av : Av), xs = [.ref p] ∧ H p = some (.lst vs) ∧ p ≠ sysModules ∧ RepL av H vs ds ∧ flatL ds = true ∧ PyData.showableAll ds = true ∧ (PyData.list ds).shown.length ≤ sizeLine ∧ (PyData.list ds).depth ≤ 100 ∧ Q (.str (PyData.list ds).shown) H) := by
  intro pins s σ H xs us Q I r h
  obtain ⟨p, vs, ds, av, rfl, hp, np, hr, hf, hs, hz, hdp, q⟩ := h
  obtain ⟨u, rfl, ru⟩ := vals1 r
  cases ru
  obtain ⟨its, rv, ⟨o, n, ho, hc, _, hd⟩, _⟩ := I.list (SqL.of (K := X.K) hp)
  obtain ⟨as, hr2, hn⟩ := flat_readsL I hr hf rv
  have rd : Reads s.heap (.ref p) (.list ds) (p :: as) := Reads.list ho hc hd hr2
  exact repr_of_reads' rd (by simpa [PyData.showable] using hs) (fun _ => by simp [hn, Ne.symm np]) hg (by omega) (fun _ _ e => e) (fun h' u tk hk => ⟨.str _, H, I.kept hk, ⟨_, rfl⟩, q⟩) hz
/-- repr([..]) of data without lists -/
theorem e_reprL {ds : List PyData} (hm : c.W.mg "repr" = none) (h : DA c es Γ S (ds.map EV.val) S1) (hf : flatL ds = true) (hs : PyData.showableAll ds = true) (hl : ds.length ≤ 16777216) (hz : (PyData.list ds).shown.length ≤ 16777216) (hd : (PyData.list ds).depth ≤ 100) (hg : c.sc.names.lookup ("repr" : Str) = some .globalImplicit := by rfl)
    (hs' : ∀ env : Env, starEach [.List es p2] env = (false, eval (.List es p2) env) :: starEach [] env := by intro _; rfl) : DE c (.Call (.Name "repr" p) [.List es p2] [] pos) Γ S (dS (PyData.list ds).shown) S1 := fun X ok =>
  PE_imp (pe_callB (t := tCons (tLstB (tDA Γ S (ds.map EV.val) S1)) tNil) (cr_reprB ok.gu ok.un) (gl_of ok hg) (by rw [ok.mg]; exact hm) (by decide +kernel) (pa_cons (pe_lstB (h X ok)) pa_nil (hs' X.env)) (he := hs' X.env)) fun σ H Q ⟨A, R, k⟩ => ⟨A, R, fun A1 vs H1 t1 R1 x1 => by
    have rl := x1.vals
    refine ⟨by rw [rl.len]; exact small_line hl, fun q hq nq => ?_⟩
    have s0 : Same H1 (upd H1 q (.lst vs)) := same_upd hq
    exact ⟨q, vs, ds, A1.no, rfl, upd_same, nq, (Tr.same (A := A1) s0).repL rl, hf, hs, small_line hz, hd, k A1 _ _ (t1.trans (Tr.same s0)) (R1.same s0) (Rep.str _)⟩⟩
/-- sep.join(a list of texts) -/
theorem e_join {x : Str} {ys : List Str} (h : DE c a Γ S (dS x) S1) (h2 : DE c b Γ S1 (dL (ys.map PyData.str)) S2) (hz : (ys.map (·.length)).sum + ys.length * x.length ≤ 16777216)
    (hm : M1 a b "join" apos pos := by exact ⟨fun _ => rfl, fun _ => rfl, rfl, fun _ => rfl, fun _ => rfl⟩) : DE c (.Call (.Attribute a "join" apos) [b] [] pos) Γ S (dS (Txt.join x ys)) S2 := fun X ok =>
  PE_imp (pe_bm PySem.F.plainAttrs_str PySem.F.slot_str_join PySem.F.type_str_join mt_join (h X ok) (pa_cons (h2 X ok) pa_nil (hm.2.2.2.1 X.env)) (hm.1 X.env) (hm.2.1 X.env) hm.2.2.1 (hm.2.2.2.1 X.env) (hm.2.2.2.2 X.env)) fun σ H Q ⟨A, R, q⟩ => ⟨A, R, fun A1 v1 H1 t1 R1 x1 => by
    have e1 := str_of x1
    subst e1
    refine ⟨rfl, A1, R1, fun A2 v2 H2 t2 R2 x2 => ?_⟩
    obtain ⟨p2, ws, rfl, e2, r2, n2⟩ := lst_of x2
    have ev := RepL.strs r2
    subst ev
    exact ⟨x, p2, ys, rfl, rfl, .inl (SqL.of e2), hz, ((q.tr t1).tr t2).now R2 (Rep.str _)⟩⟩
end

/-! ### a def that makes objects of one's own, called where there are none -/
def spN (R : List EV → EV → List MO → Prop) : Sp := fun vs H Q _ => ∃ (A : A0) (es : List EV) (e : EV) (T : List MO), A.dd = [] ∧ RS A [] [] [] H ∧ VReps A H es vs ∧ R es e T ∧ ∀ A' v H', Tr A A' H H' → RS A' [] T [] H' → VRep A' H' e v → Q v H'
theorem Fun.okN {W : WD} {x qual : Str} {st : Stmt} {f : Addr} {fd : FuncData} {N ps : List Str} {k : Nat} {R : List EV → EV → List MO → Prop} (F : Fun W.K x qual st f fd) (S : FnScope N ps (defScope st))
    (len : ∀ es e T, R es e T → es.length = ps.length)
    (hbody : ∀ (E : Value → Option Addr → SL → Hp → Prop) (es : List EV) (e : EV) (T : List MO), R es e T → DSs ⟨W, N, defScope st, k, true, fun _ => true, true, E⟩ (defBody st) (startE N es) [] (.rt e T)) :
    FnG W (k + 1) f fd ps (spN R) := by
  refine Fun.okG F S (fun vs H Q E h => ?_) (fun cdv A outer s H vs Q E hg hr h => ?_)
  · obtain ⟨A, es, e, T, _, _, hv, hR, _⟩ := h
    rw [← hv.len]
    exact len es e T hR
  · obtain ⟨A1, es, e, T, hdd, hrs, hv, hR, hend⟩ := h
    have hd := hbody (fun cls d _ H' => E cls d H') es e T hR
    have ok := ok_top (W := W) (N := N) (qual := qual) (scope := defScope st) (f := f) (cdv := cdv) (outer := outer) (s := s) (H := H) (E := E) hg hr
    refine ⟨_, hd _ ok, A1, ⟨hrs.dom, hrs.nd, hrs.sep, hrs.len, hrs.gn, hrs.all, EReps.start hv, hrs.sto⟩, ?_⟩
    exact fun A' v σ' H' Γ' t R' x => hend A' v H' t ⟨R'.dom, R'.nd, R'.sep, R'.len, R'.gn, R'.all, trivial, R'.sto⟩ x
structure DefN (W : WD) (x : Str) (ps : List Str) (k : Nat) (R : List EV → EV → List MO → Prop) : Prop where
  ex : ∃ f fd, W.mg x = some (.ref f) ∧ PySem.W.keepIn W.K (.ref f) = true ∧ FnG W k f fd ps (spN R) ∧ Binds W.K fd ps []
section
variable {c : Kx} {Γ : List EV} {S : List MO} {e : Expr} {es : List Expr} {pos p : Pos} {x : Str} {ps : List Str} {k : Nat} {R : List EV → EV → List MO → Prop} {vs : List EV} {z : EV} {T : List MO}
theorem e_callN (F : DefN c.W x ps k R) (hR : R vs z T) (ha : DA c (e :: es) Γ S vs []) (hk : k ≤ c.k := by exact Nat.le_of_ble_eq_true rfl) (hcalm : c.calm = true := by rfl)
    (hg : c.sc.names.lookup x = some .globalImplicit := by rfl) (hdb : (x == ("__debug__" : Str)) = false := by decide)
    (he : ∀ env : Env, starEach (e :: es) env = (false, eval e env) :: starEach es env := by intro _; rfl) (hpl : ∀ env : Env, (backTo pos (starEach es env)).any (·.1) = false := by intro _; rfl) :
    DE c (.Call (.Name x p) (e :: es) [] pos) Γ S z T := fun X ok => by
  obtain ⟨f, fd, h1, h2, h3, h4⟩ := F.ex
  have h3 := h3.mono hk
  rw [ok.W_eq] at h3
  refine PE_imp (pe_callG h3 ok.gu (ok.room hcalm) (gl_of ok hg) (by rw [ok.mg]; exact h1) (by rw [ok.K]; exact h2) (by rw [ok.K]; exact h4) (fun σ => passAt ok.tk σ) (ha X ok) hdb (he X.env) (hpl X.env)) fun σ H Q ⟨A, Rs, q⟩ => ⟨A, Rs, fun A1 ws H1 t1 R1 x1 => ?_⟩
  have hd : A1.dd = [] := by
    apply List.eq_nil_iff_forall_not_mem.mpr
    intro j hj
    have := R1.gn j hj
    simp at this
  refine ⟨A1, vs, z, T, hd, ⟨R1.dom, R1.nd, R1.sep, R1.len, R1.gn, R1.all, trivial, R1.sto⟩, x1, hR, fun A' v H' t R' hv => ?_⟩
  exact q A' v H' (t1.trans t) ⟨R'.dom, R'.nd, R'.sep, R'.len, R'.gn, R'.all, t.ereps R1.env, R'.sto⟩ hv
end
end DL
end
section
set_option Elab.async false
set_option linter.all false
set_option maxRecDepth 100000
set_option maxHeartbeats 1000000
set_option autoImplicit false
/-! Data layer, part 13: raise, try, the suite of an except clause that names its error. -/
namespace DL
open L2 PySem PySem.Spec PyProof.Rows
/-! ### raise X() -/
/-- what is known of an own class of exceptions without __init__ -/
structure ExcN (K : PySem.W.Frag) (C : Addr) : Prop where
  q : PySem.W.excIn K C [.type "ValueError", .type "Exception", .type "BaseException", .type "object"] "ValueError.__new__" = true
  k : PySem.W.keepIn K (.ref C) = true
  s : PySem.W.subIn K (.ref C) (.type "BaseException") = some true
  t : PySem.W.typeIn K (.ref C) = some (.type "type")
theorem pmk_own0 {X : Cx} {C : Addr} {bmB : List Value} {B newId initId : String} {x : Str} {p pos : Pos} (F : ExcBaseFacts B newId initId bmB) (q : PySem.W.excIn X.K C bmB newId = true) (gC : X.mg x = some (.ref C))
    (kC : PySem.W.keepIn X.K (.ref C) = true) (r : Raises X (.ref C)) (hg : Gl X x) (hdb : (x == ("__debug__" : Str)) = false := by decide) :
    PMk X (.Call (.Name x p) [] [] pos) (fun σ H Q => Q (.ref C) none H) := by
  intro pins s σ H Q I h
  refine wpAny_Call_Name_kw (ld_glob I hg gC ?_ hdb)
  refine PySem.W.callWith_K0 I.kIn kC ?_
  show wpAny _ _ (call (.ref C) []) _ _ _
  obtain ⟨bm, N, nm, qn, bs, hdct, sn, sub, ab, col, dd, k0, k1, k2, k3, k5, mN, hC, hN, hni, T⟩ := exc_obj I.kIn q
  refine wpAny_call_exc_subT F T hC hN hni (fun h' e hm => ?_) (Nat.zero_le _)
  exact mk_of I hm r h (I.hok.gone hm.new)
section
variable {c : Kx} {Γ : List EV} {S : List MO} {x : Str} {C : Addr} {p pos pos2 : Pos}
theorem s_raise0 (hc : c.calm = true) (q : PySem.W.excIn c.W.K C [.type "ValueError", .type "Exception", .type "BaseException", .type "object"] "ValueError.__new__" = true) (gC : c.W.mg x = some (.ref C)) (kC : PySem.W.keepIn c.W.K (.ref C) = true)
    (h1 : PySem.W.subIn c.W.K (.ref C) (.type "BaseException") = some true) (h2 : PySem.W.typeIn c.W.K (.ref C) = some (.type "type")) (hg : c.sc.names.lookup x = some .globalImplicit := by rfl) (hdb : (x == ("__debug__" : Str)) = false := by decide) :
    DS c (.Raise (some (.Call (.Name x p) [] [] pos)) none pos2) Γ S (.ex (.ref C) S) := fun X ok =>
  PS_imp (ps_raise (ok.calm hc) ok.tk (pmk_own0 PySem.F.excBase_ValueError (by rw [ok.K]; exact q) (by rw [ok.mg]; exact gC) (by rw [ok.K]; exact kC) (raises_own (by rw [ok.K]; exact h1) (by rw [ok.K]; exact h2)) (gl_of ok hg) hdb)) fun D σ H ⟨A, R, k⟩ => k A σ H Γ Tr.refl R
end

/-! ### in the suite of an except clause -/
def Kx.sui (c : Kx) : Kx := ⟨c.W, c.N, c.sc, c.k, false, c.cel, false, fun _ _ _ _ => False⟩
theorem ok_sui {c : Kx} {X : Cx} (ok : c.Ok X) (a : Addr) (pn : List (Addr × Obj)) : c.sui.Ok (X.suite a pn) where
  prog := ok.prog
  w := ok.w
  K := ok.K
  mg := ok.mg
  base := ok.base
  N := ok.N
  sc := ok.sc
  gu := ok.gu
  un := ok.un
  room := fun h => by cases h
  calm := fun h => by cases h
  fn := ok.fn
  stk := fun h => by cases h
  tk := takes0
  po := PassesOwn.never
/-- the class of the error as a constant, and what isinstance says of it -/
def rIsET (K : PySem.W.Frag) (C a : Addr) : List V → Hp → VK → Prop := fun xs H Q => ∃ (tp : Addr) (cs : List V) (us : List Value) (b : Bool), xs = [.ref a, .ref tp] ∧ H tp = some (.tup cs) ∧ Paired ClsV cs us ∧ PySem.W.kitAny K (.ref C) us = some b ∧ Q (.bl b) H
theorem call_isET {X : Cx} {a D : Addr} {oe : Obj} {pn : List (Addr × Obj)} (C : ExcC X.K D) (hz : Zc (.ref D) none oe) (hf : ∃ vs, oe.data = .fields vs) : CallR (X.suite a ((a, oe) :: pn)) (.builtin "isinstance") (rIsET X.K D a) := by
  intro pins s σ H xs us Q I r h
  obtain ⟨tp, cs, ws, b, rfl, hT, k, e, q⟩ := h
  obtain ⟨u1, u2, rfl, r1, r2⟩ := vals2 r
  cases (show u2 = Value.ref tp from r2)
  cases (show u1 = Value.ref a from r1)
  obtain ⟨_, its, rv, o, h1, h2, n, h3⟩ := (show ObjOk X.prog X.w H s.heap tp (.tup cs) from I.hok tp _ hT)
  have e3 := ClsV.all k rv
  subst e3
  obtain ⟨oc, od, dt, sl⟩ := o
  simp only at h2 h3
  subst h2 h3
  obtain ⟨hget, _⟩ := I.pin (a, oe) (List.mem_append.mpr (.inl List.mem_cons_self))
  obtain ⟨vs, hv⟩ := hf
  have J : PySem.W.InstAt s.heap a oe D none := by
    obtain ⟨oc, od, oda, osl⟩ := oe
    obtain ⟨h1, h2⟩ := hz
    dsimp only at h1 h2 hv
    subst h1 h2 hv
    exact ⟨hget, rfl, rfl, trivial⟩
  exact PySem.W.kia_tup (PySem.W.handS_kitx_exc C.hg C.hk C.hs C.hd C.ha C.hn C.ht C.hm) I.kIn J h1 e (fun z => nomatch z) fun tk => ⟨.bl b, H, I.kept (t' := tk) fun _ _ z => z, rfl, q⟩
/-- X is where the suite runs, the error of the class at C standing at a -/
structure SOk (c : Kx) (C a : Addr) (X : Cx) : Prop where
  ok : c.Ok X
  one : CallR X (.builtin "isinstance") (rIsE c.W.K C a)
  tup : CallR X (.builtin "isinstance") (rIsET c.W.K C a)
section
variable (c : Kx) (i : Nat) (C : Addr)
def XE (e : Expr) (Γ : List EV) (S : List MO) (v : EV) (S' : List MO) : Prop := ∀ a X, SOk c C a X → PE X e fun σ H Q => σ[i]? = some (some (.ref a)) ∧ tD Γ S v S' σ H Q
def XT (e : Expr) (Γ : List EV) (S : List MO) (b : Bool) (S' : List MO) : Prop := ∀ a X, SOk c C a X → PT X e fun σ H Q => σ[i]? = some (some (.ref a)) ∧ tDT Γ S b S' σ H Q
def XW (e : Expr) (Γ : List EV) (S : List MO) (b : Bool) (S' : List MO) : Prop := ∀ a X, SOk c C a X → PW X e fun σ H Q => σ[i]? = some (some (.ref a)) ∧ tDT Γ S b S' σ H Q
def XA (e : List Expr) (Γ : List EV) (S : List MO) (v : List EV) (S' : List MO) : Prop := ∀ a X, SOk c C a X → PA X e fun σ H Q => σ[i]? = some (some (.ref a)) ∧ tDA Γ S v S' σ H Q
def XS (e : Stmt) (Γ : List EV) (S : List MO) (o : Out) : Prop := ∀ a X, SOk c C a X → PS X e fun D σ H => σ[i]? = some (some (.ref a)) ∧ tS c Γ S o D σ H
def XSs (e : List Stmt) (Γ : List EV) (S : List MO) (o : Out) : Prop := ∀ a X, SOk c C a X → PSs X e fun D σ H => σ[i]? = some (some (.ref a)) ∧ tS c Γ S o D σ H
end
section
variable {c : Kx} {i : Nat} {C : Addr} {a b d e : Expr} {es : List Expr} {Γ : List EV} {S S1 S2 : List MO} {v : EV} {vs : List EV} {k : Bool} {pos p : Pos} {st : Stmt} {bs bs' rest : List Stmt} {o : Out} {x n : Str}
theorem xe_of (h : DE c e Γ S v S1) : XE c i C e Γ S v S1 := fun a X ok => PE_imp (h X ok.ok) fun σ H Q q => q.2
theorem xt_of (h : DT c e Γ S k S1) : XT c i C e Γ S k S1 := fun a X ok => PT_imp (h X ok.ok) fun σ H Q q => q.2
/-- isinstance(error, a class) -/
theorem xe_is {c0 : V} {cv : Value} {q : Pos} (hn : c.N[i]? = some n) (hN : c.sc.names.lookup n = some .local) (hm : c.W.mg "isinstance" = none) (hc : c.W.mg x = some cv ∧ RelV c0 cv ∨ (c.W.mg x = none ∧ bootBuiltins x = some cv ∧ RelV c0 cv ∧ x ≠ "__name__")) (hu : ∀ u, RelV c0 u → u = cv) (hk : PySem.W.kitOne c.W.K (.ref C) cv = some k)
    (hg : c.sc.names.lookup ("isinstance" : Str) = some .globalImplicit := by rfl) (hgT : c.sc.names.lookup x = some .globalImplicit := by rfl) (hdb : (x == ("__debug__" : Str)) = false := by decide) (hdn : (n == ("__debug__" : Str)) = false := by decide) (hcd : (n == ("__classdict__" : Str)) = false := by decide)
    (hs : ∀ env : Env, starEach [.Name n p, .Name x q] env = (false, eval (.Name n p) env) :: starEach [.Name x q] env := by intro _; rfl) {p0 : Pos} : XE c i C (.Call (.Name "isinstance" p0) [.Name n p, .Name x q] [] pos) Γ S (dB k) S := fun a X ok => by
  have px : PE X (.Name x q) (tC c0) := by
    rcases hc with ⟨h1, h2⟩ | ⟨h1, h2, h3, h4⟩
    · exact pe_glob (gl_of ok.ok hgT) (by rw [ok.ok.mg]; exact h1) h2 hdb
    · exact pe_bltn (gl_of ok.ok hgT) (by rw [ok.ok.mg]; exact h1) h2 h3 h4 hdb
  refine PE_imp (pe_callB (t := tCons (tVar i) (tCons (tC c0) tNil)) ok.one (gl_of ok.ok hg) (by rw [ok.ok.mg]; exact hm) (by decide +kernel) (pa_cons (pe_var (by rw [ok.ok.N]; exact hn) (.inl (by show X.env.scope.names.lookup n = _; rw [ok.ok.sc]; exact hN)) hdn hcd) (pa_cons px pa_nil) (hs X.env)) (he := hs X.env)) fun σ H Q ⟨hi, A, R, kk⟩ => ?_
  exact ⟨_, hi, c0, cv, k, rfl, hu, hk, kk A _ H Tr.refl R (Rep.bl _)⟩
/-- several global names, classes -/
inductive ClsNames (c : Kx) : List Expr → List V → List Value → Prop
  | nil : ClsNames c [] [] []
  | own {x : Str} {q : Pos} {C : Addr} {es : List Expr} {vs : List V} {us : List Value} (hm : c.W.mg x = some (.ref C)) (hg : c.sc.names.lookup x = some .globalImplicit) (hdb : (x == ("__debug__" : Str)) = false) (hs : ∀ env : Env, starEach (.Name x q :: es) env = (false, eval (.Name x q) env) :: starEach es env) (t : ClsNames c es vs us) : ClsNames c (.Name x q :: es) (.ref C :: vs) (.ref C :: us)
def tCs : List V → TA
  | [] => tNil
  | v :: vs => tCons (tC v) (tCs vs)
theorem cls_names {X : Cx} (ok : c.Ok X) : ∀ {es : List Expr} {vs : List V} {us : List Value}, ClsNames c es vs us → PA X es (tCs vs) ∧ Paired ClsV vs us
  | _, _, _, .nil => ⟨pa_nil, .nil⟩
  | _, _, _, .own hm hg hdb hs t => ⟨pa_cons (pe_glob (gl_of ok hg) (by rw [ok.mg]; exact hm) rfl hdb) (cls_names ok t).1 (hs X.env), .cons (.own _) (cls_names ok t).2⟩
theorem tCs_ok : ∀ {vs : List V} {σ : SL} {H : Hp} {Q : List V → Hp → Prop}, Q vs H → tCs vs σ H Q
  | [], _, _, _, q => q
  | v :: vs, σ, H, Q, q => tCs_ok (vs := vs) (Q := fun ws H' => Q (v :: ws) H') q
theorem xe_isT {cs : List V} {us : List Value} {q : Pos} {kt : Nat} (hn : c.N[i]? = some n) (hN : c.sc.names.lookup n = some .local) (hm : c.W.mg "isinstance" = none) (hc : ClsNames c es cs us) (hl : cs.length ≤ 16777216) (hk : PySem.W.kitAny c.W.K (.ref C) us = some k)
    (hg : c.sc.names.lookup ("isinstance" : Str) = some .globalImplicit := by rfl) (hdn : (n == ("__debug__" : Str)) = false := by decide) (hcd : (n == ("__classdict__" : Str)) = false := by decide)
    (hs : ∀ env : Env, starEach [.Name n p, .Tuple es kt q] env = (false, eval (.Name n p) env) :: starEach [.Tuple es kt q] env := by intro _; rfl) (hs2 : ∀ env : Env, starEach [.Tuple es kt q] env = (false, eval (.Tuple es kt q) env) :: starEach [] env := by intro _; rfl)
    {p0 : Pos} : XE c i C (.Call (.Name "isinstance" p0) [.Name n p, .Tuple es kt q] [] pos) Γ S (dB k) S := fun a X ok => by
  obtain ⟨pa, pr⟩ := cls_names ok.ok hc
  refine PE_imp (pe_callB (t := tCons (tVar i) (tCons (tTup (tCs cs)) tNil)) ok.tup (gl_of ok.ok hg) (by rw [ok.ok.mg]; exact hm) (by decide +kernel) (pa_cons (pe_var (by rw [ok.ok.N]; exact hn) (.inl (by show X.env.scope.names.lookup n = _; rw [ok.ok.sc]; exact hN)) hdn hcd) (pa_cons (pe_tup pa) pa_nil (hs2 X.env)) (hs X.env)) (he := hs X.env)) fun σ H Q ⟨hi, A, R, kk⟩ => ?_
  refine ⟨_, hi, tCs_ok ⟨small_line hl, fun tp htp => ?_⟩⟩
  have s0 : Same H (upd H tp (.tup cs)) := same_upd htp
  exact ⟨tp, cs, us, k, rfl, upd_same, pr, hk, kk A _ _ (Tr.same s0) (R.same s0) (Rep.bl _)⟩
theorem xt_val (h : XE c i C e Γ S (dB k) S1) (he : ∀ (env : Env) (whole : Sem Value), isTrue e env whole = (do let v ← whole; standAt e.pos; holding [v] (truthy v)) := by intro _ _; rfl) : XT c i C e Γ S k S1 := fun a X ok =>
  PT_imp (pt_val (h a X ok) (he X.env)) fun σ H Q ⟨hi, A, R, q⟩ => ⟨hi, A, R, fun A1 v H1 t1 R1 x1 => ⟨k, bl_of x1, q A1 H1 t1 R1⟩⟩
theorem xt_not (h : XT c i C a Γ S k S1) : XT c i C (.UnaryOp .Not a pos) Γ S (!k) S1 := fun a X ok => PT_imp (pt_not (h a X ok)) fun σ H Q ⟨hi, A, R, q⟩ => ⟨hi, A, R, fun A1 H1 t1 R1 => q A1 H1 t1 R1⟩
theorem xw_or1 (h : XT c i C a Γ S k S1) : XW c i C (.BoolOp .Or [a] pos) Γ S k S1 := fun a X ok => pw_or1 (h a X ok)
theorem xw_orT (h : XT c i C a Γ S true S1) : XW c i C (.BoolOp .Or (a :: b :: es) pos) Γ S true S1 := fun _ X ok =>
  PW_imp (pw_or (h _ X ok) pw_no) fun σ H Q ⟨hi, A, R, q⟩ => ⟨hi, A, R, fun A1 H1 t1 R1 => (if_pos (rfl : true = true)).mpr (q A1 H1 t1 R1)⟩
theorem xw_orF (h : XT c i C a Γ S false S1) (h2 : XW c i C (.BoolOp .Or (b :: es) pos) Γ S1 k S2) : XW c i C (.BoolOp .Or (a :: b :: es) pos) Γ S k S2 := fun _ X ok =>
  PW_imp (pw_or (h _ X ok) (h2 _ X ok)) fun σ H Q ⟨hi, A, R, q⟩ => ⟨hi, A, R, fun A1 H1 t1 R1 => (if_neg Bool.false_ne_true).mpr ⟨hi, A1, R1, fun A2 H2 t2 R2 => q A2 H2 (t1.trans t2) R2⟩⟩
theorem xt_w (h : XW c i C e Γ S k S1) : XT c i C e Γ S k S1 := fun a X ok => (h a X ok).pt
theorem xe_ifT (ht : XT c i C d Γ S true S1) (h : XE c i C a Γ S1 v S2) : XE c i C (.IfExp d a b pos) Γ S v S2 := fun _ X ok =>
  PE_imp (pe_ifExp (ht _ X ok) (h _ X ok) pe_no) fun σ H Q ⟨hi, A, R, q⟩ => ⟨hi, A, R, fun A1 H1 t1 R1 => (if_pos (rfl : true = true)).mpr ⟨hi, A1, R1, q.tr t1⟩⟩
theorem xe_ifF (ht : XT c i C d Γ S false S1) (h : XE c i C b Γ S1 v S2) : XE c i C (.IfExp d a b pos) Γ S v S2 := fun _ X ok =>
  PE_imp (pe_ifExp (ht _ X ok) pe_no (h _ X ok)) fun σ H Q ⟨hi, A, R, q⟩ => ⟨hi, A, R, fun A1 H1 t1 R1 => (if_neg Bool.false_ne_true).mpr ⟨hi, A1, R1, q.tr t1⟩⟩
theorem xa_nil : XA c i C [] Γ S [] S := fun a X ok => PA_imp pa_nil fun σ H Q ⟨hi, A, R, k⟩ => k A [] H Tr.refl R trivial
theorem xa_cons (h : XE c i C e Γ S v S1) (h2 : XA c i C es Γ S1 vs S2) (hs : ∀ env : Env, starEach (e :: es) env = (false, eval e env) :: starEach es env := by intro _; rfl) : XA c i C (e :: es) Γ S (v :: vs) S2 := fun a X ok =>
  PA_imp (pa_cons (h a X ok) (h2 a X ok) (hs X.env)) fun σ H Q ⟨hi, A, R, k⟩ => ⟨hi, A, R, fun A1 v H1 t1 R1 x1 => ⟨hi, A1, R1, fun A2 ws H2 t2 R2 x2 => k A2 (v :: ws) H2 (t1.trans t2) R2 ⟨t2.vrep x1, x2⟩⟩⟩
theorem xe_lst {ds : List PyData} (h : XA c i C es Γ S (ds.map EV.val) S1) (hl : ds.length ≤ 16777216 := by first | exact Nat.le_of_ble_eq_true rfl | omega) : XE c i C (.List es pos) Γ S (dL ds) S1 := fun a X ok =>
  PE_imp (pe_lst (h a X ok)) fun σ H Q ⟨hi, A, R, k⟩ => ⟨hi, A, R, fun A1 vs H1 t1 R1 x1 => ⟨by rw [x1.vals.len]; exact small_line hl, fun p hp => (k.tr t1).new R1 hp (VRep.lst R1 hp x1.vals)⟩⟩
theorem xs_ret (h : XE c i C e Γ S v S1) : XS c i C (.Return (some e) pos) Γ S (.rt v S1) := fun a X ok => PS_imp (ps_ret (h a X ok)) fun D σ H ⟨hi, A, R, k⟩ => ⟨hi, A, R, fun A1 v H1 t1 R1 x1 => k A1 v σ H1 Γ t1 R1 x1⟩
theorem xss_one (h : XS c i C st Γ S o) : XSs c i C [st] Γ S o := fun a X ok => pss_one (h a X ok)
theorem xss_ret (h : XS c i C st Γ S (.rt v S1)) : XSs c i C (st :: rest) Γ S (.rt v S1) := fun a X ok => PSs_imp (pss_cons (h a X ok) pss_never) fun D σ H ⟨hi, A, R, k⟩ => ⟨hi, A, R, k⟩
theorem xs_ifT (ht : XT c i C d Γ S true S1) (h : XSs c i C bs Γ S1 (.rt v S2)) : XS c i C (.If d bs bs' pos) Γ S (.rt v S2) := fun a X ok =>
  PS_imp (ps_if (ht a X ok) (h a X ok) pss_never) fun D σ H ⟨hi, A, R, k⟩ => ⟨hi, A, R, fun A1 H1 t1 R1 => (if_pos (rfl : true = true)).mpr ⟨hi, A1, R1, k.tr t1⟩⟩
/-- an if that is passed by, then the rest -/
theorem xss_pass (ht : XT c i C d Γ S false S1) (h : XSs c i C rest Γ S1 (.rt v S2)) : XSs c i C (.If d bs [] pos :: rest) Γ S (.rt v S2) := fun a X ok =>
  PSs_imp (pss_cons (ps_if (ht a X ok) pss_never pss_nil) (h a X ok)) fun D σ H ⟨hi, A, R, k⟩ => ⟨hi, A, R, fun A1 H1 t1 R1 => (if_neg Bool.false_ne_true).mpr ⟨hi, A1, R1, k.tr t1⟩⟩

/-! ### try -/
theorem ok_tr {X : Cx} (ok : c.Ok X) (W : WX) (pn : List (Addr × Obj)) (xe : Value → Shared → Prop) (tk : Takes (X.tr pn xe) W) (po : PassesOwn (model X.prog X.w) X.A X.env xe) : Kx.Ok ⟨c.W, c.N, c.sc, c.k, c.top, c.cel, c.calm, W⟩ (X.tr pn xe) where
  prog := ok.prog
  w := ok.w
  K := ok.K
  mg := ok.mg
  base := ok.base
  N := ok.N
  sc := ok.sc
  gu := ok.gu
  un := ok.un
  room := ok.room
  calm := ok.calm
  fn := ok.fn
  stk := ok.stk
  tk := tk
  po := po
/-- what is wished of an exception may lean on the number of the slots -/
theorem takes_len {X : Cx} {W : WX} (tk : Takes X W) : Takes X fun cls d σ H => σ.length = X.N.length → W cls d σ H := fun u s' x => by
  obtain ⟨a, B, sI, pins, σ, H, cls, d, e, J, nb, up, sky, na, os, ag, w⟩ := x
  exact tk u s' ⟨a, B, sI, pins, σ, H, cls, d, e, J, nb, up, sky, na, os, ag, w J.len⟩
theorem EReps.len {A : A0} {H : Hp} : ∀ {es : List EV} {vs : SL}, EReps A H es vs → es.length = vs.length
  | [], [], _ => rfl
  | e :: es, v :: vs, h => congrArg (· + 1) (EReps.len h.2)
  | [], _ :: _, h => h.elim
  | _ :: _, [], h => h.elim
theorem EReps.hide {A : A0} {H : Hp} {w : Option V} : ∀ {es : List EV} {σ : SL} (i : Nat), EReps A H es σ → EReps A H (es.set i .und) (σ.set i w)
  | [], [], _, _ => trivial
  | _ :: _, _ :: _, 0, h => ⟨trivial, h.2⟩
  | _ :: _, _ :: _, i + 1, h => ⟨h.1, EReps.hide i h.2⟩
  | [], _ :: _, _, h => h.elim
  | _ :: _, [], _, h => h.elim
theorem RS.hide {A : A0} {σ : SL} {H : Hp} {w : Option V} (R : RS A Γ S σ H) (i : Nat) : RS A (Γ.set i .und) S (σ.set i w) H := ⟨R.dom, R.nd, R.sep, R.len, R.gn, R.all, R.env.hide i, R.sto⟩
/-- try: body; except X as n: suite, where the body returns -/
theorem s_tryR {b₀ : Stmt} {np pos' : Pos} {CX : Value} (htop : c.top = true) (hnd : c.N.Nodup) (hi : c.N[i]? = some n) (hN : c.sc.names.lookup n = some .local) (hx : c.W.mg x = some CX)
    (hb : ∀ W : WX, DSs ⟨c.W, c.N, c.sc, c.k, c.top, c.cel, c.calm, W⟩ bs Γ S (.rt v S1)) (hgx : c.sc.names.lookup x = some .globalImplicit := by rfl) (hdb : (x == ("__debug__" : Str)) = false := by decide) :
    DS c (.Try bs [.ExceptHandler (some (.Name x np)) (some n) (b₀ :: rest) pos'] [] [] pos) Γ S (.rt v S1) := fun X ok => by
  obtain ⟨hst, hfr⟩ := ok.stk htop
  refine PS_imp (ps_try_as (c := CX) (i := i) (tb := fun W => tS ⟨c.W, c.N, c.sc, c.k, c.top, c.cel, c.calm, W⟩ Γ S (.rt v S1)) (ts := fun _ _ _ => tNever) (Wout := fun _ _ _ _ => False) hst hfr (by rw [ok.N]; exact hnd) (by rw [ok.N]; exact hi) (by show X.env.scope.names.lookup n = _; rw [ok.sc]; exact hN) ⟨gl_of ok hgx, hdb, .inl (by rw [ok.mg]; exact hx)⟩ takes0
    (fun W pn xe tk po => hb W _ (ok_tr ok W pn xe tk po)) (fun a oe cls d pn hz hf => pss_never)) fun D σ H ⟨A, R, k⟩ => ⟨A, R, k⟩
/-- .. where the body raises an error of the class at C that the clause names; the suite returns -/
theorem s_tryX {b₀ : Stmt} {np pos' : Pos} {CX : Value} (htop : c.top = true) (hnd : c.N.Nodup) (hi : c.N[i]? = some n) (hN : c.sc.names.lookup n = some .local) (hx : c.W.mg x = some CX)
    (hb : ∀ W : WX, DSs ⟨c.W, c.N, c.sc, c.k, c.top, c.cel, c.calm, W⟩ bs Γ S (.ex (.ref C) S1)) (he : PySem.W.exmOne c.W.K (.ref C) CX = some true) (hC : ExcC c.W.K C) (hs : ∀ Γ' : List EV, XSs c.sui i C (b₀ :: rest) (Γ'.set i .und) S1 (.rt v S2))
    (hgx : c.sc.names.lookup x = some .globalImplicit := by rfl) (hdb : (x == ("__debug__" : Str)) = false := by decide) :
    DS c (.Try bs [.ExceptHandler (some (.Name x np)) (some n) (b₀ :: rest) pos'] [] [] pos) Γ S (.rt v S2) := fun X ok => by
  obtain ⟨hst, hfr⟩ := ok.stk htop
  refine PS_imp (ps_try_as (c := CX) (i := i) (tb := fun W => tS ⟨c.W, c.N, c.sc, c.k, c.top, c.cel, c.calm, fun cls d σ H => σ.length = c.N.length → W cls d σ H⟩ Γ S (.ex (.ref C) S1))
    (ts := fun a cls d D σ H => cls = .ref C ∧ d = none ∧ σ[i]? = some (some (.ref a)) ∧ ∃ Γ' : List EV, tS c.sui (Γ'.set i .und) S1 (.rt v S2) D σ H) (Wout := fun _ _ _ _ => False) hst hfr (by rw [ok.N]; exact hnd) (by rw [ok.N]; exact hi) (by show X.env.scope.names.lookup n = _; rw [ok.sc]; exact hN) ⟨gl_of ok hgx, hdb, .inl (by rw [ok.mg]; exact hx)⟩ takes0
    (fun W pn xe tk po => hb _ _ (ok_tr ok _ pn xe (by have z := takes_len tk; rw [show (X.tr pn xe).N = c.N from ok.N] at z; exact z) po))
    (fun a oe cls d pn hz hf => ⟨fun pins s σ H D I h => ?_⟩)) fun D σ H ⟨A, R, k⟩ => ⟨A, R, fun A1 σ1 H1 Γ1 t1 R1 hlen => ⟨true, by rw [ok.K]; exact he, fun _ a ha => ⟨rfl, rfl, ?_, Γ1, A1, R1.hide i, ?_⟩, fun z => by cases z⟩⟩
  · obtain ⟨rfl, rfl, hi1, Γ1, h1⟩ := h
    have hC' : ExcC X.K C := by
      rw [ok.K]
      exact hC
    have so : SOk c.sui C a (X.suite a ((a, oe) :: pn)) := ⟨ok_sui ok a _, by have z := call_isE (a := a) (pn := pn) hC' hz hf; rw [ok.K] at z; exact z, by have z := call_isET (a := a) (pn := pn) hC' hz hf; rw [ok.K] at z; exact z⟩
    exact (hs Γ1 a _ so).run pins s σ H D I ⟨hi1, h1⟩
  · have : i < σ1.length := by
      rw [hlen]
      exact (List.getElem?_eq_some_iff.mp hi).1
    rw [List.getElem?_set_self this]
  · exact fun A2 w σ2 H2 Γ2 t2 R2 x2 => k A2 w σ2 H2 Γ2 (t1.trans t2) R2 x2
end
end DL
end
section
set_option Elab.async false
set_option linter.all false
set_option maxRecDepth 100000
set_option maxHeartbeats 1000000
set_option autoImplicit false
/-! Data layer, part 14: the law's own head and end, where no guard stands; the script. -/
namespace DL
open L2 PySem PySem.Spec PyProof.Rows
section
variable {P : Program} {w : World} {K : PySem.W.Frag} {mg mb : Str → Option Value} {CX : CXT} {k : Nat} {fa a : Addr} {fd : FuncData} {x : Str} {sp : Sp} {s₁ : Shared} {vs : List Value} {ns : List Int}
/-- what a law's call is to end with -/
def LawEnd (s₁ : Shared) (r : Result) (s' : Shared) : Prop := r = .ok (.ret (.bool true)) ∧ OldK s₁.heap s'.heap ∧ s'.os = s₁.os ∧ AllBare s'.gens
theorem law_core (KX : K.In s₁.heap) (hns : s₁.heap.Ns mainGlobals mg) (hb : s₁.heap.Ns builtinsNs mb) (hbb : ∀ y : Str, y ≠ "__name__" → mb y = bootBuiltins y) (hlim : s₁.heap.NoLimit) (hg : s₁.gens = #[])
    (ha : s₁.heap.get? a = some { cls := .type "list", data := .seq vs.toArray }) (hr : Room k callerA) (hgu : callerA.guards = some [])
    (F : ∀ base : Heap, K.In base → base.Ns mainGlobals mg → FnG ⟨P, w, K, mg, base⟩ k fa fd [x] sp) (hbind : ∀ (s : Shared) (u : Value), BindsTo s fd ⟨[u], []⟩ [(x, u)])
    {H : Hp} (hO : Only H) (hsp : sp [.ref a] H (fun v _ => v = .bl true) fun _ _ _ => False) (hok : HOk P w H s₁.heap) (hA : ∀ b, H b ≠ none → b = a) (hK : H a ≠ none → K.lookup a = none) :
    codeAny (model P w) callerA (.call (.ref fa) ⟨[.ref a], []⟩) (LawEnd s₁) s₁ := by
  have at_a : ∀ {b : Addr} {u : HO}, H b = some u → b = a := fun {b u} q => hA b fun z => by rw [q] at z; cases z
  have free : ∀ {b : Addr} {o : Obj} {es : Array DictEntry} {ep : Nat}, s₁.heap.get? b = some o → o.data = .dict es ep → H b = none := by
    intro b o es ep e d
    cases q : H b with
    | none => rfl
    | some u =>
      obtain rfl := at_a q
      rw [ha] at e
      cases e
      exact (nomatch d)
  have up : ∀ {b : Addr} {m : Str → Option Value}, s₁.heap.Ns b m → (hidT s₁.heap H).Ns b m := by
    rintro b m ⟨o, es, ep, e, d, r⟩
    exact ⟨o, es, ep, hidT_get e (free e d), d, r⟩
  have inB : K.In (hidT s₁.heap H) := by
    intro b o e
    refine hidT_get (KX b o e) ?_
    cases q : H b with
    | none => rfl
    | some u =>
      obtain rfl := at_a q
      rw [hK fun z => by rw [q] at z; cases z] at e
      cases e
  obtain ⟨mc, l1, l2⟩ := hlim
  have md : Mod K mg (hidT s₁.heap H) := ⟨inB, up hns, ⟨mb, up hb, hbb⟩, mc, up l1, l2⟩
  have none_in : ∀ {b : Addr}, b ∉ ([] : List Addr) := fun {b} => by simp
  have e0 : Env0 P w K mg (hidT s₁.heap H) callerA [] s₁ H :=
    ⟨rfl, md, fun _ _ e => of_hidT e, Nat.le_of_eq (hidT_size _ _), trivial, fun _ z => absurd z none_in, hok, .of_eq hg⟩
  have run := (F _ inB (up hns)).run callerA [] s₁ H ⟨[.ref a], []⟩ [.ref a] [.ref a] _ _ hgu hr e0 (hbind s₁ (.ref a)) (.cons rfl .nil) hsp
  refine codeAny_mono run fun r s' h => ?_
  match r, h with
  | .error e, h =>
    obtain ⟨_, _, _, _, _, _, _, _, _, _, _, _, z⟩ := h
    exact z.elim
  | .ok (.ret u), h =>
    obtain ⟨v, H', os, bare, un, hok', r', q⟩ := h
    cases (show v = .bl true from q)
    cases (show u = Value.bool true from r')
    refine ⟨rfl, .of_keep fun b o e => ?_, os, bare⟩
    cases q : H b with
    | none => exact un.keep b o e q none_in none_in
    | some u =>
      rcases hO b with z | ⟨ob, xs, z⟩
      · rw [q] at z
        cases z
      · have g1 := (hok b _ z).1
        rw [e] at g1
        cases g1
        exact (hok' b _ (un.frzs b _ _ z)).1
  | .ok .next, h => exact h.elim
  | .ok .brk, h => exact h.elim
  | .ok .cont, h => exact h.elim
theorem law_callG (KX : K.In s₁.heap) (hns : s₁.heap.Ns mainGlobals mg) (hb : s₁.heap.Ns builtinsNs mb) (hbb : ∀ y : Str, y ≠ "__name__" → mb y = bootBuiltins y) (hlim : s₁.heap.NoLimit) (hg : s₁.gens = #[])
    (ha : s₁.heap.get? a = some { cls := .type "list", data := .seq vs.toArray }) (hi : IntsAre vs ns) (hl : ns.length ≤ sizeLine) (hr : Room k callerA) (hgu : callerA.guards = some [])
    (F : ∀ base : Heap, K.In base → base.Ns mainGlobals mg → FnG ⟨P, w, K, mg, base⟩ k fa fd [x] sp) (hbind : ∀ (s : Shared) (u : Value), BindsTo s fd ⟨[u], []⟩ [(x, u)])
    (hsp : ∀ H : Hp, SqL K H a (ns.map V.int) → sp [.ref a] H (fun v _ => v = .bl true) fun _ _ _ => False) :
    codeAny (model P w) callerA (.call (.ref fa) ⟨[.ref a], []⟩) (LawEnd s₁) s₁ := by
  have rv := vals_ints hi
  have lv : vs.toArray.size ≤ sizeLine := by
    rw [List.size_toArray, hi.length]
    exact hl
  cases hk : K.lookup a with
  | some o =>
    have e := KX a o hk
    rw [ha] at e
    cases e
    have hS : SqL K (fun _ => none) a (ns.map V.int) := .inr ⟨_, vs.toArray, _, hk, rfl, rfl, rfl, lv, rv⟩
    exact law_core (H := fun _ => none) KX hns hb hbb hlim hg ha hr hgu F hbind (fun _ => .inl rfl) (hsp _ hS) (fun _ _ z => (nomatch z)) (fun _ z => absurd rfl z) fun z => absurd rfl z
  | none =>
    let u : HO := .frz { cls := .type "list", data := .seq vs.toArray } (.lst (ns.map V.int))
    have e1 : upd (fun _ => none) a u a = some u := upd_same
    have e2 : ∀ {b : Addr}, b ≠ a → upd (fun _ => none) a u b = none := fun {b} h => upd_ne h
    have hS : SqL K (upd (fun _ => none) a u) a (ns.map V.int) := .inl (.inr ⟨_, e1⟩)
    refine law_core (H := upd (fun _ => none) a u) KX hns hb hbb hlim hg ha hr hgu F hbind (fun b => ?_) (hsp _ hS) (fun b o z => ?_) (fun b z => ?_) fun _ => hk
    · by_cases h : b = a
      · subst h
        exact .inr ⟨_, _, e1⟩
      · exact .inl (e2 h)
    · by_cases h : b = a
      · subst h
        rw [e1] at z
        cases z
        exact ⟨ha, by rw [List.length_map]; exact hl, vs, _, rv, ha⟩
      · rw [e2 h] at z
        cases z
    · by_cases h : b = a
      · exact h
      · exact absurd (e2 h) z
end
/-- a law's row, from its def's promise -/
theorem walk_ofG {l : PySem.W.OpenLaw} {n k : Nat} {q : Program} {loose : List Str} {XP : (Str → Option Value) → Heap → Prop} {YP : World → Heap → Prop} {d : DefRec} {K : Params → PySem.W.Frag} {sp : World → Sp} {x : Str}
    (hn : l.most = some n) (hn2 : n ≤ sizeLine) (hdf : d.params.defaults = []) (hr : Room k callerA) (hgu : callerA.guards = some []) (hY : ∀ (w : World) (h : Heap), YP w h → (K w.params).In h)
    (F : ∀ (w : World) (mg : Str → Option Value) (fa : Addr) (h : Heap), (K w.params).In h → h.Ns mainGlobals mg → mg d.name = some (.ref fa) →
      ∃ fd : FuncData, (∀ (s : Shared) (u : Value), BindsTo s fd ⟨[u], []⟩ [(x, u)]) ∧ ∀ base : Heap, (K w.params).In base → base.Ns mainGlobals mg → FnG ⟨l.prog, w, K w.params, mg, base⟩ k fa fd [x] (sp w))
    (hsp : ∀ (w : World) (H : Hp) (a : Addr) (ns : List Int), ns.length ≤ n → (∀ z ∈ ns, Builtin.Int.intBits z ≤ 1048576) → SqL (K w.params) H a (ns.map V.int) → sp w [.ref a] H (fun v _ => v = .bl true) fun _ _ _ => False) :
    PySem.W.WalkO q loose XP YP l.row.toRowW d [] (fun f vs => PySem.call f vs) := by
  refine Att.attach_callB hn hdf ?_
  intro w s₀ s₁ mg mb fa o pm cd doc a vs ns G Y ho hd hcd hmg hobj hints hlen hbits hg
  obtain ⟨fd, hb, hF⟩ := F w mg fa _ (hY w _ Y) G.T.g hmg
  exact law_callG (hY w _ Y) G.T.g G.T.b G.T.builtins G.T.nolimit hg hobj hints (Nat.le_trans hlen hn2) hr hgu hF hb fun H hS => hsp w H a ns hlen hbits hS

/-! ### the script -/
def A00 : A0 := ⟨fun _ => False, [], []⟩
theorem A00_no (a : Addr) : ¬ A00.no a := by
  rintro (z | ⟨k, h, _⟩)
  · exact z
  · exact (nomatch (show ([] : List Addr)[k]? = some a from h))
theorem RS.zero {Γ : List EV} {σ : SL} {H : Hp} (h : EReps A00 H Γ σ) : RS A00 Γ [] σ H where
  dom := fun a z => absurd z (A00_no a)
  nd := List.nodup_nil
  sep := fun a ha => by cases ha
  len := rfl
  gn := fun k hk => by cases hk
  all := fun a ha => by cases ha
  env := h
  sto := fun k o a h1 _ => by cases h1
end DL
end
section
set_option Elab.async false
set_option linter.all false
set_option maxRecDepth 100000
set_option maxHeartbeats 1000000
set_option autoImplicit false
/-! Data layer, part 15: the def that reads the script; the law's own def. -/
namespace DL
open L2 PySem PySem.Spec PyProof.Rows
section
variable {X : Cx} {c : Kx} {Γ Γ' : List EV} {S : List MO} {tg iter elt : Expr} {x : Str} {scope : Scope} {own : List (Str × Nat)} {items : List EV} {St : Nat → List MO} {pos : Pos}
/-- name = [.. for .. in iter], where φ tells more of the names -/
theorem s_lcP (φ : SL → Hp → Prop) (j : Nat) {res : List PyData} {p' : Pos} (ok : c.Ok X) (hc : c.calm = true) (hnd : c.N.Nodup) (hi : PI X tg iter fun σ H R => φ σ H ∧ tDI Γ S items (St 0) σ H R) (hres : res.length = items.length) (hlen : items.length ≤ 16777215)
    (body : ∀ (i : Nat) x d, items[i]? = some x → res[i]? = some d → LcTurn c scope own tg elt Γ x (St i) d (St (i + 1))) (hb : blkC c.N c.sc scope own = true) (hN : c.N[j]? = some x) (hst : c.sc.names.lookup x = some .local) (hk : c.sc.kind = .function)
    {spos : Pos} (hln : (p'.line == spos.line) = true) (hna : (scope.names.any fun (n, k) => n == x && (k == .local || k == .cell)) = false) (hΓ : Γ.set j (dL res) = Γ') (hs : ∀ (env : Env) x, foldedSetIterable iter env x = pure x := by intro _ _; rfl) (hpl : pos.line = spos.line) :
    PS X (.Assign [.Name x p'] (.ListComp elt [⟨tg, iter, [], 0⟩] scope pos) spos) (fun D σ H => φ σ H ∧ tS c Γ S (.nx Γ' (St items.length)) D σ H) := by
  have hr := lc_read (c := c) (Γ := Γ) (S := S) (tg := tg) (elt := elt) (scope := scope) (own := own) (items := items) (St := St) (r := fun i => res[i]?) hlen fun i x hx => by
    have hi' : i < res.length := by
      rw [hres]
      exact (List.getElem?_eq_some_iff.mp hx).1
    exact ⟨res[i], List.getElem?_eq_getElem hi', body i x _ hx (List.getElem?_eq_getElem hi')⟩
  rw [← hres] at hr
  rw [range_res] at hr
  rw [hres] at hr
  refine PS_imp (ps_setLc (i := j) (own := own) (ok.calm hc) (by rw [ok.N]; exact hnd) (by rw [ok.N]; exact hN) (by rw [ok.sc]; exact hst) (sw_true (by rw [ok.sc]; exact hk) (by rw [ok.sc]; exact hst) (by rw [hpl]; exact hln) hna) hi (by rw [ok.N, ok.sc]; exact blkOk_by hb) (fun s H C cl fp => pg_u (ok_blk ok scope s H C cl fp)) (fun _ _ _ _ _ => pts_nil)
    (fun s H C cl fp => pe_u (ok_blk ok scope s H C cl fp)) (hs X.env)) fun D σ H ⟨h0, A, R, k⟩ => ?_
  have z : tLc (tDI Γ S items (St 0)) (uG (c.blk scope) tg) tYes (uE (c.blk scope) elt) (own.map (·.2)) σ H (fun v H1 => gName j v σ H1 D.nx) := hr σ H _ ⟨A, R, fun A1 v H1 t1 R1 x1 => k A1 _ H1 t1 (by rw [← hΓ]; exact R1.set x1 j)⟩
  exact ⟨h0, z⟩
end

/-- what the def that reads the script makes of it -/
def spB (K : PySem.W.Frag) (Pre : List Int → Prop) (e : EV) (T : List Int → List MO) : Sp := fun vs H Q _ => ∃ (a : Addr) (ns : List Int), vs = [.ref a] ∧ SqL K H a (ns.map V.int) ∧ Pre ns ∧ ∀ A' v H', Tr A00 A' H H' → RS A' [] (T ns) [] H' → VRep A' H' e v → Q v H'
theorem Fun.okB {W : WD} {qual fx x xs : Str} {f : Addr} {st : Stmt} {fd : FuncData} {N : List Str} {k : Nat} {Pre : List Int → Prop} {e : EV} {T : List Int → List MO} {res : List Int → List PyData} {rest : List Stmt} {elt tg : Expr} {scope : Scope} {own : List (Str × Nat)} {p' p1 p2 p3 pos spos q : Pos} {jj : Nat}
    (F : Fun W.K fx qual st f fd) (S : FnScope N [xs] (defScope st)) (hbod : defBody st = .Assign [.Name x p'] (.ListComp elt [⟨tg, .Subscript (.Name xs p1) (.Slice none (some (.Constant (.int 63) jj q)) none p2) p3, [], 0⟩] scope pos) spos :: rest)
    (j : Nat) (hN0 : N[0]? = some xs) (hvs : (defScope st).names.lookup xs = some .local) (hd : (xs == ("__debug__" : Str)) = false) (hcd : (xs == ("__classdict__" : Str)) = false) (hN : N[j]? = some x) (hst : (defScope st).names.lookup x = some .local) (hk : (defScope st).kind = .function)
    (hln : (p'.line == spos.line) = true) (hna : (scope.names.any fun (n, k) => n == x && (k == .local || k == .cell)) = false) (hb : blkC N (defScope st) scope own = true) (hpl : pos.line = spos.line) (hs : ∀ (env : Env) z, foldedSetIterable (.Subscript (.Name xs p1) (.Slice none (some (.Constant (.int 63) jj q)) none p2) p3) env z = pure z)
    (hpre : ∀ ns, Pre ns → ns.length ≤ 63) (hres : ∀ ns, (res ns).length = ns.length)
    (body : ∀ (E : Value → Option Addr → SL → Hp → Prop) (ns : List Int) (i : Nat) z d, Pre ns → ns[i]? = some z → (res ns)[i]? = some d → LcTurn ⟨W, N, defScope st, k, true, fun _ => true, true, E⟩ scope own tg elt (List.replicate N.length .und) (dI z) [] d [])
    (hrest : ∀ (E : Value → Option Addr → SL → Hp → Prop) (ns : List Int), Pre ns → DSs ⟨W, N, defScope st, k, true, fun _ => true, true, E⟩ rest ((List.replicate N.length EV.und).set j (dL (res ns))) [] (.rt e (T ns))) :
    FnG W (k + 1) f fd [xs] (spB W.K Pre e T) := by
  refine Fun.okG F S (fun vs H Q E h => ?_) (fun cdv A outer s H vs Q E hg hr h => ?_)
  · obtain ⟨a, ns, rfl, _⟩ := h
    rfl
  · obtain ⟨a, ns, rfl, hS, hP, hend⟩ := h
    have ok := ok_top (W := W) (N := N) (qual := qual) (scope := defScope st) (f := f) (cdv := cdv) (outer := outer) (s := s) (H := H) (E := E) hg hr
    have hl := hpre ns hP
    have cutA : cutV (ns.map V.int) none (some 63) = ns.map V.int := by
      unfold cutV
      rw [show HT.sIx (ns.map V.int).length 0 none = 0 from rfl, show HT.sIx (ns.map V.int).length (ns.map V.int).length (some 63) = ns.length from by
        rw [show (63 : Int) = ((63 : Nat) : Int) from rfl, HT.sIx_nat, List.length_map]
        omega]
      rw [List.drop_zero, Nat.sub_zero, List.take_of_length_le (by simp)]
    have hPI : PI (cxOf (L2.CX W.P W.w) W.P W.w W.K W.mg W.base N qual (defScope st) f cdv A outer s H E) tg (.Subscript (.Name xs p1) (.Slice none (some (.Constant (.int 63) jj q)) none p2) p3)
        (fun σ H R => (σ[0]? = some (some (.ref a)) ∧ SqL W.K H a (ns.map V.int)) ∧ tDI (List.replicate N.length .und) [] ((ns.map PyData.int).map EV.val) [] σ H R) :=
      PI_imp (pi_list (pe_slice sl_list (pe_var hN0 (.inl hvs) hd hcd) po_none (po_some pe_int))) fun σ H R ⟨⟨h0, h1⟩, A1, R1, k1⟩ => by
        refine ⟨_, h0, 63, rfl, a, _, rfl, h1, fun p hp => ⟨p, rfl, ⟨_, SqL.of upd_same⟩, ?_⟩⟩
        have s0 : Same H (upd H p (.lst (cutV (ns.map V.int) none (some 63)))) := same_upd hp
        have rl : RepL A1.no (upd H p (.lst (cutV (ns.map V.int) none (some 63)))) (cutV (ns.map V.int) none (some 63)) (ns.map PyData.int) := by
          rw [cutA]
          exact RepL.ofInts ns
        exact k1 A1 _ _ (Tr.same s0) (R1.same s0) (it_list upd_same rl (R1.fresh hp))
    have P1 := s_lcP (Γ := List.replicate N.length .und) (S := []) (items := (ns.map PyData.int).map EV.val) (St := fun _ => []) (fun σ H => σ[0]? = some (some (.ref a)) ∧ SqL W.K H a (ns.map V.int)) j (res := res ns) ok rfl S.nd hPI (by simpa using hres ns) (by simp; omega) (fun i x d hx hd' => by
      rw [List.getElem?_map, List.getElem?_map] at hx
      cases hz : ns[i]? with
      | none => rw [hz] at hx; cases hx
      | some z =>
        rw [hz] at hx
        cases hx
        exact body (fun cls d _ H' => E cls d H') ns i z d hP hz hd') hb hN hst hk hln hna rfl hs hpl
    rw [hbod]
    refine ⟨_, pss_cons P1 (hrest (fun cls d _ H' => E cls d H') ns hP _ ok), ⟨?_, hS⟩, A00, RS.zero ?_, fun A' σ' H' t R' => ⟨A', R', ?_⟩⟩
    · have hl0 : 0 < N.length := (List.getElem?_eq_some_iff.mp hN0).1
      rfl
    · have : EReps A00 H (startE N [EV.und]) (L2.start N [.ref a]) := EReps.start ⟨trivial, trivial⟩
      have e : startE N [EV.und] = List.replicate N.length EV.und := by
        have hl0 : 0 < N.length := (List.getElem?_eq_some_iff.mp hN0).1
        unfold startE
        cases hn : N.length with
        | zero => omega
        | succ n => simp [List.replicate_succ]
      rw [e] at this
      exact this
    · exact fun A2 v σ2 H2 Γ2 t2 R2 x2 => hend A2 v H2 (t.trans t2) ⟨R2.dom, R2.nd, R2.sep, R2.len, R2.gn, R2.all, trivial, R2.sto⟩ x2
/-- the law's own def: bag = made(script), then the rest gives True -/
def spLaw (K : PySem.W.Frag) (Pre : List Int → Prop) : Sp := fun vs H Q _ => ∃ (a : Addr) (ns : List Int), vs = [.ref a] ∧ SqL K H a (ns.map V.int) ∧ Pre ns ∧ ∀ H', Q (.bl true) H'
theorem Fun.okLaw {W : WD} {qual fx x xs g : Str} {f fg : Addr} {st : Stmt} {fd fdg : FuncData} {N pg : List Str} {k : Nat} {Pre : List Int → Prop} {e : EV} {T : List Int → List MO} {rest : List Stmt} {p' p1 pg' pos spos : Pos}
    (F : Fun W.K fx qual st f fd) (S : FnScope N [xs] (defScope st)) (hbod : defBody st = .Assign [.Name x p'] (.Call (.Name g pg') [.Name xs p1] [] pos) spos :: rest)
    (hN0 : N[0]? = some xs) (hvs : (defScope st).names.lookup xs = some .local) (hd : (xs == ("__debug__" : Str)) = false) (hcd : (xs == ("__classdict__" : Str)) = false) (hN : N[1]? = some x) (hst : (defScope st).names.lookup x = some .local)
    (G : FnG W k fg fdg pg (spB W.K Pre e T)) (hmg : W.mg g = some (.ref fg)) (hkg : PySem.W.keepIn W.K (.ref fg) = true) (hbg : Binds W.K fdg pg []) (hgg : (defScope st).names.lookup g = some .globalImplicit) (hdg : (g == ("__debug__" : Str)) = false)
    (hs1 : ∀ env : Env, starEach [.Name xs p1] env = (false, eval (.Name xs p1) env) :: starEach [] env) (hs2 : ∀ env : Env, (backTo pos (starEach [] env)).any (·.1) = false) (hs3 : ∀ env : Env, env.scope = defScope st → swapsWith (.Call (.Name g pg') [.Name xs p1] [] pos) (some (.Name x p')) spos.line env = pure false)
    (hrest : ∀ (E : Value → Option Addr → SL → Hp → Prop) (ns : List Int), Pre ns → ∃ S', DSs ⟨W, N, defScope st, k, true, fun _ => true, true, E⟩ rest ((List.replicate N.length EV.und).set 1 e) (T ns) (.rt (dB true) S')) :
    FnG W (k + 1) f fd [xs] (spLaw W.K Pre) := by
  refine Fun.okG F S (fun vs H Q E h => ?_) (fun cdv A outer s H vs Q E hg hr h => ?_)
  · obtain ⟨a, ns, rfl, _⟩ := h
    rfl
  · obtain ⟨a, ns, rfl, hS, hP, hend⟩ := h
    have ok := ok_top (W := W) (N := N) (qual := qual) (scope := defScope st) (f := f) (cdv := cdv) (outer := outer) (s := s) (H := H) (E := E) hg hr
    obtain ⟨S', hR⟩ := hrest (fun cls d _ H' => E cls d H') ns hP
    have G' : FnG ⟨W.P, W.w, W.K, W.mg, W.base⟩ k fg fdg pg (spB W.K Pre e T) := G
    have P1 := ps_set (X := cxOf (L2.CX W.P W.w) W.P W.w W.K W.mg W.base N qual (defScope st) f cdv A outer s H E) (pos := spos) (pos' := p') (i := 1) S.nd hN (.inl hst)
      (pe_callG (E := fun σ cls d H => E cls d H) (p := pg') (pos := pos) G' hg (ok.room rfl) (gl_of ok hgg) hmg hkg hbg (fun σ => passAt ok.tk σ) (pa_cons (pe_var (pos := p1) hN0 (.inl hvs) hd hcd) pa_nil (hs1 _)) hdg (hs1 _) (hs2 _)) (hs3 _ rfl)
    rw [hbod]
    refine ⟨_, pss_cons P1 (hR _ ok), _, rfl, a, ns, rfl, hS, hP, fun A' v H' t R' x' => ⟨A', ?_, ?_⟩⟩
    · have e0 : EReps A00 H (startE N [EV.und]) (L2.start N [.ref a]) := EReps.start ⟨trivial, trivial⟩
      have e1 : startE N [EV.und] = List.replicate N.length EV.und := by
        have hl0 : 0 < N.length := (List.getElem?_eq_some_iff.mp hN0).1
        unfold startE
        cases hn : N.length with
        | zero => omega
        | succ n => simp [List.replicate_succ]
      rw [e1] at e0
      exact ⟨R'.dom, R'.nd, R'.sep, R'.len, R'.gn, R'.all, (t.ereps e0).setAt x' 1, R'.sto⟩
    · intro A2 v2 σ2 H2 Γ2 t2 R2 x2
      rw [show v2 = V.bl true from bl_of x2]
      exact hend H2
end DL
end
section
set_option Elab.async false
set_option linter.all false
set_option maxRecDepth 100000
set_option autoImplicit false
/-! Data layer, part 16: calls that hand over no own object. -/
namespace DL
open L2 PySem PySem.Spec PyProof.Rows
section
variable {c : Kx} {Γ : List EV} {S S1 : List MO} {e : Expr} {es : List Expr} {pos p : Pos} {x : Str} {ps : List Str} {k : Nat} {R : DL.Spec} {vs : List EV} {z : EV} {kws : List Keyword} {ks : List Str} {ix : List Nat} {cls : Value}
theorem DT.eq {j j' : Bool} (h : DT c e Γ S j S1) (hj : j = j') : DT c e Γ S j' S1 := hj ▸ h
theorem XT.eq {i : Nat} {C : Addr} {j j' : Bool} (h : XT c i C e Γ S j S1) (hj : j = j') : XT c i C e Γ S j' S1 := hj ▸ h
theorem DE.eq {y y' : EV} (h : DE c e Γ S y S1) (hj : y = y') : DE c e Γ S y' S1 := hj ▸ h
theorem DE.eqS {y : EV} {S2 : List MO} (h : DE c e Γ S y S1) (hj : S1 = S2) : DE c e Γ S y S2 := hj ▸ h
theorem DS.eqO {st : Stmt} {o o' : Out} (h : DS c st Γ S o) (hj : o = o') : DS c st Γ S o' := hj ▸ h
theorem Cmp.eq {op : CmpOp} {y y' : EV} {j j' : Bool} (h : Cmp c op y y' j S) (hj : j = j') : Cmp c op y y' j' S := hj ▸ h
theorem e_fn (F : Def c.W x ps k R) (ha : DA c (e :: es) Γ S vs S1) (hR : R vs [] (.ok z [])) (hk : k ≤ c.k := by exact Nat.le_of_ble_eq_true rfl) (hcalm : c.calm = true := by rfl) (hvs : vs.all (closedE 0) = true := by rfl)
    (hg : c.sc.names.lookup x = some .globalImplicit := by rfl) (hdb : (x == ("__debug__" : Str)) = false := by decide)
    (he : ∀ env : Env, starEach (e :: es) env = (false, eval e env) :: starEach es env := by intro _; rfl) (hpl : ∀ env : Env, (backTo pos (starEach es env)).any (·.1) = false := by intro _; rfl) :
    DE c (.Call (.Name x p) (e :: es) [] pos) Γ S z S1 :=
  e_call (Sp := []) (Sp' := []) (Sr := S1) F hR ha hk hcalm rfl hvs rfl hg hdb he hpl
theorem x_fn (F : Def c.W x ps k R) (ha : DA c (e :: es) Γ S vs S1) (hR : R vs [] (.ex cls [])) (hk : k ≤ c.k := by exact Nat.le_of_ble_eq_true rfl) (hcalm : c.calm = true := by rfl) (hvs : vs.all (closedE 0) = true := by rfl)
    (hg : c.sc.names.lookup x = some .globalImplicit := by rfl) (hdb : (x == ("__debug__" : Str)) = false := by decide)
    (he : ∀ env : Env, starEach (e :: es) env = (false, eval e env) :: starEach es env := by intro _; rfl) (hpl : ∀ env : Env, (backTo pos (starEach es env)).any (·.1) = false := by intro _; rfl) :
    DX c (.Call (.Name x p) (e :: es) [] pos) Γ S cls S1 :=
  x_call (Sp := []) (Sp' := []) (Sr := S1) F hR ha hk hcalm rfl hvs rfl hg hdb he hpl
theorem e_fnk (F : DefK c.W x ps k R ks ix) (ha : DK c kws Γ S vs S1) (hR : R (pick ix vs) [] (.ok z [])) (hk : k ≤ c.k := by exact Nat.le_of_ble_eq_true rfl) (hcalm : c.calm = true := by rfl) (hn : vs.length = ks.length := by rfl) (hvs : (pick ix vs).all (closedE 0) = true := by rfl)
    (hvz : vs.all (closedE 0) = true := by rfl) (hg : c.sc.names.lookup x = some .globalImplicit := by rfl) (hdb : (x == ("__debug__" : Str)) = false := by decide)
    (hall : ∀ env : Env, (backToKw pos (keywordEach kws env)).all (·.1.isSome) = true := by intro _; rfl) (hks : ∀ env : Env, (backToKw pos (keywordEach kws env)).filterMap (·.1) = ks := by intro _; rfl)
    (hpl : ∀ env : Env, ((backTo pos (starEach [] env)).any (·.1) || (backToKw pos (keywordEach kws env)).any (·.1.isNone)) = false := by intro _; rfl) :
    DE c (.Call (.Name x p) [] kws pos) Γ S z S1 :=
  e_callk (Sp := []) (Sp' := []) (Sr := S1) F hR ha hk hcalm hn rfl hvs hvz rfl hg hdb hall hks hpl
theorem x_fnk (F : DefK c.W x ps k R ks ix) (ha : DK c kws Γ S vs S1) (hR : R (pick ix vs) [] (.ex cls [])) (hk : k ≤ c.k := by exact Nat.le_of_ble_eq_true rfl) (hcalm : c.calm = true := by rfl) (hn : vs.length = ks.length := by rfl)
    (hvz : vs.all (closedE 0) = true := by rfl) (hg : c.sc.names.lookup x = some .globalImplicit := by rfl) (hdb : (x == ("__debug__" : Str)) = false := by decide)
    (hall : ∀ env : Env, (backToKw pos (keywordEach kws env)).all (·.1.isSome) = true := by intro _; rfl) (hks : ∀ env : Env, (backToKw pos (keywordEach kws env)).filterMap (·.1) = ks := by intro _; rfl)
    (hpl : ∀ env : Env, ((backTo pos (starEach [] env)).any (·.1) || (backToKw pos (keywordEach kws env)).any (·.1.isNone)) = false := by intro _; rfl) :
    DX c (.Call (.Name x p) [] kws pos) Γ S cls S1 :=
  x_callk (Sp := []) (Sp' := []) (Sr := S1) F hR ha hk hcalm hn rfl hvz rfl hg hdb hall hks hpl
end
section
variable {c : Kx} {Γ : List EV} {S S1 : List MO} {e : Expr} {es : List Expr} {pos p : Pos} {x : Str} {ps : List Str} {k : Nat} {R : DL.Spec} {cls : Value}
theorem pa_no {X : Cx} : PA X es (fun _ _ _ => False) := ⟨fun _ _ _ _ _ _ _ h => h.elim⟩
/-- a call whose first argument raises -/
theorem x_arg (F : Def c.W x ps k R) (h : DX c e Γ S cls S1) (hk : k ≤ c.k := by exact Nat.le_of_ble_eq_true rfl) (hcalm : c.calm = true := by rfl) (hg : c.sc.names.lookup x = some .globalImplicit := by rfl) (hdb : (x == ("__debug__" : Str)) = false := by decide)
    (he : ∀ env : Env, starEach (e :: es) env = (false, eval e env) :: starEach es env := by intro _; rfl) (hpl : ∀ env : Env, (backTo pos (starEach es env)).any (·.1) = false := by intro _; rfl) :
    DX c (.Call (.Name x p) (e :: es) [] pos) Γ S cls S1 := fun X ok => by
  obtain ⟨f, fd, h1, h2, h3, h4⟩ := (F.mono hk).ex
  rw [ok.W_eq] at h3
  exact PE_imp (pe_callG h3 ok.gu (ok.room hcalm) (gl_of ok hg) (by rw [ok.mg]; exact h1) (by rw [ok.K]; exact h2) (by rw [ok.K]; exact h4) (fun σ => passAt ok.tk σ) (pa_cons (h X ok) pa_no (he X.env)) hdb (he X.env) (hpl X.env)) fun σ H Q hx => hx
end
section
variable {c : Kx} {scope : Scope} {elt test : Expr} {Γ : List EV} {Sx Sy : List MO} {x y : Str} {ev : EV} {d : PyData} {od : Option PyData} {pos p1 p2 : Pos} {kk : Nat} {d1 d2 : PyData}
theorem set2_comm {α : Type} (l : List α) {i j : Nat} (a b : α) (h : i ≠ j) : (l.set i a).set j b = (l.set j b).set i a := List.set_comm a b h
theorem wipe1 (i : Nat) (ev : EV) : (wipeE Γ [i]).set i ev = Γ.set i ev ∧ wipeE (Γ.set i ev) [i] = wipeE Γ [i] := by
  show (Γ.set i .und).set i ev = _ ∧ (Γ.set i ev).set i .und = Γ.set i .und
  rw [List.set_set, List.set_set]
  exact ⟨rfl, rfl⟩
theorem wipe2 (i j : Nat) (e1 e2 : EV) (hij : i ≠ j) : ((wipeE Γ [i, j]).set i e1).set j e2 = (Γ.set i e1).set j e2 ∧ wipeE ((Γ.set i e1).set j e2) [i, j] = wipeE Γ [i, j] := by
  constructor
  · show ((((Γ.set j .und).set i .und)).set i e1).set j e2 = _
    rw [List.set_set, set2_comm _ _ _ (Ne.symm hij), List.set_set]
  · show (((Γ.set i e1).set j e2).set j .und).set i .und = (Γ.set j .und).set i .und
    rw [List.set_set, set2_comm _ _ _ (Ne.symm hij), set2_comm _ _ _ (Ne.symm hij), List.set_set]
theorem turn1 (i : Nat) (hnd : c.N.Nodup) (he : DE (c.blk scope) elt (Γ.set i ev) Sx (.val d) Sy) (hN : c.N[i]? = some x := by rfl) (hs : Sto (c.blk scope) x := by first | exact Or.inl rfl | exact Or.inr ⟨rfl, rfl⟩) : LcTurn c scope [(x, i)] (.Name x pos) elt Γ ev Sx d Sy :=
  ⟨Γ.set i ev, [i], g_n (c := c.blk scope) i hnd hN hs (wipe1 i ev).1, by simp, (wipe1 i ev).2, he⟩
theorem turn1F (i : Nat) (hnd : c.N.Nodup) (he : match (motive := Option PyData → Prop) od with | some d => ∃ Sm, DT (c.blk scope) test (Γ.set i ev) Sx true Sm ∧ DE (c.blk scope) elt (Γ.set i ev) Sm (.val d) Sy | none => DT (c.blk scope) test (Γ.set i ev) Sx false Sy) (hN : c.N[i]? = some x := by rfl)
    (hs : Sto (c.blk scope) x := by first | exact Or.inl rfl | exact Or.inr ⟨rfl, rfl⟩) : LcTurnF c scope [(x, i)] (.Name x pos) elt test Γ ev Sx od Sy :=
  ⟨Γ.set i ev, [i], g_n (c := c.blk scope) i hnd hN hs (wipe1 i ev).1, by simp, (wipe1 i ev).2, he⟩
theorem g_two (hc : c.calm = true) (i j : Nat) (hij : i ≠ j) (hnd : c.N.Nodup) (hN : c.N[i]? = some x) (hs : Sto (c.blk scope) x) (hM : c.N[j]? = some y) (ht : Sto (c.blk scope) y) :
    DG (c.blk scope) (.Tuple [.Name x p1, .Name y p2] kk pos) (wipeE Γ [i, j]) Sx (dT [d1, d2]) ((Γ.set i (.val d1)).set j (.val d2)) ([i] ++ ([j] ++ [])) :=
  g_t (c := c.blk scope) hc (gs_cons (g_n (c := c.blk scope) i hnd hN hs rfl) (gs_cons (g_n (c := c.blk scope) j hnd hM ht (wipe2 i j _ _ hij).1) gs_nil)) (fun _ => rfl) (fun _ => rfl) rfl
theorem turn2 (hc : c.calm = true) (i j : Nat) (hnd : c.N.Nodup) (he : DE (c.blk scope) elt ((Γ.set i (.val d1)).set j (.val d2)) Sx (.val d) Sy) (hij : i ≠ j := by decide) (hN : c.N[i]? = some x := by rfl) (hs : Sto (c.blk scope) x := by first | exact Or.inl rfl | exact Or.inr ⟨rfl, rfl⟩)
    (hM : c.N[j]? = some y := by rfl) (ht : Sto (c.blk scope) y := by first | exact Or.inl rfl | exact Or.inr ⟨rfl, rfl⟩) : LcTurn c scope [(x, i), (y, j)] (.Tuple [.Name x p1, .Name y p2] kk pos) elt Γ (dT [d1, d2]) Sx d Sy :=
  ⟨_, _, g_two hc i j hij hnd hN hs hM ht, by simp, (wipe2 i j _ _ hij).2, he⟩
theorem turn2F (hc : c.calm = true) (i j : Nat) (hnd : c.N.Nodup) (he : match (motive := Option PyData → Prop) od with | some d => ∃ Sm, DT (c.blk scope) test ((Γ.set i (.val d1)).set j (.val d2)) Sx true Sm ∧ DE (c.blk scope) elt ((Γ.set i (.val d1)).set j (.val d2)) Sm (.val d) Sy | none => DT (c.blk scope) test ((Γ.set i (.val d1)).set j (.val d2)) Sx false Sy)
    (hij : i ≠ j := by decide) (hN : c.N[i]? = some x := by rfl) (hs : Sto (c.blk scope) x := by first | exact Or.inl rfl | exact Or.inr ⟨rfl, rfl⟩)
    (hM : c.N[j]? = some y := by rfl) (ht : Sto (c.blk scope) y := by first | exact Or.inl rfl | exact Or.inr ⟨rfl, rfl⟩) : LcTurnF c scope [(x, i), (y, j)] (.Tuple [.Name x p1, .Name y p2] kk pos) elt test Γ (dT [d1, d2]) Sx od Sy :=
  ⟨_, _, g_two hc i j hij hnd hN hs hM ht, by simp, (wipe2 i j _ _ hij).2, he⟩
end
end DL
end
section
set_option Elab.async false
set_option linter.all false
set_option maxRecDepth 100000
set_option autoImplicit false
/-! Data layer, part 17: how long what repr shows may be. -/
namespace DL
open L2 PySem PySem.Spec PyProof.Rows
mutual
/-- a bound of what is shown -/
def wt : PyData → Nat
  | .none => 4
  | .bool _ => 5
  | .int _ => 1921
  | .str x => (reprText x).length
  | .list xs => wtL xs + 2
  | .tuple xs => wtL xs + 3
  | .dict kvs => wtK kvs + 2
def wtL : List PyData → Nat
  | [] => 0
  | x :: xs => wt x + 2 + wtL xs
def wtK : List (PyData × PyData) → Nat
  | [] => 0
  | (k, v) :: r => wt k + wt v + 4 + wtK r
end
theorem list_text_len (ts : List Str) : (listText ts).length ≤ piled ts + 2 := by
  have h1 : ("[" : Str).length = 1 := by decide
  have h2 : ("]" : Str).length = 1 := by decide
  have h3 : ("" : Str).length = 0 := by decide
  cases ts with
  | nil =>
    show (("[" : Str) ++ ("]" : Str)).length ≤ _
    rw [strLen_append]
    omega
  | cons t r =>
    show (textFrom 1 (("[" : Str) ++ ("" : Str) ++ t) r ++ ("]" : Str)).length ≤ _
    rw [strLen_append, textFrom_length_pos _ _ _ (by decide), strLen_append, strLen_append, piled_cons]
    omega
theorem tuple_text_len (ts : List Str) : (tupleText ts).length ≤ piled ts + 3 := by
  have h1 : ("(" : Str).length = 1 := by decide
  have h2 : (",)" : Str).length = 2 := by decide
  have h3 : (")" : Str).length = 1 := by decide
  have hj : (Str.join ", " ts).length ≤ piled ts := by
    cases ts with
    | nil => exact Nat.zero_le _
    | cons t r =>
      have := join_length_add (t :: r) (by simp)
      omega
  unfold tupleText
  rw [strLen_append, strLen_append]
  have : ((if ts.length == 1 then ",)" else ")" : String) : Str).length ≤ 2 := by
    cases ts.length == 1
    · exact Nat.le_of_lt (by decide : (")" : Str).length < 2)
    · exact Nat.le_of_eq (by decide : (",)" : Str).length = 2)
  omega
theorem dict_text_len (ts : List Str) : (dictText ts).length ≤ piled ts + 2 := by
  have h1 : ("{" : Str).length = 1 := by decide
  have h2 : ("}" : Str).length = 1 := by decide
  have hj : (Str.join ", " ts).length ≤ piled ts := by
    cases ts with
    | nil => exact Nat.zero_le _
    | cons t r =>
      have := join_length_add (t :: r) (by simp)
      omega
  unfold dictText
  rw [strLen_append, strLen_append]
  omega
mutual
theorem shown_wt : ∀ d : PyData, d.showable = true → d.shown.length ≤ wt d
  | .none, _ => by rw [PyData.shown_none]; decide
  | .bool b, _ => by rw [PyData.shown_bool]; cases b <;> decide
  | .int i, h => by
    have h' : i.natAbs.log2 < 1920 := by simpa [PyData.showable] using h
    rw [PyData.shown_int]
    exact int_text_len_1921 h'
  | .str x, _ => by
    rw [PyData.shown_str]
    simp [wt]
  | .list xs, h => by
    have h2 := shown_wtL xs (by simpa [PyData.showable] using h)
    have h3 := list_text_len (PyData.shownAll xs)
    rw [show (PyData.list xs).shown = listText (PyData.shownAll xs) from by simp [PyData.shown]]
    simp only [wt]
    omega
  | .tuple xs, h => by
    have h2 := shown_wtL xs (by simpa [PyData.showable] using h)
    have h3 := tuple_text_len (PyData.shownAll xs)
    rw [show (PyData.tuple xs).shown = tupleText (PyData.shownAll xs) from by simp [PyData.shown]]
    simp only [wt]
    omega
  | .dict kvs, h => by
    have h2 := shown_wtK kvs (by simpa [PyData.showable] using h)
    have h3 := dict_text_len (PyData.shownKv kvs)
    rw [show (PyData.dict kvs).shown = dictText (PyData.shownKv kvs) from by simp [PyData.shown]]
    simp only [wt]
    omega
theorem shown_wtL : ∀ xs : List PyData, PyData.showableAll xs = true → piled (PyData.shownAll xs) ≤ wtL xs
  | [], _ => Nat.zero_le _
  | x :: xs, h => by
    simp only [PyData.showableAll, Bool.and_eq_true] at h
    have h1 := shown_wt x h.1
    have h2 := shown_wtL xs h.2
    rw [show PyData.shownAll (x :: xs) = x.shown :: PyData.shownAll xs from by simp [PyData.shownAll], piled_cons]
    simp only [wtL]
    omega
theorem shown_wtK : ∀ xs : List (PyData × PyData), PyData.showableKv xs = true → piled (PyData.shownKv xs) ≤ wtK xs
  | [], _ => Nat.zero_le _
  | (k, v) :: xs, h => by
    simp only [PyData.showableKv, Bool.and_eq_true] at h
    have h1 := shown_wt k h.1.1
    have h2 := shown_wt v h.1.2
    have h3 := shown_wtK xs h.2
    rw [show PyData.shownKv ((k, v) :: xs) = (k.shown ++ ": " ++ v.shown) :: PyData.shownKv xs from by simp [PyData.shownKv], piled_cons, strLen_append, strLen_append]
    have e : (": " : Str).length = 2 := by decide
    simp only [wtK]
    omega
end
/-- plain signs -/
def Cps (x : Str) : Prop := ∀ c, c ∈ x.cps.toList → c < 16 ^ 8
theorem cps_of (s : String) : Cps (Str.ofString s) := by
  intro c h
  have h' : c ∈ s.toList.map Char.toNat := by
    rw [Str.ofString_eq_toList] at h
    simpa using h
  obtain ⟨d, _, rfl⟩ := List.mem_map.mp h'
  have := d.valid
  have h2 : d.toNat < 0x110000 := by
    rcases this with z | ⟨_, z⟩
    · exact Nat.lt_trans z (by decide)
    · exact z
  exact Nat.lt_trans h2 (by decide)
theorem cps_app {x y : Str} (hx : Cps x) (hy : Cps y) : Cps (x ++ y) := by
  intro c h
  have h' : c ∈ x.cps.toList ++ y.cps.toList := by
    have e : (x ++ y).cps = x.cps ++ y.cps := rfl
    rw [e] at h
    simpa using h
  rcases List.mem_append.mp h' with z | z
  · exact hx c z
  · exact hy c z
theorem cps_join : ∀ ts : List Str, (∀ t, t ∈ ts → Cps t) → Cps (Str.join (", " : Str) ts)
  | [], _ => fun c h => absurd h (by show ¬ c ∈ ([] : List Nat); simp)
  | [x], h => h x List.mem_cons_self
  | x :: y :: r, h => by
    show Cps (x ++ (", " : Str) ++ Str.join (", " : Str) (y :: r))
    exact cps_app (cps_app (h x List.mem_cons_self) (cps_of ", ")) (cps_join (y :: r) fun t ht => h t (List.mem_cons_of_mem _ ht))
/-- what is shown of a row of ints -/
theorem row_shown (r : List Int) (h : PyData.showableAll (r.map PyData.int) = true) : (reprText (PyData.tuple (r.map PyData.int)).shown).length ≤ 10 * (wtL (r.map PyData.int) + 3) + 2 := by
  have h1 := shown_wt (.tuple (r.map PyData.int)) (by simpa [PyData.showable] using h)
  have hc : Cps (PyData.tuple (r.map PyData.int)).shown := by
    rw [show (PyData.tuple (r.map PyData.int)).shown = tupleText (PyData.shownAll (r.map PyData.int)) from by simp [PyData.shown]]
    unfold tupleText
    refine cps_app (cps_app (cps_of "(") (cps_join _ fun t ht => ?_)) (cps_of _)
    have e : ∀ l : List Int, PyData.shownAll (l.map PyData.int) = l.map fun i => Str.ofString (toString i) := by
      intro l
      induction l with
      | nil => rfl
      | cons a l ih => rw [List.map_cons, List.map_cons, ← ih, ← PyData.shown_int]; simp [PyData.shownAll]
    rw [e] at ht
    obtain ⟨i, _, rfl⟩ := List.mem_map.mp ht
    exact cps_of _
  have h2 := StrLaws.reprText_len _ hc
  simp only [wt] at h1
  omega
end DL
end
section
set_option Elab.async false
set_option linter.all false
set_option maxRecDepth 100000
set_option maxHeartbeats 4000000
set_option autoImplicit false
/-! k83, part a: the program's defs. -/
namespace K83
open L2 PySem PySem.Spec PyProof.Rows DL
def top (i : Nat) : Stmt := PySem.Challenge.pw_leadterms_k83_whole_series_others.main.body.getD i (.Pass ⟨0, 0, 0, 0⟩)
/-- built-in names that the top does not write -/
structure Bt (W : WD) : Prop where
  isi : W.mg "isinstance" = none
  int : W.mg "int" = none
  bool : W.mg "bool" = none
  tuple : W.mg "tuple" = none
  str : W.mg "str" = none
  len : W.mg "len" = none
  range : W.mg "range" = none
  sum : W.mg "sum" = none
  list : W.mg "list" = none
  abs : W.mg "abs" = none
  repr : W.mg "repr" = none
  enum : W.mg "enumerate" = none
  zip : W.mg "zip" = none
  rev : W.mg "reversed" = none
  verr : W.mg "ValueError" = none
variable {W : WD}
section
variable {c : Kx} {Γ : List EV} {S S1 : List MO} {e : Expr} {p pos q : Pos}
def isI : PyData → Bool
  | .int _ => true
  | .bool _ => true
  | _ => false
def isBo : PyData → Bool
  | .bool _ => true
  | _ => false
def isT : PyData → Bool
  | .tuple _ => true
  | _ => false
def isS : PyData → Bool
  | .str _ => true
  | _ => false
theorem boot_int : bootBuiltins ("int" : Str) = some (.type "int") := by decide +kernel
theorem boot_bool : bootBuiltins ("bool" : Str) = some (.type "bool") := by decide +kernel
theorem boot_tup : bootBuiltins ("tuple" : Str) = some (.type "tuple") := by decide +kernel
theorem boot_st : bootBuiltins ("str" : Str) = some (.type "str") := by decide +kernel
theorem kit_int : ∀ d : PyData, kitB (tyD d) "int" = some (isI d)
  | .none => (by decide +kernel : kitB "NoneType" "int" = some false)
  | .bool _ => (by decide +kernel : kitB "bool" "int" = some true)
  | .int _ => (by decide +kernel : kitB "int" "int" = some true)
  | .str _ => (by decide +kernel : kitB "str" "int" = some false)
  | .list _ => (by decide +kernel : kitB "list" "int" = some false)
  | .tuple _ => (by decide +kernel : kitB "tuple" "int" = some false)
  | .dict _ => (by decide +kernel : kitB "dict" "int" = some false)
theorem kit_bool : ∀ d : PyData, kitB (tyD d) "bool" = some (isBo d)
  | .none => (by decide +kernel : kitB "NoneType" "bool" = some false)
  | .bool _ => (by decide +kernel : kitB "bool" "bool" = some true)
  | .int _ => (by decide +kernel : kitB "int" "bool" = some false)
  | .str _ => (by decide +kernel : kitB "str" "bool" = some false)
  | .list _ => (by decide +kernel : kitB "list" "bool" = some false)
  | .tuple _ => (by decide +kernel : kitB "tuple" "bool" = some false)
  | .dict _ => (by decide +kernel : kitB "dict" "bool" = some false)
theorem kit_tup : ∀ d : PyData, kitB (tyD d) "tuple" = some (isT d)
  | .none => (by decide +kernel : kitB "NoneType" "tuple" = some false)
  | .bool _ => (by decide +kernel : kitB "bool" "tuple" = some false)
  | .int _ => (by decide +kernel : kitB "int" "tuple" = some false)
  | .str _ => (by decide +kernel : kitB "str" "tuple" = some false)
  | .list _ => (by decide +kernel : kitB "list" "tuple" = some false)
  | .tuple _ => (by decide +kernel : kitB "tuple" "tuple" = some true)
  | .dict _ => (by decide +kernel : kitB "dict" "tuple" = some false)
theorem kit_str : ∀ d : PyData, kitB (tyD d) "str" = some (isS d)
  | .none => (by decide +kernel : kitB "NoneType" "str" = some false)
  | .bool _ => (by decide +kernel : kitB "bool" "str" = some false)
  | .int _ => (by decide +kernel : kitB "int" "str" = some false)
  | .str _ => (by decide +kernel : kitB "str" "str" = some true)
  | .list _ => (by decide +kernel : kitB "list" "str" = some false)
  | .tuple _ => (by decide +kernel : kitB "tuple" "str" = some false)
  | .dict _ => (by decide +kernel : kitB "dict" "str" = some false)
theorem isi_int (B : Bt c.W) {x : PyData} (h : DE c e Γ S (.val x) S1) (hg : c.sc.names.lookup ("isinstance" : Str) = some .globalImplicit := by rfl) (hgT : c.sc.names.lookup ("int" : Str) = some .globalImplicit := by rfl)
    (hs : ∀ env : Env, starEach [e, .Name "int" q] env = (false, eval e env) :: starEach [.Name "int" q] env := by intro _; rfl) : DE c (.Call (.Name "isinstance" p) [e, .Name "int" q] [] pos) Γ S (dB (isI x)) S1 :=
  e_isi B.isi B.int boot_int h (kit_int x) hg hgT (hs := hs)
theorem isi_bool (B : Bt c.W) {x : PyData} (h : DE c e Γ S (.val x) S1) (hg : c.sc.names.lookup ("isinstance" : Str) = some .globalImplicit := by rfl) (hgT : c.sc.names.lookup ("bool" : Str) = some .globalImplicit := by rfl)
    (hs : ∀ env : Env, starEach [e, .Name "bool" q] env = (false, eval e env) :: starEach [.Name "bool" q] env := by intro _; rfl) : DE c (.Call (.Name "isinstance" p) [e, .Name "bool" q] [] pos) Γ S (dB (isBo x)) S1 :=
  e_isi B.isi B.bool boot_bool h (kit_bool x) hg hgT (hs := hs)
theorem isi_tup (B : Bt c.W) {x : PyData} (h : DE c e Γ S (.val x) S1) (hg : c.sc.names.lookup ("isinstance" : Str) = some .globalImplicit := by rfl) (hgT : c.sc.names.lookup ("tuple" : Str) = some .globalImplicit := by rfl)
    (hs : ∀ env : Env, starEach [e, .Name "tuple" q] env = (false, eval e env) :: starEach [.Name "tuple" q] env := by intro _; rfl) : DE c (.Call (.Name "isinstance" p) [e, .Name "tuple" q] [] pos) Γ S (dB (isT x)) S1 :=
  e_isi B.isi B.tuple boot_tup h (kit_tup x) hg hgT (hs := hs)
theorem isi_str (B : Bt c.W) {x : PyData} (h : DE c e Γ S (.val x) S1) (hg : c.sc.names.lookup ("isinstance" : Str) = some .globalImplicit := by rfl) (hgT : c.sc.names.lookup ("str" : Str) = some .globalImplicit := by rfl)
    (hs : ∀ env : Env, starEach [e, .Name "str" q] env = (false, eval e env) :: starEach [.Name "str" q] env := by intro _; rfl) : DE c (.Call (.Name "isinstance" p) [e, .Name "str" q] [] pos) Γ S (dB (isS x)) S1 :=
  e_isi B.isi B.str boot_st h (kit_str x) hg hgT (hs := hs)
end
/-- global numbers -/
structure Gi (W : WD) : Prop where
  cut : ∃ t, W.mg "MAX_CUT" = some (.int 16 t)
  item : ∃ t, W.mg "MAX_ITEM" = some (.int 1000000 t)
/-! ### is_number(value) -/
def isNum : PyData → Bool
  | .int _ => true
  | _ => false
theorem isNum_eq (d : PyData) : (isI d && !isBo d) = isNum d := by cases d <;> rfl
def R15 : DL.Spec := fun es S r => ∃ d, es = [.val d] ∧ S = [] ∧ r = .ok (dB (isNum d)) []
theorem sc15 : FnScope ["value"] ["value"] (defScope (top 15)) := ⟨rfl, rfl, rfl, by decide +kernel, rfl, by decide +kernel, by decide +kernel⟩
theorem ok15 {f : Addr} {fd : FuncData} (B : Bt W) (F : Fun W.K "is_number" "is_number" (top 15) f fd) : FnG W 2 f fd ["value"] (spD R15) := by
  refine Fun.okD F sc15 (fun es S r h => ?_) (fun E es S r h => ?_)
  · obtain ⟨d, rfl, _⟩ := h
    rfl
  · obtain ⟨d, rfl, rfl, rfl⟩ := h
    refine ⟨.rt (dB (isNum d)) [], .val (.val _) rfl rfl, ?_⟩
    refine ss_one (s_ret ?_)
    rw [← isNum_eq]
    exact e_and (isi_int B (e_v 0)) fun _ => e_and1 (e_not (isi_bool B (e_v 0)))
/-! ### is_within(value, least, most) -/
def inR (d : PyData) (lo hi : Int) : Bool := match d with
  | .int i => decide (lo ≤ i) && decide (i ≤ hi)
  | _ => false
def R16 : DL.Spec := fun es S r => ∃ d lo hi, es = [.val d, dI lo, dI hi] ∧ S = [] ∧ r = .ok (dB (inR d lo hi)) []
theorem sc16 : FnScope ["value", "least", "most"] ["value", "least", "most"] (defScope (top 16)) := ⟨rfl, rfl, rfl, by decide +kernel, rfl, by decide +kernel, by decide +kernel⟩
theorem ok16 {f : Addr} {fd : FuncData} (D15 : Def W "is_number" ["value"] 2 R15) (F : Fun W.K "is_within" "is_within" (top 16) f fd) : FnG W 4 f fd ["value", "least", "most"] (spD R16) := by
  refine Fun.okD F sc16 (fun es S r h => ?_) (fun E es S r h => ?_)
  · obtain ⟨d, lo, hi, rfl, _⟩ := h
    rfl
  · obtain ⟨d, lo, hi, rfl, rfl, rfl⟩ := h
    refine ⟨.rt (dB (inR d lo hi)) [], .val (.val _) rfl rfl, ?_⟩
    refine ss_one (s_ret ?_)
    have e : inR d lo hi = (isNum d && inR d lo hi) := by cases d <;> rfl
    rw [e]
    refine e_and (e_fn D15 (a_cons (e_v 0) a_nil) ⟨_, rfl, rfl, rfl⟩) fun h => e_and1 ?_
    cases d with
    | int i => exact e_chain (e_v 1) (e_v 0) c_le (fun _ => e_v 2) (fun _ => c_le)
    | _ => cases h
end K83
end
section
set_option Elab.async false
set_option linter.all false
set_option maxRecDepth 100000
set_option maxHeartbeats 4000000
set_option autoImplicit false
/-! k83, part b: the program's series. -/
namespace K83
open L2 PySem PySem.Spec PyProof.Rows DL
variable {W : WD}
theorem canLay_ints : ∀ ns : List Int, PyData.canLayAll0 (ns.map PyData.int) = true
  | [] => rfl
  | n :: ns => by
    have := canLay_ints ns
    simp [PyData.canLayAll0, PyData.canLay0] at this ⊢
    exact this
theorem depth_ints : ∀ ns : List Int, PyData.depthAll (ns.map PyData.int) = 0
  | [] => rfl
  | n :: ns => by
    have := depth_ints ns
    simp [PyData.depthAll, PyData.depth] at this ⊢
    exact this
theorem hasDict_ints : ∀ ns : List Int, PyData.hasDictAll (ns.map PyData.int) = false
  | [] => rfl
  | n :: ns => by
    have := hasDict_ints ns
    simp [PyData.hasDictAll, PyData.hasDict] at this ⊢
    exact this
theorem shaped_ints (ns : List Int) : SeqAt.shaped (.list (ns.map PyData.int)) = true := by
  unfold SeqAt.shaped
  simp [PyData.canLay0, PyData.depth, canLay_ints, depth_ints]
theorem c_neNil {c : Kx} {S : List MO} (ns : List Int) : Cmp c .NotEq (dL (ns.map PyData.int)) (dL []) (!ns.isEmpty) S := by
  have h := c_neD (c := c) (S := S) (x := .list (ns.map PyData.int)) (y := .list []) (by simp [PyData.hasDict, hasDict_ints]) rfl (shaped_ints ns) (shaped_ints [])
  have e : (!PyData.eqv (.list (ns.map PyData.int)) (.list [])) = !ns.isEmpty := by
    cases ns <;> rfl
  rw [e] at h
  exact h
/-! ### series_error(value) -/
def oddR (xs : List PyData) (i : Nat) : Option Int := match xs[i]? with
  | some x => if inR x (-1000000) 1000000 = true then none else some (i : Int)
  | none => none
def odds (xs : List PyData) : List Int := (List.range xs.length).filterMap (oddR xs)
def errD : PyData → PyData
  | .tuple xs => if 1 ≤ xs.length ∧ xs.length ≤ 16 then (match odds xs with | [] => .none | o :: _ => .tuple [.str "item", .int o]) else .str "form"
  | _ => .str "form"
def R18 : DL.Spec := fun es S r => ∃ d, es = [.val d] ∧ S = [] ∧ r = .ok (.val (errD d)) []
theorem sc18 : FnScope ["value", "odd", "place", "item"] ["value"] (defScope (top 18)) := ⟨rfl, rfl, rfl, by decide +kernel, rfl, by decide +kernel, by decide +kernel⟩
theorem ok18 {f : Addr} {fd : FuncData} (B : Bt W) (G : Gi W) (D16 : Def W "is_within" ["value", "least", "most"] 4 R16) (F : Fun W.K "series_error" "series_error" (top 18) f fd) : FnG W 6 f fd ["value"] (spD R18) := by
  refine Fun.okD F sc18 (fun es S r h => ?_) (fun E es S r h => ?_)
  · obtain ⟨d, rfl, _⟩ := h
    rfl
  · obtain ⟨d, rfl, rfl, rfl⟩ := h
    refine ⟨.rt (.val (errD d)) [], .val (.val _) rfl rfl, ?_⟩
    by_cases hd : ∃ xs, d = .tuple xs
    · obtain ⟨xs, rfl⟩ := hd
      by_cases hl : 1 ≤ xs.length ∧ xs.length ≤ 16
      · refine ss_cons (s_ifF (DT.eq (t_w (w_or (t_not (t_val (isi_tup B (e_v 0)))) fun h => w_or1 (t_not (t_chain e_int (e_lent B.len (e_v 0)) c_le (fun _ => e_gint G.cut) (fun _ => c_le))))) ?_) ss_nil) ?_
        · rw [decide_eq_true (by omega : (1 : Int) ≤ xs.length), decide_eq_true (by omega : (xs.length : Int) ≤ 16)]
          rfl
        have hlen : (enumE xs).length = xs.length := by simp [enumE]
        have eo : dL ((List.range (enumE xs).length).filterMap fun i => (oddR xs i).map PyData.int) = dL ((odds xs).map PyData.int) := by
          rw [hlen, odds, List.map_filterMap]
        refine ss_cons (s_lcF (Γ' := [dT xs, dL ((odds xs).map PyData.int), .und, .und]) (hΓ := by rw [eo]; rfl) (St := fun _ => []) (items := enumE xs) (r := fun i => (oddR xs i).map PyData.int) (own := [("place", 2), ("item", 3)]) 1 rfl sc18.nd (i_et B.enum (e_v 0)) (by rw [hlen]; omega) (fun i x hx => ?_)) (ss_one (s_ret ?_))
        · obtain ⟨z, hz, rfl⟩ := enumE_get hx
          refine turn2F rfl 2 3 sc18.nd ?_
          unfold oddR
          rw [hz]
          by_cases hr : inR z (-1000000) 1000000 = true
          · simp only [hr, if_true, Option.map_none]
            exact DT.eq (t_not (t_val (e_fn D16 (a_cons (e_v 3) (a_cons (e_neg (e_gint G.item)) (a_cons (e_gint G.item) a_nil))) ⟨z, -1000000, 1000000, rfl, rfl, rfl⟩))) (by rw [hr]; rfl)
          · rw [Bool.not_eq_true] at hr
            simp only [hr, Bool.false_eq_true, if_false, Option.map_some]
            exact ⟨_, DT.eq (t_not (t_val (e_fn D16 (a_cons (e_v 3) (a_cons (e_neg (e_gint G.item)) (a_cons (e_gint G.item) a_nil))) ⟨z, -1000000, 1000000, rfl, rfl, rfl⟩))) (by rw [hr]; rfl), e_v 2⟩
        · have he : errD (.tuple xs) = (match odds xs with | [] => .none | o :: _ => .tuple [.str "item", .int o]) := if_pos hl
          rw [he]
          refine e_if (t_cmp (e_v 1) (e_lst a_nil) (c_neNil (odds xs))) (fun h => ?_) (fun h => ?_)
          · cases ho : odds xs with
            | nil => rw [ho] at h; cases h
            | cons o os =>
              refine e_tup (a_cons e_str (a_cons (e_ixl (x := .int o) (e_v 1) e_int ?_) a_nil))
              simp [atI, ixN]
          · cases ho : odds xs with
            | nil => exact e_non
            | cons o os => rw [ho] at h; cases h
      · have he : errD (.tuple xs) = .str "form" := if_neg hl
        rw [he]
        refine ss_stop (s_ifT (DT.eq (t_w (w_or (t_not (t_val (isi_tup B (e_v 0)))) fun h => w_or1 (t_not (t_chain e_int (e_lent B.len (e_v 0)) c_le (fun _ => e_gint G.cut) (fun _ => c_le))))) ?_) (ss_one (s_ret e_str)))
        by_cases h1 : 1 ≤ xs.length
        · rw [decide_eq_true (by omega : (1 : Int) ≤ xs.length), decide_eq_false (by omega : ¬ (xs.length : Int) ≤ 16)]
          rfl
        · rw [decide_eq_false (by omega : ¬ (1 : Int) ≤ xs.length)]
          rfl
    · have he : errD d = .str "form" := by
        cases d with
        | tuple xs => exact absurd ⟨xs, rfl⟩ hd
        | _ => rfl
      have ht : isT d = false := by
        cases d with
        | tuple xs => exact absurd ⟨xs, rfl⟩ hd
        | _ => rfl
      rw [he]
      exact ss_stop (s_ifT (t_w (w_orT (DT.eq (t_not (t_val (isi_tup B (e_v 0)))) (by rw [ht]; rfl)))) (ss_one (s_ret e_str)))
/-! ### product_item(one, other, n) -/
abbrev ti (r : List Int) : PyData := .tuple (r.map PyData.int)
def Sm (r : List Int) : Prop := ∀ x, x ∈ r → x.natAbs.log2 < 20000
theorem at_row {r : List Int} {i : Nat} (h : i < r.length) {z : Int} (hz : z = (i : Nat)) : atI (r.map PyData.int) z = some (.int (r.getD i 0)) := by
  subst hz
  unfold atI ixN
  rw [if_pos (by omega), if_pos (by simpa using h)]
  simp [h]
theorem rng_get {lo : Int} {n i : Nat} {x : EV} (h : (rngE lo n)[i]? = some x) : i < n ∧ x = dI (lo + (i : Int)) := by
  unfold rngE at h
  rw [List.getElem?_map] at h
  by_cases hi : i < n
  · rw [List.getElem?_range hi] at h
    exact ⟨hi, (Option.some.inj h).symm⟩
  · rw [List.getElem?_eq_none (by simpa using hi)] at h
    cases h
theorem Sm.at_ {r : List Int} (h : Sm r) (i : Nat) : (r.getD i 0).natAbs.log2 < 20000 := by
  by_cases hi : i < r.length
  · rw [List.getD_eq_getElem?_getD, List.getElem?_eq_getElem hi]
    exact h _ (List.getElem_mem hi)
  · rw [List.getD_eq_getElem?_getD, List.getElem?_eq_none (by omega)]
    decide
theorem Sm.mul {a b : List Int} (ha : Sm a) (hb : Sm b) (i j : Nat) : CMulW (a.getD i 0) (b.getD j 0) := by
  have h1 := ha.at_ i
  have h2 := hb.at_ j
  unfold CMulW
  omega
theorem map_get {α β : Type} {l : List α} {f : α → β} {i : Nat} {d : β} (h : (l.map f)[i]? = some d) : ∃ a, l[i]? = some a ∧ d = f a := by
  rw [List.getElem?_map] at h
  cases q : l[i]? with
  | none => rw [q] at h; cases h
  | some a => rw [q] at h; exact ⟨a, rfl, (Option.some.inj h).symm⟩
theorem range_get {n i j : Nat} (h : (List.range n)[i]? = some j) : j = i ∧ i < n := by
  by_cases hi : i < n
  · rw [List.getElem?_range hi] at h
    exact ⟨(Option.some.inj h).symm, hi⟩
  · rw [List.getElem?_eq_none (by simpa using hi)] at h
    cases h
def pit (a b : List Int) (n : Nat) : Int := ((List.range (n + 1)).map fun i => a.getD i 0 * b.getD (n - i) 0).sum
def R19 : DL.Spec := fun es S r => ∃ (a b : List Int) (n : Nat), es = [.val (ti a), .val (ti b), dI (n : Nat)] ∧ S = [] ∧ n < a.length ∧ n < b.length ∧ a.length ≤ 16 ∧ Sm a ∧ Sm b ∧ r = .ok (dI (pit a b n)) []
theorem sc19 : FnScope ["one", "other", "n", "i"] ["one", "other", "n"] (defScope (top 19)) := ⟨rfl, rfl, rfl, by decide +kernel, rfl, by decide +kernel, by decide +kernel⟩
theorem ok19 {f : Addr} {fd : FuncData} (B : Bt W) (F : Fun W.K "product_item" "product_item" (top 19) f fd) : FnG W 2 f fd ["one", "other", "n"] (spD R19) := by
  refine Fun.okD F sc19 (fun es S r h => ?_) (fun E es S r h => ?_)
  · obtain ⟨a, b, n, rfl, _⟩ := h
    rfl
  · obtain ⟨a, b, n, rfl, rfl, h1, h2, h3, ha, hb, rfl⟩ := h
    refine ⟨.rt (dI (pit a b n)) [], .val (.val _) rfl rfl, ?_⟩
    refine ss_one (s_ret (e_sum B.sum rfl (ns := (List.range (n + 1)).map fun i => a.getD i 0 * b.getD (n - i) 0) (e_lc (St := fun _ => []) (own := [("i", 3)]) rfl sc19.nd (i_r1 B.range (e_add (e_v 2) e_int) (by omega) (by omega)) ?_ ?_ (fun i x d hx hd => ?_))))
    · simp [rngE]
    · simp [rngE]
      omega
    · obtain ⟨hi, rfl⟩ := rng_get hx
      obtain ⟨y, hy, rfl⟩ := map_get hd
      obtain ⟨j, hj, rfl⟩ := map_get hy
      obtain ⟨rfl, hj2⟩ := range_get hj
      refine turn1 3 sc19.nd ?_
      exact e_mul (e_ixt (e_v 0) (e_v 3) (at_row (i := j) (by omega) (by omega))) (e_ixt (e_v 1) (e_sub (e_v 2) (e_v 3)) (at_row (i := n - j) (by omega) (by omega))) (ha.mul hb _ _)
end K83
end
section
set_option Elab.async false
set_option linter.all false
set_option maxRecDepth 100000
set_option maxHeartbeats 4000000
set_option autoImplicit false
/-! k83, part c: the program's series, products and others. -/
namespace K83
open L2 PySem PySem.Spec PyProof.Rows DL
variable {W : WD}
theorem map2 (r : List Int) : r.map (fun i => EV.val (PyData.int i)) = (r.map PyData.int).map EV.val := by rw [List.map_map]; rfl
/-! ### series_product(one, other) -/
def mulS (a b : List Int) : List Int := (List.range a.length).map fun n => pit a b n
theorem mulS_len (a b : List Int) : (mulS a b).length = a.length := by simp [mulS]
def R20 : DL.Spec := fun es S r => ∃ a b : List Int, es = [.val (ti a), .val (ti b)] ∧ S = [] ∧ a.length = b.length ∧ a.length ≤ 16 ∧ Sm a ∧ Sm b ∧ r = .ok (.val (ti (mulS a b))) []
theorem sc20 : FnScope ["one", "other", "n"] ["one", "other"] (defScope (top 20)) := ⟨rfl, rfl, rfl, by decide +kernel, rfl, by decide +kernel, by decide +kernel⟩
theorem ok20 {f : Addr} {fd : FuncData} (B : Bt W) (D19 : Def W "product_item" ["one", "other", "n"] 2 R19) (F : Fun W.K "series_product" "series_product" (top 20) f fd) : FnG W 4 f fd ["one", "other"] (spD R20) := by
  refine Fun.okD F sc20 (fun es S r h => ?_) (fun E es S r h => ?_)
  · obtain ⟨a, b, rfl, _⟩ := h
    rfl
  · obtain ⟨a, b, rfl, rfl, h1, h3, ha, hb, rfl⟩ := h
    refine ⟨.rt (.val (ti (mulS a b))) [], .val (.val _) rfl rfl, ?_⟩
    refine ss_one (s_ret (e_tupl B.tuple (e_lc (St := fun _ => []) (own := [("n", 2)]) rfl sc20.nd (i_r1 B.range (e_lent B.len (e_v 0)) (by omega) (by simp; omega)) ?_ ?_ (fun i x d hx hd => ?_))))
    · simp [rngE, mulS]
    · simp [rngE]
      omega
    · obtain ⟨hi, rfl⟩ := rng_get hx
      obtain ⟨y, hy, rfl⟩ := map_get hd
      obtain ⟨j, hj, rfl⟩ := map_get hy
      obtain ⟨rfl, hj2⟩ := range_get hj
      refine turn1 2 sc20.nd ?_
      exact e_fn D19 (a_cons (e_v 0) (a_cons (e_v 1) (a_cons (e_v 2) a_nil))) ⟨a, b, j, by simp, rfl, hj2, by omega, h3, ha, hb, rfl⟩
/-! ### series_other(row) -/
def oth (r : List Int) : Nat → List Int
  | 0 => [r.getD 0 0]
  | m + 1 => oth r m ++ [-(r.getD 0 0) * ((List.range (m + 1)).map fun i => r.getD (i + 1) 0 * (oth r m).getD (m - i) 0).sum]
def othS (r : List Int) : List Int := oth r (r.length - 1)
theorem oth_len (r : List Int) : ∀ m, (oth r m).length = m + 1
  | 0 => rfl
  | m + 1 => by
    show (oth r m ++ [_]).length = _
    rw [List.length_append, oth_len r m]
    rfl
def isOne (x : Int) : Bool := decide (x = 1) || decide (x = -1)
def R21 (U : Addr) : DL.Spec := fun es S r => ∃ a : List Int, es = [.val (ti a)] ∧ S = [] ∧ 1 ≤ a.length ∧ a.length ≤ 16 ∧ Sm a ∧ (isOne (a.getD 0 0) = true → ∀ m, m < a.length → Sm (oth a m)) ∧
  r = if isOne (a.getD 0 0) = true then .ok (.val (ti (othS a))) [] else .ex (.ref U) []
theorem sc21 : FnScope ["row", "found", "n", "i"] ["row"] (defScope (top 21)) := ⟨rfl, rfl, rfl, by decide +kernel, rfl, by decide +kernel, by decide +kernel⟩
/-- what is known of Unfit -/
structure Uf (W : WD) (U : Addr) : Prop where
  g : W.mg "Unfit" = some (.ref U)
  q : PySem.W.excIn W.K U [.type "ValueError", .type "Exception", .type "BaseException", .type "object"] "ValueError.__new__" = true
  k : PySem.W.keepIn W.K (.ref U) = true
  s : PySem.W.subIn W.K (.ref U) (.type "BaseException") = some true
  t : PySem.W.typeIn W.K (.ref U) = some (.type "type")
def og (r : List Int) (i : Nat) : List EV := [.val (ti r), .own 0, (match i with | 0 => .und | k + 1 => dI (1 + (k : Int))), .und]
theorem ok21 {U : Addr} {f : Addr} {fd : FuncData} (B : Bt W) (X : Uf W U) (F : Fun W.K "series_other" "series_other" (top 21) f fd) : FnG W 3 f fd ["row"] (spD (R21 U)) := by
  refine Fun.okD F sc21 (fun es S r h => ?_) (fun E es S r h => ?_)
  · obtain ⟨a, rfl, _⟩ := h
    rfl
  · obtain ⟨a, rfl, rfl, h1, h3, ha, ho, rfl⟩ := h
    have ht : ∀ {c : Kx} {Γ : List EV} {S : List MO}, Cmp c .NotIn (dI (a.getD 0 0)) (dT [.int 1, .int (-1)]) (!isOne (a.getD 0 0)) S := by
      intro c Γ S
      have := c_notInI (c := c) (S := S) (i := a.getD 0 0) (ns := [1, -1])
      have e : decide (a.getD 0 0 ∈ ([1, -1] : List Int)) = isOne (a.getD 0 0) := by
        unfold isOne
        by_cases q1 : a.getD 0 0 = 1
        · rw [q1]; rfl
        · by_cases q2 : a.getD 0 0 = -1
          · rw [q2]; rfl
          · rw [decide_eq_false (fun z => by rcases List.mem_cons.mp z with z | z; exact q1 z; exact q2 (List.mem_singleton.mp z) : ¬ a.getD 0 0 ∈ ([1, -1] : List Int)), decide_eq_false q1, decide_eq_false q2]
            rfl
      rw [e] at this
      exact this
    have i0 : ∀ {i : Nat}, atI (a.map PyData.int) 0 = some (.int (a.getD 0 0)) := at_row (i := 0) (by omega) rfl
    by_cases h0 : isOne (a.getD 0 0) = true
    · rw [if_pos h0]
      have hS := ho h0
      refine ⟨.rt (.val (ti (othS a))) ([] ++ [.lst ((othS a).map fun i => EV.val (.int i))]), .val (.val _) rfl rfl, ?_⟩
      refine ss_cons (s_ifF (DT.eq (t_cmp (e_ixt (e_v 0) e_int (i0 (i := 0))) (e_tup (ds := [.int 1, .int (-1)]) (a_cons e_int (a_cons (e_neg e_int) a_nil))) (ht (Γ := []))) (by rw [h0]; rfl)) ss_nil) ?_
      refine ss_cons (s_set 1 sc21.nd (e_lsto (a_cons (e_ixt (e_v 0) e_int (i0 (i := 0))) a_nil))) ?_
      have hn : (rngE 1 ((a.length : Int) - 1).toNat).length = a.length - 1 := by
        simp [rngE]
      refine ss_cons (DS.eqO (s_for (og a) (fun i => [.lst ((oth a i).map fun i => EV.val (.int i))]) rfl (i_r2 B.range e_int (e_lent B.len (e_v 0)) (by simp; omega)) rfl (fun i x hx => ?_)) (by rw [List.length_map, hn])) ?_
      · obtain ⟨hi, rfl⟩ := rng_get hx
        have hi2 : i + 1 < a.length := by
          simp at hi
          omega
        have hl := oth_len a i
        have hmul : CMulW (-(a.getD 0 0)) ((List.range (i + 1)).map fun j => a.getD (j + 1) 0 * (oth a i).getD (i - j) 0).sum := by
          have hlast := hS (i + 1) hi2 (-(a.getD 0 0) * ((List.range (i + 1)).map fun j => a.getD (j + 1) 0 * (oth a i).getD (i - j) 0).sum) (by show _ ∈ oth a i ++ [_]; simp)
          have h1 : (a.getD 0 0).natAbs = 1 := by
            unfold isOne at h0
            simp only [Bool.or_eq_true, decide_eq_true_eq] at h0
            rcases h0 with z | z <;> rw [z] <;> rfl
          rw [Int.natAbs_mul, Int.natAbs_neg, h1, Nat.one_mul] at hlast
          unfold CMulW
          rw [Int.natAbs_neg, h1]
          have : Nat.log2 1 = 0 := by decide
          omega
        refine ⟨_, _, g_n 2 sc21.nd (Γ' := [.val (ti a), .own 0, dI (1 + (i : Int)), .und]) (hΓ := rfl), ss_one (s_expr (e_append (e_v 1) rfl (e_mul (e_neg (e_ixt (e_v 0) e_int (i0 (i := 0)))) (e_sum B.sum rfl (ns := (List.range (i + 1)).map fun j => a.getD (j + 1) 0 * (oth a i).getD (i - j) 0) (e_lc (St := fun _ => _) (own := [("i", 3)]) rfl sc21.nd (i_r2 B.range e_int (e_add (e_v 2) e_int) (by omega)) ?_ ?_ (fun j x d hx hd => ?_))) hmul) rfl ?_ ?_))⟩
        · simp [rngE]
          omega
        · simp [rngE]
          omega
        · obtain ⟨hj, rfl⟩ := rng_get hx
          obtain ⟨y, hy, rfl⟩ := map_get hd
          obtain ⟨j2, hj2, rfl⟩ := map_get hy
          obtain ⟨rfl, hj3⟩ := range_get hj2
          refine turn1 3 sc21.nd ?_
          refine e_mul (e_ixt (e_v 0) (e_v 3) (at_row (i := j2 + 1) (by omega) (by omega))) (e_ixo (x := dI ((oth a i).getD (i - j2) 0)) (e_v 1) (e_sub (e_v 2) (e_v 3)) rfl ?_) (ha.mul (hS i (by omega)) _ _)
          unfold atI ixN
          rw [if_pos (by omega), if_pos (by rw [List.length_map]; omega)]
          rw [show (1 + (i : Int) - (1 + (j2 : Int))).toNat = i - j2 from by omega]
          simp [show i - j2 < (oth a i).length from by omega]
        · rw [List.length_map]
          omega
        · show [MO.lst _] = [MO.lst _]
          rw [show oth a (i + 1) = oth a i ++ [-(a.getD 0 0) * ((List.range (i + 1)).map fun j => a.getD (j + 1) 0 * (oth a i).getD (i - j) 0).sum] from rfl, List.map_append]
          rfl
      · refine ss_one (s_ret (e_tupo B.tuple (ds := (othS a).map .int) (e_v 1) ?_))
        rw [← map2]
        rfl
    · rw [if_neg h0]
      have h0' : isOne (a.getD 0 0) = false := by simpa using h0
      refine ⟨.ex (.ref U) ([] ++ []), .ex rfl rfl, ?_⟩
      exact ss_stop (s_ifT (DT.eq (t_cmp (e_ixt (e_v 0) e_int (i0 (i := 0))) (e_tup (ds := [.int 1, .int (-1)]) (a_cons e_int (a_cons (e_neg e_int) a_nil))) (ht (Γ := []))) (by rw [h0']; rfl)) (ss_one (s_raise0 rfl X.q X.g X.k X.s X.t)))
end K83
end
section
set_option Elab.async false
set_option linter.all false
set_option maxRecDepth 100000
set_option maxHeartbeats 4000000
set_option autoImplicit false
/-! k83, part d: the program's powers and series put into one another. -/
namespace K83
open L2 PySem PySem.Spec PyProof.Rows DL
variable {W : WD}
/-! ### unit_series(many) -/
def unitS (m : Nat) : List Int := 1 :: List.replicate (m - 1) 0
theorem unit_len {m : Nat} (h : 1 ≤ m) : (unitS m).length = m := by
  simp [unitS]
  omega
theorem flat0 (n : Nat) : (List.replicate n [PyData.int 0]).flatten = (List.replicate n (0 : Int)).map PyData.int := by
  induction n with
  | zero => rfl
  | succ n ih =>
    rw [List.replicate_succ, List.flatten_cons, ih, List.replicate_succ]
    rfl
def R22 : DL.Spec := fun es S r => ∃ m : Nat, es = [dI (m : Nat)] ∧ S = [] ∧ 1 ≤ m ∧ m ≤ 16 ∧ r = .ok (.val (ti (unitS m))) []
theorem sc22 : FnScope ["many"] ["many"] (defScope (top 22)) := ⟨rfl, rfl, rfl, by decide +kernel, rfl, by decide +kernel, by decide +kernel⟩
theorem e_rep0 {c : Kx} {Γ : List EV} {S S1 S2 : List MO} {a b : Expr} {pos : Pos} {k : Int} (n : Nat) (ha : DE c a Γ S (dT [.int 0]) S1) (hb : DE c b Γ S1 (dI k) S2) (hk : k = (n : Nat)) (hn : n ≤ 1000) : DE c (.BinOp a .Mult b pos) Γ S (.val (ti (List.replicate n 0))) S2 := by
  subst hk
  have := e_rept (pos := pos) ha hb (by simp) (by omega) (by omega) (by simp)
  rw [Int.toNat_natCast, flat0] at this
  exact this
theorem ok22 {f : Addr} {fd : FuncData} (F : Fun W.K "unit_series" "unit_series" (top 22) f fd) : FnG W 2 f fd ["many"] (spD R22) := by
  refine Fun.okD F sc22 (fun es S r h => ?_) (fun E es S r h => ?_)
  · obtain ⟨a, rfl, _⟩ := h
    rfl
  · obtain ⟨m, rfl, rfl, h1, h2, rfl⟩ := h
    refine ⟨.rt (.val (ti (unitS m))) [], .val (.val _) rfl rfl, ?_⟩
    refine ss_one (s_ret (e_addt (ds := [.int 1]) (es := (List.replicate (m - 1) 0).map .int) (e_tup (a_cons e_int a_nil)) (e_rep0 (m - 1) (e_tup (a_cons e_int a_nil)) (e_sub (e_v 0) e_int) (by omega) (by omega)) ?_))
    rw [sizeLine_eq]
    simp
    omega
/-! ### series_power(row, k) -/
def powS (r : List Int) : Nat → List Int
  | 0 => unitS r.length
  | k + 1 => mulS (powS r k) r
theorem pow_len {r : List Int} (h : 1 ≤ r.length) : ∀ k, (powS r k).length = r.length
  | 0 => unit_len h
  | k + 1 => by
    show (mulS _ _).length = _
    rw [mulS_len, pow_len h k]
def R23 : DL.Spec := fun es S r => ∃ (a : List Int) (k : Nat), es = [.val (ti a), dI (k : Nat)] ∧ S = [] ∧ 1 ≤ a.length ∧ a.length ≤ 16 ∧ k ≤ 100 ∧ Sm a ∧ (∀ j, j ≤ k → Sm (powS a j)) ∧ r = .ok (.val (ti (powS a k))) []
theorem sc23 : FnScope ["row", "k", "found", "turn"] ["row", "k"] (defScope (top 23)) := ⟨rfl, rfl, rfl, by decide +kernel, rfl, by decide +kernel, by decide +kernel⟩
def pg (r : List Int) (k i : Nat) : List EV := [.val (ti r), dI (k : Nat), .val (ti (powS r i)), (match i with | 0 => .und | j + 1 => dI (0 + (j : Int)))]
theorem ok23 {f : Addr} {fd : FuncData} (B : Bt W) (D20 : Def W "series_product" ["one", "other"] 4 R20) (D22 : Def W "unit_series" ["many"] 2 R22) (F : Fun W.K "series_power" "series_power" (top 23) f fd) : FnG W 6 f fd ["row", "k"] (spD R23) := by
  refine Fun.okD F sc23 (fun es S r h => ?_) (fun E es S r h => ?_)
  · obtain ⟨a, k, rfl, _⟩ := h
    rfl
  · obtain ⟨a, k, rfl, rfl, h1, h2, h3, ha, hp, rfl⟩ := h
    refine ⟨.rt (.val (ti (powS a k))) [], .val (.val _) rfl rfl, ?_⟩
    refine ss_cons (s_set 2 sc23.nd (e_fn D22 (a_cons (e_lent B.len (e_v 0)) a_nil) ⟨a.length, by simp, rfl, h1, h2, rfl⟩)) ?_
    have hn : (rngE 0 ((k : Nat) : Int).toNat).length = k := by simp [rngE]
    refine ss_cons (DS.eqO (s_for (pg a k) (fun i => []) rfl (i_r1 B.range (e_v 1) (by omega) (by omega)) rfl (fun i x hx => ?_)) (by rw [hn])) ?_
    · obtain ⟨hi, rfl⟩ := rng_get hx
      have hi2 : i < k := by simpa using hi
      refine ⟨_, _, g_n 3 sc23.nd (Γ' := [.val (ti a), dI (k : Nat), .val (ti (powS a i)), dI (0 + (i : Int))]) (hΓ := rfl), ss_one (s_set 2 sc23.nd (e_fn D20 (a_cons (e_v 2) (a_cons (e_v 0) a_nil)) ⟨powS a i, a, rfl, rfl, pow_len h1 i, by rw [pow_len h1]; exact h2, hp i (by omega), ha, rfl⟩))⟩
    · exact ss_one (s_ret (e_v 2))
/-! ### put_into(one, other) -/
def stepP (x : Int) (f p : List Int) : List Int := List.zipWith (fun h m => h + x * m) f p
/-- found and power behind i items -/
def putF (a b : List Int) : Nat → List Int
  | 0 => List.replicate a.length 0
  | i + 1 => stepP (a.getD i 0) (putF a b i) (powS b i)
theorem putF_len {a b : List Int} (h : 1 ≤ b.length) (hl : a.length = b.length) : ∀ i, (putF a b i).length = a.length
  | 0 => by simp [putF]
  | i + 1 => by
    show (List.zipWith _ _ _).length = _
    rw [List.length_zipWith, putF_len h hl i, pow_len h, hl, Nat.min_self]
def R24 : DL.Spec := fun es S r => ∃ a b : List Int, es = [.val (ti a), .val (ti b)] ∧ S = [] ∧ a.length = b.length ∧ 1 ≤ a.length ∧ a.length ≤ 16 ∧ Sm a ∧ Sm b ∧ (∀ j, j ≤ a.length → Sm (powS b j)) ∧ r = .ok (.val (ti (putF a b a.length))) []
theorem sc24 : FnScope ["one", "other", "found", "power", "item", "here", "more"] ["one", "other"] (defScope (top 24)) := ⟨rfl, rfl, rfl, by decide +kernel, rfl, by decide +kernel, by decide +kernel⟩
def qg (a b : List Int) (i : Nat) : List EV := [.val (ti a), .val (ti b), .val (ti (putF a b i)), .val (ti (powS b i)), (match i with | 0 => .und | j + 1 => dI (a.getD j 0)), .und, .und]
theorem ok24 {f : Addr} {fd : FuncData} (B : Bt W) (D20 : Def W "series_product" ["one", "other"] 4 R20) (D22 : Def W "unit_series" ["many"] 2 R22) (F : Fun W.K "put_into" "put_into" (top 24) f fd) : FnG W 6 f fd ["one", "other"] (spD R24) := by
  refine Fun.okD F sc24 (fun es S r h => ?_) (fun E es S r h => ?_)
  · obtain ⟨a, k, rfl, _⟩ := h
    rfl
  · obtain ⟨a, b, rfl, rfl, hl, h1, h2, ha, hb, hp, rfl⟩ := h
    have hb1 : 1 ≤ b.length := by omega
    refine ⟨.rt (.val (ti (putF a b a.length))) [], .val (.val _) rfl rfl, ?_⟩
    refine ss_cons (s_par 2 3 (Γ' := qg a b 0) rfl sc24.nd (e_rep0 a.length (e_tup (a_cons e_int a_nil)) (e_lent B.len (e_v 0)) (by simp) (by omega)) (e_fn D22 (a_cons (e_lent B.len (e_v 0)) a_nil) ⟨a.length, by simp, rfl, h1, h2, rfl⟩) (hΓ := by show _ = [_, _, _, EV.val (ti (unitS b.length)), _, _, _]; rw [← hl]; rfl)) ?_
    have hn : ((a.map PyData.int).map EV.val).length = a.length := by simp
    refine ss_cons (DS.eqO (s_for (qg a b) (fun i => []) rfl (i_t (e_v 0)) rfl (fun i x hx => ?_)) (by rw [hn])) ?_
    · obtain ⟨y, hy, rfl⟩ := map_get hx
      obtain ⟨z, hz, rfl⟩ := map_get hy
      have hi : i < a.length := (List.getElem?_eq_some_iff.mp hz).1
      have ez : z = a.getD i 0 := by rw [List.getD_eq_getElem?_getD, hz]; rfl
      subst ez
      have l1 := putF_len hb1 hl i
      have l2 := pow_len hb1 i
      refine ⟨_, _, g_n 4 sc24.nd (Γ' := [.val (ti a), .val (ti b), .val (ti (putF a b i)), .val (ti (powS b i)), dI (a.getD i 0), .und, .und]) (hΓ := rfl), ?_⟩
      refine ss_cons (s_set 2 sc24.nd (Γ' := [.val (ti a), .val (ti b), .val (ti (putF a b (i + 1))), .val (ti (powS b i)), dI (a.getD i 0), .und, .und]) (hΓ := rfl) (e_tupl B.tuple (ds := (putF a b (i + 1)).map .int) (e_lc (St := fun _ => []) (items := zipE ((putF a b i).map .int) ((powS b i).map .int)) (own := [("here", 5), ("more", 6)]) rfl sc24.nd (i_zt B.zip (e_v 2) (e_v 3)) ?_ ?_ (fun j x d hx hd => ?_)))) ?_
      · simp [zipE, putF, stepP]
      · simp [zipE]
        omega
      · obtain ⟨u, v, hu, hv, rfl⟩ := zipE_get hx
        obtain ⟨u', hu', rfl⟩ := map_get hu
        obtain ⟨v', hv', rfl⟩ := map_get hv
        obtain ⟨w, hw, rfl⟩ := map_get hd
        have ew : w = u' + a.getD i 0 * v' := by
          have hw2 : (List.zipWith (fun h m => h + a.getD i 0 * m) (putF a b i) (powS b i))[j]? = some w := hw
          rw [List.getElem?_zipWith, hu', hv'] at hw2
          exact (Option.some.inj hw2).symm
        subst ew
        refine turn2 rfl 5 6 sc24.nd ?_
        refine e_add (e_v 5) (e_mul (e_v 4) (e_v 6) ?_)
        have q1 := ha.at_ i
        have q2 := hp i (by omega) v' (List.mem_of_getElem? hv')
        unfold CMulW
        omega
      · exact ss_one (s_set 3 sc24.nd (e_fn D20 (a_cons (e_v 3) (a_cons (e_v 1) a_nil)) ⟨powS b i, b, rfl, rfl, l2, by omega, hp i (by omega), hb, rfl⟩))
    · exact ss_one (s_ret (e_v 2))
/-! ### series_put(one, other) -/
def R25 (U : Addr) : DL.Spec := fun es S r => ∃ a b : List Int, es = [.val (ti a), .val (ti b)] ∧ S = [] ∧ a.length = b.length ∧ 1 ≤ a.length ∧ a.length ≤ 16 ∧ Sm a ∧ Sm b ∧ (b.getD 0 0 = 0 → ∀ j, j ≤ a.length → Sm (powS b j)) ∧
  r = if b.getD 0 0 = 0 then .ok (.val (ti (putF a b a.length))) [] else .ex (.ref U) []
theorem sc25 : FnScope ["one", "other"] ["one", "other"] (defScope (top 25)) := ⟨rfl, rfl, rfl, by decide +kernel, rfl, by decide +kernel, by decide +kernel⟩
theorem ok25 {U : Addr} {f : Addr} {fd : FuncData} (X : Uf W U) (D24 : Def W "put_into" ["one", "other"] 6 R24) (F : Fun W.K "series_put" "series_put" (top 25) f fd) : FnG W 8 f fd ["one", "other"] (spD (R25 U)) := by
  refine Fun.okD F sc25 (fun es S r h => ?_) (fun E es S r h => ?_)
  · obtain ⟨a, k, rfl, _⟩ := h
    rfl
  · obtain ⟨a, b, rfl, rfl, hl, h1, h2, ha, hb, hp, rfl⟩ := h
    by_cases h0 : b.getD 0 0 = 0
    · rw [if_pos h0]
      refine ⟨.rt (.val (ti (putF a b a.length))) [], .val (.val _) rfl rfl, ?_⟩
      refine ss_cons (s_ifF (DT.eq (t_cmp (e_ixt (e_v 1) e_int (at_row (i := 0) (by omega) rfl)) e_int c_ne) (by rw [h0]; rfl)) ss_nil) (ss_one (s_ret (e_fn D24 (a_cons (e_v 0) (a_cons (e_v 1) a_nil)) ⟨a, b, rfl, rfl, hl, h1, h2, ha, hb, hp h0, rfl⟩)))
    · rw [if_neg h0]
      refine ⟨.ex (.ref U) ([] ++ []), .ex rfl rfl, ?_⟩
      exact ss_stop (s_ifT (DT.eq (t_cmp (e_ixt (e_v 1) e_int (at_row (i := 0) (by omega) rfl)) e_int c_ne) (by rw [decide_eq_false h0]; rfl)) (ss_one (s_raise0 rfl X.q X.g X.k X.s X.t)))
end K83
end
section
set_option Elab.async false
set_option linter.all false
set_option maxRecDepth 100000
set_option maxHeartbeats 4000000
set_option autoImplicit false
/-! k83, part e: the law's bag and draws. -/
namespace K83
open L2 PySem PySem.Spec PyProof.Rows DL
variable {W : WD}
/-! ### the bag -/
structure Bag where
  rc : List Int
  d : Int
  m : Int
/-- two own objects: the cells, last first to be drawn; the bag -/
def bagS (b : Bag) : List MO := [.lst ((b.rc.reverse.map PyData.int).map EV.val), .lst [.own 0, dI b.d, dI b.m]]
theorem bagS_closed (b : Bag) : closedS 2 (bagS b) = true := by
  unfold closedS bagS
  simp [closedE]
def Ok (b : Bag) : Prop := 0 ≤ b.m ∧ b.m < 2147483648 ∧ b.rc.length ≤ 63
theorem small31 {x : Int} (h0 : 0 ≤ x) (h : x < 2147483648) : x.natAbs.log2 < 40 := by
  by_cases hz : x.natAbs = 0
  · rw [hz]; decide
  · exact (Nat.log2_lt hz).mpr (by omega)
/-! ### _law_own_bag(script) -/
def bigN : Int := ((10 : Int) ^ (57 : Int).toNat) ^ (7 : Int).toNat
def cellsF (ns : List Int) : List Int := ns.map fun c => (c.natAbs : Int) % bigN
def mixStep (m c : Int) : Int := (m * 48271 + c % 2147483629 + 7) % 2147483647
def mixN (cs : List Int) : Nat → Int
  | 0 => 2468 + (cs.length : Nat)
  | i + 1 => mixStep (mixN cs i) (cs.getD i 0)
def bag0 (ns : List Int) : Bag := ⟨cellsF ns, 0, mixN (cellsF ns) (cellsF ns).length⟩
theorem mix_range (cs : List Int) (h : cs.length ≤ 63) : ∀ i, 0 ≤ mixN cs i ∧ mixN cs i < 2147483648
  | 0 => by
    show 0 ≤ 2468 + ((cs.length : Nat) : Int) ∧ 2468 + ((cs.length : Nat) : Int) < _
    omega
  | i + 1 => by
    show 0 ≤ mixStep _ _ ∧ mixStep _ _ < _
    unfold mixStep
    omega
theorem bag0_ok {ns : List Int} (h : ns.length ≤ 63) : Ok (bag0 ns) := by
  have hl : (cellsF ns).length ≤ 63 := by simpa [cellsF] using h
  obtain ⟨h1, h2⟩ := mix_range (cellsF ns) hl (cellsF ns).length
  exact ⟨h1, h2, hl⟩
theorem bigN_pos : 0 < bigN := by decide +kernel
theorem sc27 : FnScope ["script", "cell", "cells", "mixed"] ["script"] (defScope (top 27)) := ⟨rfl, rfl, rfl, by decide +kernel, rfl, by decide +kernel, by decide +kernel⟩
def bg (cs : List Int) (i : Nat) : List EV := [.und, (match i with | 0 => .und | j + 1 => dI (cs.getD j 0)), dL (cs.map .int), dI (mixN cs i)]
theorem ok27 {f : Addr} {fd : FuncData} (B : Bt W) (F : Fun W.K "_law_own_bag" "_law_own_bag" (top 27) f fd) : FnG W 2 f fd ["script"] (spB W.K (fun ns => ns.length ≤ 63) (.own 1) fun ns => bagS (bag0 ns)) := by
  refine Fun.okB (own := [("cell", 1)]) (res := fun ns => (cellsF ns).map .int) F sc27 rfl 2 rfl rfl (by decide) (by decide) rfl rfl rfl rfl (by with_unfolding_all rfl) (by with_unfolding_all rfl) rfl (fun _ _ => rfl) (fun _ h => h) (fun ns => by simp [cellsF]) (fun E ns i z d hP hz hd => ?_) (fun E ns hP => ?_)
  · obtain ⟨y, hy, rfl⟩ := map_get hd
    obtain ⟨z', hz', rfl⟩ := map_get hy
    rw [hz] at hz'
    cases hz'
    refine turn1 1 sc27.nd ?_
    exact e_mod (e_abs B.abs (e_v 1)) (e_powG (e_pow e_int e_int ⟨by decide, by decide, by decide⟩) e_int ⟨by decide, 200, by decide +kernel, by decide⟩) bigN_pos
  · have hl : (cellsF ns).length ≤ 63 := by simpa [cellsF] using hP
    have hn : (((cellsF ns).map PyData.int).map EV.val).length = (cellsF ns).length := by simp
    refine ss_cons (s_set 3 sc27.nd (Γ' := bg (cellsF ns) 0) (e_add e_int (e_lenl B.len (e_v 2))) (hΓ := by simp [bg, mixN])) ?_
    refine ss_cons (DS.eqO (s_for (bg (cellsF ns)) (fun i => []) rfl (i_l (e_v 2)) rfl (fun i x hx => ?_)) (by rw [hn])) ?_
    · obtain ⟨y, hy, rfl⟩ := map_get hx
      obtain ⟨z, hz, rfl⟩ := map_get hy
      have ez : z = (cellsF ns).getD i 0 := by rw [List.getD_eq_getElem?_getD, hz]; rfl
      subst ez
      obtain ⟨r1, r2⟩ := mix_range (cellsF ns) hl i
      have hm := small31 r1 r2
      refine ⟨_, _, g_n 1 sc27.nd (Γ' := [.und, dI ((cellsF ns).getD i 0), dL ((cellsF ns).map .int), dI (mixN (cellsF ns) i)]) (hΓ := rfl), ss_one (s_set 3 sc27.nd (e_mod (e_toint B.int (e_add (e_add (e_mul (e_v 3) e_int ?_) (e_mod (e_toint B.int (e_v 1)) e_int (by decide))) e_int)) e_int (by decide)))⟩
      unfold CMulW
      have : (48271 : Int).natAbs.log2 < 40 := by decide +kernel
      omega
    · refine ss_one (s_ret (DE.eqS (e_lsto (a_cons (e_lstrevo rfl B.list B.rev (e_lstl B.list (e_v 2))) (a_cons e_int (a_cons (e_v 3) a_nil)))) ?_))
      simp [bagS, bag0]
/-! ### _law_draw(bag, below) -/
def stp : List Int × Int → List Int × Int
  | (c :: r, _) => (r, if c > 1000000000 then c else 0)
  | s => s
def goes (s : List Int × Int) : Bool := decide (s.2 = 0) && !s.1.isEmpty
def turns : List Int → Int → Nat
  | [], _ => 0
  | c :: r, d => if d = 0 then turns r (if c > 1000000000 then c else 0) + 1 else 0
def itr (s : List Int × Int) : Nat → List Int × Int
  | 0 => s
  | i + 1 => stp (itr s i)
theorem itr_succ (s : List Int × Int) : ∀ i, itr s (i + 1) = itr (stp s) i
  | 0 => rfl
  | i + 1 => by
    show stp (itr s (i + 1)) = stp (itr (stp s) i)
    rw [itr_succ s i]
theorem turns_spec : ∀ (r : List Int) (d : Int), (∀ i, i < turns r d → goes (itr (r, d) i) = true) ∧ goes (itr (r, d) (turns r d)) = false
  | [], d => ⟨fun i h => (by cases h), (by show (decide (d = 0) && !true) = false; rw [Bool.not_true, Bool.and_false])⟩
  | c :: r, d => by
    by_cases h : d = 0
    · obtain ⟨ih1, ih2⟩ := turns_spec r (if c > 1000000000 then c else 0)
      have e : turns (c :: r) d = turns r (if c > 1000000000 then c else 0) + 1 := if_pos h
      rw [e]
      refine ⟨fun i hi => ?_, ?_⟩
      · cases i with
        | zero =>
          show (decide (d = 0) && !false) = true
          rw [decide_eq_true h]
          rfl
        | succ i =>
          rw [itr_succ]
          exact ih1 i (by omega)
      · rw [itr_succ]
        exact ih2
    · have e : turns (c :: r) d = 0 := if_neg h
      rw [e]
      refine ⟨fun i hi => absurd hi (Nat.not_lt_zero i), ?_⟩
      show (decide (d = 0) && !false) = false
      rw [decide_eq_false h]
      rfl
def settle (b : Bag) : List Int × Int := itr (b.rc, b.d) (turns b.rc b.d)
theorem itr_len (s : List Int × Int) : ∀ i, (itr s i).1.length ≤ s.1.length
  | 0 => Nat.le_refl _
  | i + 1 => by
    have ih := itr_len s i
    show (stp (itr s i)).1.length ≤ _
    generalize itr s i = t at ih
    obtain ⟨l, d⟩ := t
    cases l with
    | nil => exact ih
    | cons c r =>
      have ih' : r.length + 1 ≤ s.1.length := ih
      show r.length ≤ _
      omega
def mix1 (m : Int) : Int := (m * 48271 + 11) % 2147483647
def drawF (b : Bag) (below : Int) : Int × Bag :=
  if 0 < (settle b).2 then ((settle b).2 % below, ⟨(settle b).1, (settle b).2 / below, b.m⟩)
  else (((mix1 b.m * mix1 b.m) % 2147483629 / 7) % below, ⟨(settle b).1, (settle b).2, mix1 b.m⟩)
theorem draw_range (b : Bag) {below : Int} (h : 0 < below) : 0 ≤ (drawF b below).1 ∧ (drawF b below).1 < below := by
  unfold drawF
  split
  · exact ⟨Int.emod_nonneg _ (by omega), Int.emod_lt_of_pos _ h⟩
  · exact ⟨Int.emod_nonneg _ (by omega), Int.emod_lt_of_pos _ h⟩
theorem draw_ok {b : Bag} (h : Ok b) (below : Int) : Ok (drawF b below).2 := by
  obtain ⟨h1, h2, h3⟩ := h
  have hl : (settle b).1.length ≤ 63 := Nat.le_trans (itr_len _ _) h3
  unfold drawF
  split
  · exact ⟨h1, h2, hl⟩
  · refine ⟨?_, ?_, hl⟩
    · show 0 ≤ mix1 b.m
      unfold mix1
      omega
    · show mix1 b.m < _
      unfold mix1
      omega
def R28 : DL.Spec := fun es S r => ∃ (b : Bag) (below : Int), es = [.own 1, dI below] ∧ S = bagS b ∧ Ok b ∧ 0 < below ∧ below.natAbs.log2 < 9000 ∧ r = .ok (dI (drawF b below).1) (bagS (drawF b below).2)
theorem sc28 : FnScope ["bag", "below", "cell", "found"] ["bag", "below"] (defScope (top 28)) := ⟨rfl, rfl, rfl, by decide +kernel, rfl, by decide +kernel, by decide +kernel⟩
def ds (s : List Int × Int) (m : Int) : List MO := bagS ⟨s.1, s.2, m⟩
def dg (below : Int) (s : List Int × Int) : Nat → List EV
  | 0 => [.own 1, dI below, .und, .und]
  | i + 1 => [.own 1, dI below, dI ((itr s i).1.headD 0), .und]
theorem ok28 {f : Addr} {fd : FuncData} (B : Bt W) (F : Fun W.K "_law_draw" "_law_draw" (top 28) f fd) : FnG W 2 f fd ["bag", "below"] (spD R28) := by
  refine Fun.okD F sc28 (fun es S r h => ?_) (fun E es S r h => ?_)
  · obtain ⟨b, below, rfl, _⟩ := h
    rfl
  · obtain ⟨b, below, rfl, rfl, hok, hb, hb2, rfl⟩ := h
    refine ⟨.rt (dI (drawF b below).1) (bagS (drawF b below).2 ++ []), .val (.val _) rfl ?_, ?_⟩
    · exact bagS_closed _
    obtain ⟨t1, t2⟩ := turns_spec b.rc b.d
    have neq : ∀ (s : List Int × Int), Cmp ⟨W, ["bag", "below", "cell", "found"], defScope (top 28), 1, true, fun _ => true, true, E⟩ .NotEq (.own 0) (dL []) (!s.1.isEmpty) (ds s b.m) := fun s => by
      refine (c_neO (k := 0) (ds := s.1.reverse.map .int) (y := .list []) rfl (hasDict_ints _) rfl (shaped_ints _) (shaped_ints [])).eq ?_
      rw [← List.isEmpty_reverse]
      cases s.1.reverse <;> rfl
    have hΓ0 : ∀ i, (dg below (b.rc, b.d) i)[0]? = some (.own 1) := by intro i; cases i <;> rfl
    refine ss_cons (s_while (dg below (b.rc, b.d)) (fun i => ds (itr (b.rc, b.d) i) b.m) (fun i => ds (itr (b.rc, b.d) i) b.m) (turns b.rc b.d) rfl rfl (fun i hi => DT.eq (t_w (w_and (t_cmp (e_ixo (e_v 0 (hΓ := hΓ0 i)) e_int rfl rfl) e_int c_eq) fun _ => w_and1 (t_cmp (e_ixo (e_v 0 (hΓ := hΓ0 i)) e_int rfl rfl) (e_lst (ds := []) a_nil) (neq (itr (b.rc, b.d) i))))) (t1 i hi)) (fun i hi => ?_) (DT.eq (t_w (w_and (t_cmp (e_ixo (e_v 0 (hΓ := hΓ0 _)) e_int rfl rfl) e_int c_eq) fun _ => w_and1 (t_cmp (e_ixo (e_v 0 (hΓ := hΓ0 _)) e_int rfl rfl) (e_lst (ds := []) a_nil) (neq (itr (b.rc, b.d) (turns b.rc b.d)))))) (t2))) ?_
    · have hΓ : (dg below (b.rc, b.d) i)[0]? = some (.own 1) := by cases i <;> rfl
      have hset : ∀ z : Int, (dg below (b.rc, b.d) i).set 2 (dI z) = [.own 1, dI below, dI z, .und] := by intro z; cases i <;> rfl
      have hg := t1 i hi
      have e1 : itr (b.rc, b.d) (i + 1) = stp (itr (b.rc, b.d) i) := rfl
      show DSs _ _ _ (ds (itr (b.rc, b.d) i) b.m) (.nx (dg below (b.rc, b.d) (i + 1)) (ds (itr (b.rc, b.d) (i + 1)) b.m))
      rw [e1]
      have e2 : dg below (b.rc, b.d) (i + 1) = [.own 1, dI below, dI ((itr (b.rc, b.d) i).1.headD 0), .und] := rfl
      rw [e2]
      generalize itr (b.rc, b.d) i = t at hg
      obtain ⟨l, d⟩ := t
      cases l with
      | nil => exact absurd hg (by show ¬ (decide (d = 0) && !true) = true; rw [Bool.not_true, Bool.and_false]; exact Bool.false_ne_true)
      | cons c r =>
        have hlast : ((c :: r).reverse.map PyData.int |>.map EV.val)[((c :: r).reverse.map PyData.int |>.map EV.val).length - 1]? = some (dI c) := by
          rw [List.reverse_cons, List.map_append, List.map_append]
          simp
        have hdrop : ((c :: r).reverse.map PyData.int |>.map EV.val).dropLast = (r.reverse.map PyData.int).map EV.val := by
          rw [List.reverse_cons, List.map_append, List.map_append]
          simp
        refine ss_cons (s_set 2 sc28.nd (Γ' := [.own 1, dI below, dI c, .und]) (S1 := [.lst ((r.reverse.map PyData.int).map EV.val), .lst [.own 0, dI d, dI b.m]]) (e_pop (k := 0) (e_ixo (e_v 0 (hΓ := hΓ)) e_int rfl rfl) rfl hlast (by rw [hdrop]; rfl)) (hΓ := hset c)) ?_
        refine ss_one (s_subo (k := 1) (j := 1) (xs := [.own 0, dI d, dI b.m]) (S3 := [.lst ((r.reverse.map PyData.int).map EV.val), .lst [.own 0, dI d, dI b.m]]) (v := dI (if c > 1000000000 then c else 0)) (e_if (k := decide (c > 1000000000)) (t_cmp (e_v 2) (e_pow e_int e_int ⟨by decide, by decide, by decide⟩) ?_) (fun h => ?_) (fun h => ?_)) (e_v 0) e_int rfl rfl rfl)
        · exact c_gt
        · rw [if_pos (of_decide_eq_true h)]
          exact e_v 2
        · rw [if_neg (of_decide_eq_false h)]
          exact e_int
    · have hΓ : ∀ i, (dg below (b.rc, b.d) i)[0]? = some (.own 1) := by intro i; cases i <;> rfl
      have hΓ1 : ∀ i, (dg below (b.rc, b.d) i)[1]? = some (dI below) := by intro i; cases i <;> rfl
      have hset : ∃ g3, (dg below (b.rc, b.d) (turns b.rc b.d))[3]? = some g3 := by
        cases turns b.rc b.d <;> exact ⟨_, rfl⟩
      have hs0 : ∀ z : EV, ∃ g2, (dg below (b.rc, b.d) (turns b.rc b.d)).set 3 z = [.own 1, dI below, g2, z] := by
        intro z
        cases turns b.rc b.d <;> exact ⟨_, rfl⟩
      show DSs _ _ _ (ds (settle b) b.m) _
      by_cases hp : 0 < (settle b).2
      · have e : drawF b below = ((settle b).2 % below, ⟨(settle b).1, (settle b).2 / below, b.m⟩) := if_pos hp
        rw [e]
        obtain ⟨g2, hg2⟩ := hs0 (dI ((settle b).2 % below))
        refine ss_stop (s_ifT (DT.eq (t_cmp (e_ixo (e_v 0 (hΓ := hΓ _)) e_int rfl rfl) e_int c_gt) (decide_eq_true hp)) ?_)
        refine ss_cons (s_set 3 sc28.nd (Γ' := [.own 1, dI below, g2, dI ((settle b).2 % below)]) (e_mod (e_toint B.int (e_ixo (e_v 0 (hΓ := hΓ _)) e_int rfl rfl)) (e_v 1 (hΓ := hΓ1 _)) hb) (hΓ := hg2)) ?_
        refine ss_cons (s_subo (k := 1) (j := 1) (e_fdiv (e_ixo (e_v 0) e_int rfl rfl) (e_v 1) ⟨hb, hb2⟩) (e_v 0) e_int rfl rfl rfl) ?_
        exact ss_one (s_ret (e_v 3))
      · have e : drawF b below = (((mix1 b.m * mix1 b.m) % 2147483629 / 7) % below, ⟨(settle b).1, (settle b).2, mix1 b.m⟩) := if_neg hp
        rw [e]
        obtain ⟨h1, h2, h3⟩ := hok
        have hm := small31 h1 h2
        have hm2 : (mix1 b.m).natAbs.log2 < 40 := small31 (by unfold mix1; omega) (by unfold mix1; omega)
        refine ss_cons (s_ifF (DT.eq (t_cmp (e_ixo (e_v 0 (hΓ := hΓ _)) e_int rfl rfl) e_int c_gt) (decide_eq_false hp)) ss_nil) ?_
        refine ss_cons (s_subo (k := 1) (j := 2) (e_mod (e_toint B.int (e_add (e_mul (e_ixo (e_v 0 (hΓ := hΓ _)) e_int rfl rfl) e_int ?_) e_int)) e_int (by decide)) (e_v 0 (hΓ := hΓ _)) e_int rfl rfl rfl) ?_
        · show CMulW b.m 48271
          unfold CMulW
          have : (48271 : Int).natAbs.log2 < 40 := by decide +kernel
          omega
        · refine ss_one (s_ret (e_mod (e_toint B.int (e_fdiv (e_mod (e_toint B.int (e_mul (e_ixo (e_v 0 (hΓ := hΓ _)) e_int rfl rfl) (e_ixo (e_v 0 (hΓ := hΓ _)) e_int rfl rfl) ?_)) e_int (by decide)) e_int ⟨by decide, by decide +kernel⟩)) (e_v 1 (hΓ := hΓ1 _)) hb))
          show CMulW (mix1 b.m) (mix1 b.m)
          unfold CMulW
          omega
end K83
end
section
set_option Elab.async false
set_option linter.all false
set_option maxRecDepth 100000
set_option maxHeartbeats 400000
set_option autoImplicit false
/-! k83, part f: what the law picks and sees. -/
namespace K83
open L2 PySem PySem.Spec PyProof.Rows DL
variable {W : WD}
section
variable {c : Kx} {Γ : List EV} {S Sr : List MO} {e : Expr} {es : List Expr} {pos p : Pos} {x : Str} {ps : List Str} {k : Nat} {R : DL.Spec} {vs : List EV} {z : EV} {b b' : Bag}
theorem e_callBr (F : Def c.W x ps k R) (Sr : List MO) (ha : DA c (e :: es) Γ S vs (bagS b ++ Sr)) (hR : R vs (bagS b) (.ok z (bagS b'))) (hk : k ≤ c.k := by exact Nat.le_of_ble_eq_true rfl) (hcalm : c.calm = true := by rfl) (hvs : vs.all (closedE 2) = true := by rfl)
    (hg : c.sc.names.lookup x = some .globalImplicit := by rfl) (hdb : (x == ("__debug__" : Str)) = false := by decide)
    (he : ∀ env : Env, starEach (e :: es) env = (false, eval e env) :: starEach es env := by intro _; rfl) (hpl : ∀ env : Env, (backTo pos (starEach es env)).any (·.1) = false := by intro _; rfl) :
    DE c (.Call (.Name x p) (e :: es) [] pos) Γ S z (bagS b' ++ Sr) :=
  e_call (Sp := bagS b) (Sp' := bagS b') (Sr := Sr) F hR ha hk hcalm (bagS_closed b) hvs rfl hg hdb he hpl
theorem e_callB (F : Def c.W x ps k R) (ha : DA c (e :: es) Γ S vs (bagS b)) (hR : R vs (bagS b) (.ok z (bagS b'))) (hk : k ≤ c.k := by exact Nat.le_of_ble_eq_true rfl) (hcalm : c.calm = true := by rfl) (hvs : vs.all (closedE 2) = true := by rfl)
    (hg : c.sc.names.lookup x = some .globalImplicit := by rfl) (hdb : (x == ("__debug__" : Str)) = false := by decide)
    (he : ∀ env : Env, starEach (e :: es) env = (false, eval e env) :: starEach es env := by intro _; rfl) (hpl : ∀ env : Env, (backTo pos (starEach es env)).any (·.1) = false := by intro _; rfl) :
    DE c (.Call (.Name x p) (e :: es) [] pos) Γ S z (bagS b') :=
  e_callBr F [] ha hR hk hcalm hvs hg hdb he hpl
end
/-! ### _law_pick(bag, some) -/
def pickF (b : Bag) (ds : List PyData) : PyData × Bag := (ds.getD (drawF b (ds.length : Nat)).1.toNat .none, (drawF b (ds.length : Nat)).2)
theorem small_log {n : Nat} (h : n ≤ 1000000) : ((n : Nat) : Int).natAbs.log2 < 9000 := by
  have : ((n : Nat) : Int).natAbs = n := Int.natAbs_natCast n
  rw [this]
  by_cases hz : n = 0
  · rw [hz]; decide
  · refine (Nat.log2_lt hz).mpr (Nat.lt_of_le_of_lt h ?_)
    exact Nat.lt_of_lt_of_le (by decide : 1000000 < 2 ^ 20) (Nat.pow_le_pow_right (by decide) (by decide))
def R29 : DL.Spec := fun es S r => ∃ (b : Bag) (xs : List PyData), es = [.own 1, dL xs] ∧ S = bagS b ∧ Ok b ∧ 1 ≤ xs.length ∧ xs.length ≤ 1000 ∧ r = .ok (.val (pickF b xs).1) (bagS (pickF b xs).2)
theorem sc29 : FnScope ["bag", "some"] ["bag", "some"] (defScope (top 29)) := ⟨rfl, rfl, rfl, by decide +kernel, rfl, by decide +kernel, by decide +kernel⟩
theorem pick_at {b : Bag} {xs : List PyData} (h1 : 1 ≤ xs.length) : atI xs (drawF b (xs.length : Nat)).1 = some (pickF b xs).1 := by
  obtain ⟨r1, r2⟩ := draw_range b (below := (xs.length : Nat)) (by omega)
  unfold atI ixN pickF
  rw [if_pos r1, if_pos r2]
  have h : (drawF b (xs.length : Nat)).1.toNat < xs.length := by omega
  simp [h]
theorem ok29 {f : Addr} {fd : FuncData} (B : Bt W) (D28 : Def W "_law_draw" ["bag", "below"] 2 R28) (F : Fun W.K "_law_pick" "_law_pick" (top 29) f fd) : FnG W 4 f fd ["bag", "some"] (spD R29) := by
  refine Fun.okD F sc29 (fun es S r h => ?_) (fun E es S r h => ?_)
  · obtain ⟨b, xs, rfl, _⟩ := h
    rfl
  · obtain ⟨b, xs, rfl, rfl, hok, h1, h2, rfl⟩ := h
    refine ⟨.rt (.val (pickF b xs).1) (bagS (pickF b xs).2 ++ []), .val (.val _) rfl (bagS_closed _), ?_⟩
    exact ss_one (s_ret (e_ixl (e_v 1) (e_callB D28 (a_cons (e_v 0) (a_cons (e_lenl B.len (e_v 1)) a_nil)) ⟨b, (xs.length : Nat), rfl, rfl, hok, by omega, small_log (by omega), rfl⟩) (pick_at h1)))
theorem pick_ok {b : Bag} {xs : List PyData} (h : Ok b) : Ok (pickF b xs).2 := draw_ok h _
theorem pick_mem {b : Bag} {xs : List PyData} (h1 : 1 ≤ xs.length) : (pickF b xs).1 ∈ xs := by
  obtain ⟨r1, r2⟩ := draw_range b (below := (xs.length : Nat)) (by omega)
  have h : (drawF b (xs.length : Nat)).1.toNat < xs.length := by omega
  show xs.getD _ _ ∈ xs
  rw [List.getD_eq_getElem?_getD, List.getElem?_eq_getElem h]
  exact List.getElem_mem h
/-! ### _law_seen(told, deep) -/
def isSc : PyData → Bool
  | .none => true
  | .bool _ => true
  | .int i => decide (i.natAbs.log2 < 1920)
  | .str x => decide ((PyData.str x).shown.length ≤ 2000)
  | _ => false
theorem sc_len : ∀ {d : PyData}, isSc d = true → d.shown.length ≤ 2000
  | .none, _ => by rw [PyData.shown_none]; decide
  | .bool b, _ => by rw [PyData.shown_bool]; cases b <;> decide
  | .int i, h => by
    have h' : i.natAbs.log2 < 1920 := by simpa [isSc] using h
    rw [PyData.shown_int]
    exact Nat.le_trans (int_text_len_1921 h') (by decide)
  | .str x, h => by simpa [isSc] using h
  | .list _, h => by simp [isSc] at h
  | .tuple _, h => by simp [isSc] at h
  | .dict _, h => by simp [isSc] at h
theorem sc_shows {d : PyData} (h : isSc d = true) : Shows d := by
  refine ⟨?_, ?_, Nat.le_trans (sc_len h) (by decide), ?_⟩
  · cases d <;> simp_all [isSc, PyData.showable]
  · cases d <;> simp_all [isSc, PyData.hasDict]
  · cases d <;> simp_all [isSc, PyData.depth]
def R30a : DL.Spec := fun es S r => ∃ (d : PyData) (k : Int), es = [.val d, dI k] ∧ S = [] ∧ isSc d = true ∧ r = .ok (dS d.shown) []
def itm (x : PyData) : Str := x.shown ++ (", " : Str)
def seenT (xs : List PyData) : Str := ("(" : Str) ++ Txt.join ("" : Str) (xs.map itm) ++ (")" : Str)
def seenD : PyData → Str
  | .tuple xs => seenT xs
  | d => d.shown
def SeenOk : PyData → Prop
  | .tuple xs => xs.length ≤ 16 ∧ ∀ x, x ∈ xs → isSc x = true
  | d => isSc d = true
def R30 : DL.Spec := fun es S r => ∃ (d : PyData), es = [.val d, dI 3] ∧ S = [] ∧ SeenOk d ∧ r = .ok (dS (seenD d)) []
theorem sc30 : FnScope ["told", "deep", "item"] ["told", "deep"] (defScope (top 30)) := ⟨rfl, rfl, rfl, by decide +kernel, rfl, by decide +kernel, by decide +kernel⟩
theorem great {i : Int} (h : i.natAbs.log2 < 1920) : (i.natAbs : Int) < ((10 : Int) ^ (62 : Int).toNat) ^ (62 : Int).toNat := by
  have h1 : i.natAbs < 2 ^ 1920 := by
    by_cases hz : i.natAbs = 0
    · rw [hz]; exact Nat.two_pow_pos _
    · exact (Nat.log2_lt hz).mp h
  have h2 : (2 : Nat) ^ 1920 < (10 ^ 62) ^ 62 := by decide +kernel
  have h3 : (((10 : Int) ^ (62 : Int).toNat) ^ (62 : Int).toNat) = (((10 ^ 62) ^ 62 : Nat) : Int) := by decide +kernel
  rw [h3]
  omega
theorem seen_sc {E : Value → Option Addr → SL → Hp → Prop} {k : Nat} (B : Bt W) (d : PyData) (n : Int) (h : isSc d = true) :
    DSs ⟨W, ["told", "deep", "item"], defScope (top 30), k, true, fun _ => true, true, E⟩ (defBody (top 30)) (startE ["told", "deep", "item"] [.val d, dI n]) [] (.rt (dS d.shown) []) := by
  have hs := sc_shows h
  cases d with
  | none => exact ss_stop (s_ifT (t_w (w_orT (DT.eq (t_cmp (e_v 0) e_non c_isN) rfl))) (ss_one (s_ret (e_repr B.repr (e_v 0) hs))))
  | bool b =>
    refine ss_stop (s_ifT (t_w (w_orF (DT.eq (t_cmp (e_v 0) e_non c_isN) rfl) ?_)) (ss_one (s_ret (e_repr B.repr (e_v 0) hs))))
    cases b with
    | true => exact w_orT (DT.eq (t_cmp (e_v 0) e_bl c_isB) rfl)
    | false => exact w_orF (DT.eq (t_cmp (e_v 0) e_bl c_isB) rfl) (w_or1 (DT.eq (t_cmp (e_v 0) e_bl c_isB) rfl))
  | str x =>
    refine ss_cons (s_ifF (t_w (w_orF (DT.eq (t_cmp (e_v 0) e_non c_isN) rfl) (w_orF (DT.eq (t_cmp (e_v 0) e_bl c_isB) rfl) (w_or1 (DT.eq (t_cmp (e_v 0) e_bl c_isB) rfl))))) ss_nil) ?_
    exact ss_stop (s_ifT (DT.eq (t_val (isi_str B (e_v 0))) rfl) (ss_one (s_ret (e_repr B.repr (e_v 0) hs))))
  | int i =>
    have h' : i.natAbs.log2 < 1920 := by simpa [isSc] using h
    refine ss_cons (s_ifF (t_w (w_orF (DT.eq (t_cmp (e_v 0) e_non c_isN) rfl) (w_orF (DT.eq (t_cmp (e_v 0) e_bl c_isB) rfl) (w_or1 (DT.eq (t_cmp (e_v 0) e_bl c_isB) rfl))))) ss_nil) ?_
    refine ss_cons (s_ifF (DT.eq (t_val (isi_str B (e_v 0))) rfl) ss_nil) ?_
    exact ss_stop (s_ifT (DT.eq (t_val (isi_int B (e_v 0))) rfl) (ss_one (s_ret (e_ifT (DT.eq (t_cmp (e_abs B.abs (e_v 0)) (e_powG (e_pow e_int e_int ⟨by decide, by decide, by decide⟩) e_int ⟨by decide, 210, by decide +kernel, by decide⟩) c_lt) (decide_eq_true (great h'))) (e_repr B.repr (e_v 0) hs)))))
  | list _ => simp [isSc] at h
  | tuple _ => simp [isSc] at h
  | dict _ => simp [isSc] at h
theorem ok30a {f : Addr} {fd : FuncData} (B : Bt W) (F : Fun W.K "_law_seen" "_law_seen" (top 30) f fd) : FnG W 2 f fd ["told", "deep"] (spD R30a) := by
  refine Fun.okD F sc30 (fun es S r h => ?_) (fun E es S r h => ?_)
  · obtain ⟨b, xs, rfl, _⟩ := h
    rfl
  · obtain ⟨d, k, rfl, rfl, h, rfl⟩ := h
    exact ⟨.rt (dS d.shown) [], .val (.val _) rfl rfl, seen_sc B d k h⟩
theorem sum_le {l : List Nat} {m : Nat} (h : ∀ x, x ∈ l → x ≤ m) : l.sum ≤ l.length * m := by
  induction l with
  | nil => simp
  | cons a l ih =>
    have h1 := h a List.mem_cons_self
    have h2 := ih fun x hx => h x (List.mem_cons_of_mem _ hx)
    rw [List.sum_cons, List.length_cons, Nat.succ_mul]
    omega
theorem ok30 {f : Addr} {fd : FuncData} (B : Bt W) (D30a : Def W "_law_seen" ["told", "deep"] 2 R30a) (F : Fun W.K "_law_seen" "_law_seen" (top 30) f fd) : FnG W 4 f fd ["told", "deep"] (spD R30) := by
  refine Fun.okD F sc30 (fun es S r h => ?_) (fun E es S r h => ?_)
  · obtain ⟨b, rfl, _⟩ := h
    rfl
  · obtain ⟨d, rfl, rfl, h, rfl⟩ := h
    refine ⟨.rt (dS (seenD d)) [], .val (.val _) rfl rfl, ?_⟩
    by_cases ht : ∃ xs, d = .tuple xs
    · obtain ⟨xs, rfl⟩ := ht
      obtain ⟨h1, h2⟩ := h
      refine ss_cons (s_ifF (t_w (w_orF (DT.eq (t_cmp (e_v 0) e_non c_isN) rfl) (w_orF (DT.eq (t_cmp (e_v 0) e_bl c_isB) rfl) (w_or1 (DT.eq (t_cmp (e_v 0) e_bl c_isB) rfl))))) ss_nil) ?_
      refine ss_cons (s_ifF (DT.eq (t_val (isi_str B (e_v 0))) rfl) ss_nil) ?_
      refine ss_cons (s_ifF (DT.eq (t_val (isi_int B (e_v 0))) rfl) ss_nil) ?_
      have hys : ∀ y, y ∈ (xs.map itm) → y.length ≤ 2002 := fun y hy => by
        obtain ⟨x, hx, rfl⟩ := List.mem_map.mp hy
        have := sc_len (h2 x hx)
        show (x.shown ++ (", " : Str)).length ≤ _
        rw [strLen_append]
        have e : (", " : Str).length = 2 := by decide
        omega
      have hsum : ((xs.map itm).map (·.length)).sum ≤ 16 * 2002 := by
        refine Nat.le_trans (sum_le (m := 2002) fun x hx => ?_) ?_
        · obtain ⟨y, hy, rfl⟩ := List.mem_map.mp hx
          exact hys y hy
        · rw [List.length_map, List.length_map]
          exact Nat.mul_le_mul h1 (Nat.le_refl _)
      have e0 : ("" : Str).length = 0 := by decide
      refine ss_stop (s_ifT (t_w (w_andT (DT.eq (t_val (isi_tup B (e_v 0))) rfl) (w_and1 (DT.eq (t_cmp (e_v 1) e_int c_gt) rfl)))) (ss_one (s_ret (e_adds (e_adds e_str (e_join (ys := xs.map itm) e_str (e_lc (St := fun _ => []) (own := [("item", 2)]) rfl sc30.nd (i_t (e_v 0)) ?_ ?_ (fun i x d hx hd => ?_)) ?_) ?_) e_str ?_))))
      · simp
      · simp
        omega
      · obtain ⟨y, hy, rfl⟩ := map_get hx
        obtain ⟨w, hw, rfl⟩ := map_get hd
        obtain ⟨y', hy', rfl⟩ := map_get hw
        rw [hy] at hy'
        cases hy'
        have hm := h2 y (List.mem_of_getElem? hy)
        refine turn1 2 sc30.nd ?_
        refine e_adds (e_fn D30a (a_cons (e_v 2) (a_cons (e_sub (e_v 1) e_int) a_nil)) ⟨y, 3 - 1, rfl, rfl, hm, rfl⟩) e_str ?_
        have := sc_len hm
        rw [sizeLine_eq]
        have e : (", " : Str).length = 2 := by decide
        omega
      · rw [e0]
        omega
      · have hj := StrLaws.join_length_le ("" : Str) (xs.map itm)
        rw [← TL.join_eq] at hj
        rw [e0] at hj
        rw [sizeLine_eq]
        have e : ("(" : Str).length = 1 := by decide
        omega
      · have hj := StrLaws.join_length_le ("" : Str) (xs.map itm)
        rw [← TL.join_eq] at hj
        rw [e0] at hj
        rw [sizeLine_eq, strLen_append]
        have e : ("(" : Str).length = 1 := by decide
        have e2 : (")" : Str).length = 1 := by decide
        omega
    · have hsc : isSc d = true := by
        cases d with
        | tuple xs => exact absurd ⟨xs, rfl⟩ ht
        | _ => exact h
      have e : seenD d = d.shown := by
        cases d with
        | tuple xs => exact absurd ⟨xs, rfl⟩ ht
        | _ => rfl
      rw [e]
      exact seen_sc B d 3 hsc
end K83
end
section
set_option Elab.async false
set_option linter.all false
set_option maxRecDepth 100000
set_option maxHeartbeats 400000
set_option autoImplicit false
/-! k83, part g: what is told of a question, and whether it holds. -/
namespace K83
open L2 PySem PySem.Spec PyProof.Rows DL
variable {W : WD}
/-- what may be asked -/
inductive Ask where
  | error (d : PyData) | product (a b : List Int) | other (a : List Int) | power (a : List Int) (k : Nat) | put (a b : List Int)
def Ask.word : Ask → Str
  | .error _ => "error"
  | .product _ _ => "product"
  | .other _ => "other"
  | .power _ _ => "power"
  | .put _ _ => "put"
def Ask.one : Ask → PyData
  | .error d => d
  | .product a _ => ti a
  | .other a => ti a
  | .power a _ => ti a
  | .put a _ => ti a
def Ask.two : Ask → PyData
  | .error _ => .none
  | .product _ b => ti b
  | .other _ => .none
  | .power _ k => .int (k : Nat)
  | .put _ b => ti b
def Ask.pre : Ask → Prop
  | .error _ => True
  | .product a b => a.length = b.length ∧ a.length ≤ 16 ∧ Sm a ∧ Sm b
  | .other a => 1 ≤ a.length ∧ a.length ≤ 16 ∧ Sm a ∧ (isOne (a.getD 0 0) = true → ∀ m, m < a.length → Sm (oth a m))
  | .power a k => 1 ≤ a.length ∧ a.length ≤ 16 ∧ k ≤ 100 ∧ Sm a ∧ (∀ j, j ≤ k → Sm (powS a j))
  | .put a b => a.length = b.length ∧ 1 ≤ a.length ∧ a.length ≤ 16 ∧ Sm a ∧ Sm b ∧ (b.getD 0 0 = 0 → ∀ j, j ≤ a.length → Sm (powS b j))
def Ask.ans : Ask → Option PyData
  | .error d => some (errD d)
  | .product a b => some (ti (mulS a b))
  | .other a => if isOne (a.getD 0 0) = true then some (ti (othS a)) else none
  | .power a k => some (ti (powS a k))
  | .put a b => if b.getD 0 0 = 0 then some (ti (putF a b a.length)) else none
def Ask.ok (q : Ask) : Prop := q.pre ∧ ∀ d, q.ans = some d → SeenOk d
def Ask.told (q : Ask) : Str := match q.ans with
  | some d => seenD d
  | none => "raise Unfit"
def R31 : DL.Spec := fun es S r => ∃ (q : Ask) (nm : Bool), es = [dS q.word, .val q.one, .val q.two, dB nm] ∧ S = [] ∧ q.ok ∧ r = .ok (dS q.told) []
theorem sc31 : FnScope ["word", "one", "other", "is_named", "error"] ["word", "one", "other", "is_named"] (defScope (top 31)) := ⟨rfl, rfl, rfl, by decide +kernel, rfl, by decide +kernel, by decide +kernel⟩
/-- what is known of the classes -/
structure Ex (W : WD) (U : Addr) : Prop where
  T : ∃ T : Addr, W.mg "TermError" = some (.ref T) ∧ PySem.W.exmOne W.K (.ref U) (.ref T) = some true
  C : ExcC W.K U
  many : ∃ c1 c2 c3 c4 c5 c6 c7 : Addr, W.mg "BadLog" = some (.ref c1) ∧ W.mg "BadPolynomial" = some (.ref c2) ∧ W.mg "BadText" = some (.ref c3) ∧ W.mg "NoName" = some (.ref c4) ∧ W.mg "NothingToRedo" = some (.ref c5) ∧ W.mg "NothingToUndo" = some (.ref c6) ∧ W.mg "NoVersion" = some (.ref c7) ∧
    PySem.W.kitAny W.K (.ref U) [.ref c1, .ref c2, .ref c3, .ref c4, .ref c5, .ref c6, .ref c7] = some false
  two : ∃ c1 c2 : Addr, W.mg "Refused" = some (.ref c1) ∧ W.mg "TooMany" = some (.ref c2) ∧ PySem.W.kitAny W.K (.ref U) [.ref c1, .ref c2] = some false
  ve : PySem.W.kitOne W.K (.ref U) (.type "ValueError") = some true
  me : PySem.W.kitOne W.K (.ref U) (.ref U) = some true
/-- the program's defs, called by place and by names -/
structure Ser (W : WD) (U : Addr) : Prop where
  e : Def W "series_error" ["value"] 6 R18
  p : Def W "series_product" ["one", "other"] 4 R20
  o : Def W "series_other" ["row"] 3 (R21 U)
  w : Def W "series_power" ["row", "k"] 6 R23
  t : Def W "series_put" ["one", "other"] 8 (R25 U)
  ek : DefK W "series_error" ["value"] 6 R18 ["value"] [0]
  pk : DefK W "series_product" ["one", "other"] 4 R20 ["one", "other"] [0, 1]
  ok : DefK W "series_other" ["row"] 3 (R21 U) ["row"] [0]
  wk : DefK W "series_power" ["row", "k"] 6 R23 ["row", "k"] [0, 1]
  tk : DefK W "series_put" ["one", "other"] 8 (R25 U) ["one", "other"] [0, 1]
theorem eqT {a b : Str} (h : a = b) : decide (a = b) = true := decide_eq_true h
theorem eqF {a b : Str} (h : a ≠ b) : decide (a = b) = false := decide_eq_false h
theorem ok31 {U : Addr} {f : Addr} {fd : FuncData} (B : Bt W) (X : Uf W U) (Y : Ex W U) (Z : Ser W U) (D30 : Def W "_law_seen" ["told", "deep"] 4 R30) (F : Fun W.K "_law_told" "_law_told" (top 31) f fd) : FnG W 10 f fd ["word", "one", "other", "is_named"] (spD R31) := by
  refine Fun.okD F sc31 (fun es S r h => ?_) (fun E es S r h => ?_)
  · obtain ⟨b, xs, rfl, _⟩ := h
    rfl
  · obtain ⟨q, nm, rfl, rfl, ⟨hpre, hans⟩, rfl⟩ := h
    refine ⟨.rt (dS q.told) [], .val (.val _) rfl rfl, ?_⟩
    obtain ⟨T, hT, hexm⟩ := Y.T
    obtain ⟨c1, c2, c3, c4, c5, c6, c7, g1, g2, g3, g4, g5, g6, g7, kA⟩ := Y.many
    obtain ⟨d1, d2, r1, r2, kB⟩ := Y.two
    refine ss_one ?_
    cases q with
    | error d =>
      have hs := hans _ rfl
      refine s_tryR (i := 4) rfl sc31.nd rfl rfl hT (fun W' => ?_)
      refine ss_stop (s_ifT (DT.eq (t_cmp (e_v 0) e_str c_eqS) (eqT rfl)) (ss_one (s_ret (e_fn D30 (a_cons ?_ (a_cons e_int a_nil)) ⟨errD d, rfl, rfl, hs, rfl⟩))))
      cases nm with
      | true => exact e_ifT (t_val (e_v 3)) (e_fnk Z.ek (k_cons (e_v 1) k_nil) ⟨d, rfl, rfl, rfl⟩)
      | false => exact e_ifF (t_val (e_v 3)) (e_fn Z.e (a_cons (e_v 1) a_nil) ⟨d, rfl, rfl, rfl⟩)
    | product a b =>
      have hs := hans _ rfl
      obtain ⟨p1, p2, p3, p4⟩ := hpre
      refine s_tryR (i := 4) rfl sc31.nd rfl rfl hT (fun W' => ?_)
      refine ss_cons (s_ifF (DT.eq (t_cmp (e_v 0) e_str c_eqS) (eqF (a := ("product" : Str)) (by decide))) ss_nil) ?_
      refine ss_stop (s_ifT (DT.eq (t_cmp (e_v 0) e_str c_eqS) (eqT rfl)) (ss_one (s_ret (e_fn D30 (a_cons ?_ (a_cons e_int a_nil)) ⟨ti (mulS a b), rfl, rfl, hs, rfl⟩))))
      cases nm with
      | true => exact e_ifT (t_val (e_v 3)) (e_fnk Z.pk (k_cons (e_v 1) (k_cons (e_v 2) k_nil)) ⟨a, b, rfl, rfl, p1, p2, p3, p4, rfl⟩)
      | false => exact e_ifF (t_val (e_v 3)) (e_fn Z.p (a_cons (e_v 1) (a_cons (e_v 2) a_nil)) ⟨a, b, rfl, rfl, p1, p2, p3, p4, rfl⟩)
    | power a k =>
      have hs := hans _ rfl
      obtain ⟨p1, p2, p3, p4, p5⟩ := hpre
      refine s_tryR (i := 4) rfl sc31.nd rfl rfl hT (fun W' => ?_)
      refine ss_cons (s_ifF (DT.eq (t_cmp (e_v 0) e_str c_eqS) (eqF (a := ("power" : Str)) (by decide))) ss_nil) ?_
      refine ss_cons (s_ifF (DT.eq (t_cmp (e_v 0) e_str c_eqS) (eqF (a := ("power" : Str)) (by decide))) ss_nil) ?_
      refine ss_cons (s_ifF (DT.eq (t_cmp (e_v 0) e_str c_eqS) (eqF (a := ("power" : Str)) (by decide))) ss_nil) ?_
      refine ss_stop (s_ifT (DT.eq (t_cmp (e_v 0) e_str c_eqS) (eqT rfl)) (ss_one (s_ret (e_fn D30 (a_cons ?_ (a_cons e_int a_nil)) ⟨ti (powS a k), rfl, rfl, hs, rfl⟩))))
      cases nm with
      | true => exact e_ifT (t_val (e_v 3)) (e_fnk Z.wk (k_cons (e_v 1) (k_cons (e_v 2) k_nil)) ⟨a, k, rfl, rfl, p1, p2, p3, p4, p5, rfl⟩)
      | false => exact e_ifF (t_val (e_v 3)) (e_fn Z.w (a_cons (e_v 1) (a_cons (e_v 2) a_nil)) ⟨a, k, rfl, rfl, p1, p2, p3, p4, p5, rfl⟩)
    | other a =>
      obtain ⟨p1, p2, p3, p4⟩ := hpre
      by_cases h0 : isOne (a.getD 0 0) = true
      · have ea : Ask.ans (.other a) = some (ti (othS a)) := if_pos h0
        have hs := hans _ ea
        have et : Ask.told (.other a) = seenD (ti (othS a)) := by unfold Ask.told; rw [ea]
        rw [et]
        refine s_tryR (i := 4) rfl sc31.nd rfl rfl hT (fun W' => ?_)
        refine ss_cons (s_ifF (DT.eq (t_cmp (e_v 0) e_str c_eqS) (eqF (a := ("other" : Str)) (by decide))) ss_nil) ?_
        refine ss_cons (s_ifF (DT.eq (t_cmp (e_v 0) e_str c_eqS) (eqF (a := ("other" : Str)) (by decide))) ss_nil) ?_
        refine ss_stop (s_ifT (DT.eq (t_cmp (e_v 0) e_str c_eqS) (eqT rfl)) (ss_one (s_ret (e_fn D30 (a_cons ?_ (a_cons e_int a_nil)) ⟨ti (othS a), rfl, rfl, hs, rfl⟩))))
        cases nm with
        | true => exact e_ifT (t_val (e_v 3)) (e_fnk Z.ok (k_cons (e_v 1) k_nil) ⟨a, rfl, rfl, p1, p2, p3, p4, (if_pos h0).symm⟩)
        | false => exact e_ifF (t_val (e_v 3)) (e_fn Z.o (a_cons (e_v 1) a_nil) ⟨a, rfl, rfl, p1, p2, p3, p4, (if_pos h0).symm⟩)
      · have ea : Ask.ans (.other a) = none := if_neg h0
        have et : Ask.told (.other a) = "raise Unfit" := by unfold Ask.told; rw [ea]
        rw [et]
        refine s_tryX (i := 4) (C := U) rfl sc31.nd rfl rfl hT (fun W' => ?_) hexm Y.C (fun Γ' => (xss_pass (xt_val (xe_isT rfl rfl B.isi (.own g1 rfl (by decide) (fun _ => rfl) (.own g2 rfl (by decide) (fun _ => rfl) (.own g3 rfl (by decide) (fun _ => rfl) (.own g4 rfl (by decide) (fun _ => rfl) (.own g5 rfl (by decide) (fun _ => rfl) (.own g6 rfl (by decide) (fun _ => rfl) (.own g7 rfl (by decide) (fun _ => rfl) .nil))))))) (Nat.le_of_ble_eq_true rfl) kA))
        (xss_pass (xt_w (xw_orF (xt_val (xe_isT rfl rfl B.isi (.own r1 rfl (by decide) (fun _ => rfl) (.own r2 rfl (by decide) (fun _ => rfl) .nil)) (Nat.le_of_ble_eq_true rfl) kB)) (xw_or1 (XT.eq (xt_not (xt_val (xe_is (c0 := .ty "ValueError") (k := true) rfl rfl B.isi (.inr ⟨B.verr, by decide +kernel, rfl, by decide⟩) (fun _ r => r) Y.ve))) rfl))))
          (xss_one (xs_ret (xe_ifT (xt_val (xe_is (c0 := .ref U) (k := true) rfl rfl B.isi (.inl ⟨X.g, rfl⟩) (fun _ r => r) Y.me)) (xe_of e_str)))))))
        refine ss_cons (s_ifF (DT.eq (t_cmp (e_v 0) e_str c_eqS) (eqF (a := ("other" : Str)) (by decide))) ss_nil) ?_
        refine ss_cons (s_ifF (DT.eq (t_cmp (e_v 0) e_str c_eqS) (eqF (a := ("other" : Str)) (by decide))) ss_nil) ?_
        refine ss_stop (s_ifT (DT.eq (t_cmp (e_v 0) e_str c_eqS) (eqT rfl)) (ss_one (s_retX (x_arg D30 ?_))))
        cases nm with
        | true => exact x_ifT (t_val (e_v 3)) (x_fnk Z.ok (k_cons (e_v 1) k_nil) ⟨a, rfl, rfl, p1, p2, p3, p4, (if_neg h0).symm⟩)
        | false => exact x_ifF (t_val (e_v 3)) (x_fn Z.o (a_cons (e_v 1) a_nil) ⟨a, rfl, rfl, p1, p2, p3, p4, (if_neg h0).symm⟩)
    | put a b =>
      obtain ⟨p1, p2, p3, p4, p5, p6⟩ := hpre
      by_cases h0 : b.getD 0 0 = 0
      · have ea : Ask.ans (.put a b) = some (ti (putF a b a.length)) := if_pos h0
        have hs := hans _ ea
        have et : Ask.told (.put a b) = seenD (ti (putF a b a.length)) := by unfold Ask.told; rw [ea]
        rw [et]
        refine s_tryR (i := 4) rfl sc31.nd rfl rfl hT (fun W' => ?_)
        refine ss_cons (s_ifF (DT.eq (t_cmp (e_v 0) e_str c_eqS) (eqF (a := ("put" : Str)) (by decide))) ss_nil) ?_
        refine ss_cons (s_ifF (DT.eq (t_cmp (e_v 0) e_str c_eqS) (eqF (a := ("put" : Str)) (by decide))) ss_nil) ?_
        refine ss_cons (s_ifF (DT.eq (t_cmp (e_v 0) e_str c_eqS) (eqF (a := ("put" : Str)) (by decide))) ss_nil) ?_
        refine ss_cons (s_ifF (DT.eq (t_cmp (e_v 0) e_str c_eqS) (eqF (a := ("put" : Str)) (by decide))) ss_nil) ?_
        refine ss_one (s_ret (e_fn D30 (a_cons ?_ (a_cons e_int a_nil)) ⟨ti (putF a b a.length), rfl, rfl, hs, rfl⟩))
        cases nm with
        | true => exact e_ifT (t_val (e_v 3)) (e_fnk Z.tk (k_cons (e_v 1) (k_cons (e_v 2) k_nil)) ⟨a, b, rfl, rfl, p1, p2, p3, p4, p5, p6, (if_pos h0).symm⟩)
        | false => exact e_ifF (t_val (e_v 3)) (e_fn Z.t (a_cons (e_v 1) (a_cons (e_v 2) a_nil)) ⟨a, b, rfl, rfl, p1, p2, p3, p4, p5, p6, (if_pos h0).symm⟩)
      · have ea : Ask.ans (.put a b) = none := if_neg h0
        have et : Ask.told (.put a b) = "raise Unfit" := by unfold Ask.told; rw [ea]
        rw [et]
        refine s_tryX (i := 4) (C := U) rfl sc31.nd rfl rfl hT (fun W' => ?_) hexm Y.C (fun Γ' => (xss_pass (xt_val (xe_isT rfl rfl B.isi (.own g1 rfl (by decide) (fun _ => rfl) (.own g2 rfl (by decide) (fun _ => rfl) (.own g3 rfl (by decide) (fun _ => rfl) (.own g4 rfl (by decide) (fun _ => rfl) (.own g5 rfl (by decide) (fun _ => rfl) (.own g6 rfl (by decide) (fun _ => rfl) (.own g7 rfl (by decide) (fun _ => rfl) .nil))))))) (Nat.le_of_ble_eq_true rfl) kA))
        (xss_pass (xt_w (xw_orF (xt_val (xe_isT rfl rfl B.isi (.own r1 rfl (by decide) (fun _ => rfl) (.own r2 rfl (by decide) (fun _ => rfl) .nil)) (Nat.le_of_ble_eq_true rfl) kB)) (xw_or1 (XT.eq (xt_not (xt_val (xe_is (c0 := .ty "ValueError") (k := true) rfl rfl B.isi (.inr ⟨B.verr, by decide +kernel, rfl, by decide⟩) (fun _ r => r) Y.ve))) rfl))))
          (xss_one (xs_ret (xe_ifT (xt_val (xe_is (c0 := .ref U) (k := true) rfl rfl B.isi (.inl ⟨X.g, rfl⟩) (fun _ r => r) Y.me)) (xe_of e_str)))))))
        refine ss_cons (s_ifF (DT.eq (t_cmp (e_v 0) e_str c_eqS) (eqF (a := ("put" : Str)) (by decide))) ss_nil) ?_
        refine ss_cons (s_ifF (DT.eq (t_cmp (e_v 0) e_str c_eqS) (eqF (a := ("put" : Str)) (by decide))) ss_nil) ?_
        refine ss_cons (s_ifF (DT.eq (t_cmp (e_v 0) e_str c_eqS) (eqF (a := ("put" : Str)) (by decide))) ss_nil) ?_
        refine ss_cons (s_ifF (DT.eq (t_cmp (e_v 0) e_str c_eqS) (eqF (a := ("put" : Str)) (by decide))) ss_nil) ?_
        refine ss_one (s_retX (x_arg D30 ?_))
        cases nm with
        | true => exact x_ifT (t_val (e_v 3)) (x_fnk Z.tk (k_cons (e_v 1) (k_cons (e_v 2) k_nil)) ⟨a, b, rfl, rfl, p1, p2, p3, p4, p5, p6, (if_neg h0).symm⟩)
        | false => exact x_ifF (t_val (e_v 3)) (x_fn Z.t (a_cons (e_v 1) (a_cons (e_v 2) a_nil)) ⟨a, b, rfl, rfl, p1, p2, p3, p4, p5, p6, (if_neg h0).symm⟩)
end K83
end
section
set_option Elab.async false
set_option linter.all false
set_option maxRecDepth 100000
set_option maxHeartbeats 1000000
set_option autoImplicit false
/-! k83, part h: the law's own product, other, power, put, error; what holds. -/
namespace K83
open L2 PySem PySem.Spec PyProof.Rows DL
variable {W : WD}
/-! ### _law_holds(word, one, other, due) -/
def Kept (x y : PyData) : Prop := Shows (.list [x, y]) ∨ (flatL [x, y] = true ∧ PyData.showableAll [x, y] = true ∧ (PyData.list [x, y]).shown.length ≤ 16777216 ∧ (PyData.list [x, y]).depth ≤ 100)
def R32 : DL.Spec := fun es S r => ∃ q : Ask, es = [dS q.word, .val q.one, .val q.two, dS q.told] ∧ S = [] ∧ q.ok ∧ Kept q.one q.two ∧ r = .ok (dB true) []
theorem sc32 : FnScope ["word", "one", "other", "due", "kept", "is_named"] ["word", "one", "other", "due"] (defScope (top 32)) := ⟨rfl, rfl, rfl, by decide +kernel, rfl, by decide +kernel, by decide +kernel⟩
def hg (q : Ask) (i : Nat) : List EV := [dS q.word, .val q.one, .val q.two, dS q.told, dS (PyData.list [q.one, q.two]).shown, (match i with | 0 => .und | j + 1 => .val ([PyData.bool false, .bool true, .bool false].getD j .none))]
theorem ok32 {f : Addr} {fd : FuncData} (B : Bt W) (D31 : Def W "_law_told" ["word", "one", "other", "is_named"] 10 R31) (F : Fun W.K "_law_holds" "_law_holds" (top 32) f fd) : FnG W 12 f fd ["word", "one", "other", "due"] (spD R32) := by
  refine Fun.okD F sc32 (fun es S r h => ?_) (fun E es S r h => ?_)
  · obtain ⟨q, rfl, _⟩ := h
    rfl
  · obtain ⟨q, rfl, rfl, hq, hk, rfl⟩ := h
    refine ⟨.rt (dB true) [], .val (.val _) rfl rfl, ?_⟩
    refine ss_cons (s_set 4 sc32.nd (S1 := []) (Γ' := hg q 0) (v := dS (PyData.list [q.one, q.two]).shown) ?_) ?_
    · rcases hk with hk | ⟨k1, k2, k3, k4⟩
      · exact e_repr B.repr (e_lst (a_cons (e_v 1) (a_cons (e_v 2) a_nil))) hk
      · exact e_reprL B.repr (a_cons (e_v 1) (a_cons (e_v 2) a_nil)) k1 k2 (by simp) k3 k4
    refine ss_cons (s_for (hg q) (fun i => []) rfl (i_l (e_lst (ds := [.bool false, .bool true, .bool false]) (a_cons e_bl (a_cons e_bl (a_cons e_bl a_nil))))) rfl (fun i x hx => ?_)) ?_
    · obtain ⟨y, hy, rfl⟩ := map_get hx
      have ey : y = [PyData.bool false, .bool true, .bool false].getD i .none := by rw [List.getD_eq_getElem?_getD, hy]; rfl
      have eb : ∃ nm, y = .bool nm := by
        match i, hy with
        | 0, hy => exact ⟨false, (Option.some.inj hy).symm⟩
        | 1, hy => exact ⟨true, (Option.some.inj hy).symm⟩
        | 2, hy => exact ⟨false, (Option.some.inj hy).symm⟩
        | i + 3, hy => simp at hy
      obtain ⟨nm, rfl⟩ := eb
      refine ⟨_, _, g_n 5 sc32.nd (Γ' := hg q (i + 1)) (hΓ := by show _ = [_, _, _, _, _, EV.val ([PyData.bool false, .bool true, .bool false].getD i .none)]; rw [← ey]; rfl), ss_one (s_ifF (DT.eq (t_cmp (e_fn D31 (a_cons (e_v 0) (a_cons (e_v 1) (a_cons (e_v 2) (a_cons (e_v 5 (ev := dB nm) (hΓ := by show some (EV.val ([PyData.bool false, .bool true, .bool false].getD i .none)) = _; rw [← ey])) a_nil)))) ⟨q, nm, rfl, rfl, hq, rfl⟩) (e_v 3) c_neS) (by rw [decide_eq_true rfl]; rfl)) ss_nil)⟩
    · refine ss_one (s_ret (DE.eq (e_cmp (x := dS (PyData.list [q.one, q.two]).shown) ?_ (e_v 4) c_eqS) (by rw [decide_eq_true rfl])))
      rcases hk with hk | ⟨k1, k2, k3, k4⟩
      · exact e_repr B.repr (e_lst (a_cons (e_v 1) (a_cons (e_v 2) a_nil))) hk
      · exact e_reprL B.repr (a_cons (e_v 1) (a_cons (e_v 2) a_nil)) k1 k2 (by simp) k3 k4
/-! ### _law_own_product(one, other) -/
theorem sc34 : FnScope ["one", "other", "found", "i", "j"] ["one", "other"] (defScope (top 34)) := ⟨rfl, rfl, rfl, by decide +kernel, rfl, by decide +kernel, by decide +kernel⟩
def vi (l : List Int) : List EV := l.map fun i => EV.val (.int i)
def mg34 (a b : List Int) (i : Nat) : List EV := [.val (ti a), .val (ti b), .own 0, (match i with | 0 => .und | j + 1 => dI (0 + (j : Int))), .und]
theorem ok34 {f : Addr} {fd : FuncData} (B : Bt W) (F : Fun W.K "_law_own_product" "_law_own_product" (top 34) f fd) : FnG W 2 f fd ["one", "other"] (spD R20) := by
  refine Fun.okD F sc34 (fun es S r h => ?_) (fun E es S r h => ?_)
  · obtain ⟨a, b, rfl, _⟩ := h
    rfl
  · obtain ⟨a, b, rfl, rfl, h1, h3, ha, hb, rfl⟩ := h
    refine ⟨.rt (.val (ti (mulS a b))) ([] ++ [.lst (vi (mulS a b))]), .val (.val _) rfl rfl, ?_⟩
    refine ss_cons (s_set 2 sc34.nd (Γ' := mg34 a b 0) (e_lsto (xs := []) a_nil)) ?_
    have hn : (rngE 0 ((a.map PyData.int).length : Int).toNat).length = a.length := by simp [rngE]
    refine ss_cons (DS.eqO (s_for (mg34 a b) (fun i => [.lst (vi ((List.range i).map fun n => pit a b n))]) rfl (i_r1 B.range (e_lent B.len (e_v 0)) (by omega) (by simp; omega)) rfl (fun i x hx => ?_)) (by rw [hn])) ?_
    · obtain ⟨hi, rfl⟩ := rng_get hx
      have hi2 : i < a.length := by simpa using hi
      refine ⟨_, _, g_n 3 sc34.nd (Γ' := mg34 a b (i + 1)) (hΓ := rfl), ss_one (s_expr (e_append (e_v 2) rfl (e_sum B.sum rfl (ns := (List.range (i + 1)).map fun j => a.getD j 0 * b.getD (i - j) 0) (e_lc (St := fun _ => _) (own := [("j", 4)]) rfl sc34.nd (i_r1 B.range (e_add (e_v 3) e_int) (by omega) (by omega)) ?_ ?_ (fun j x d hx hd => ?_))) rfl ?_ ?_))⟩
      · simp [rngE]
      · simp [rngE]
        omega
      · obtain ⟨hj, rfl⟩ := rng_get hx
        obtain ⟨y, hy, rfl⟩ := map_get hd
        obtain ⟨j2, hj2, rfl⟩ := map_get hy
        obtain ⟨rfl, hj3⟩ := range_get hj2
        refine turn1 4 sc34.nd ?_
        exact e_mul (e_ixt (e_v 0) (e_v 4) (at_row (i := j2) (by omega) (by omega))) (e_ixt (e_v 1) (e_sub (e_v 3) (e_v 4)) (at_row (i := i - j2) (by omega) (by omega))) (ha.mul hb _ _)
      · simp [vi]
        omega
      · show [MO.lst _] = [MO.lst _]
        have e : ((List.range (i + 1)).map fun n => pit a b n) = ((List.range i).map fun n => pit a b n) ++ [pit a b i] := by
          rw [List.range_succ, List.map_append]
          rfl
        unfold vi
        rw [e, List.map_append]
        rfl
    · refine ss_one (s_ret (e_tupo B.tuple (ds := (mulS a b).map .int) (e_v 2) ?_))
      rw [← map2]
      rfl
/-! ### _law_own_other(row) -/
def R35 : DL.Spec := fun es S r => ∃ a : List Int, es = [.val (ti a)] ∧ S = [] ∧ 1 ≤ a.length ∧ a.length ≤ 16 ∧ Sm a ∧ isOne (a.getD 0 0) = true ∧ (∀ m, m < a.length → Sm (oth a m)) ∧ r = .ok (.val (ti (othS a))) []
theorem sc35 : FnScope ["row", "found", "i", "j"] ["row"] (defScope (top 35)) := ⟨rfl, rfl, rfl, by decide +kernel, rfl, by decide +kernel, by decide +kernel⟩
theorem ok35 {f : Addr} {fd : FuncData} (B : Bt W) (F : Fun W.K "_law_own_other" "_law_own_other" (top 35) f fd) : FnG W 2 f fd ["row"] (spD R35) := by
  refine Fun.okD F sc35 (fun es S r h => ?_) (fun E es S r h => ?_)
  · obtain ⟨a, rfl, _⟩ := h
    rfl
  · obtain ⟨a, rfl, rfl, h1, h3, ha, h0, hS, rfl⟩ := h
    have i0 : ∀ {i : Nat}, atI (a.map PyData.int) 0 = some (.int (a.getD 0 0)) := at_row (i := 0) (by omega) rfl
    refine ⟨.rt (.val (ti (othS a))) ([] ++ [.lst (vi (othS a))]), .val (.val _) rfl rfl, ?_⟩
    refine ss_cons (s_set 1 sc35.nd (e_lsto (a_cons (e_ixt (e_v 0) e_int (i0 (i := 0))) a_nil))) ?_
    have hn : (rngE 1 ((a.length : Int) - 1).toNat).length = a.length - 1 := by
      simp [rngE]
    refine ss_cons (DS.eqO (s_for (og a) (fun i => [.lst (vi (oth a i))]) rfl (i_r2 B.range e_int (e_lent B.len (e_v 0)) (by simp; omega)) rfl (fun i x hx => ?_)) (by rw [List.length_map, hn])) ?_
    · obtain ⟨hi, rfl⟩ := rng_get hx
      have hi2 : i + 1 < a.length := by
        simp at hi
        omega
      have hl := oth_len a i
      have h1' : (a.getD 0 0).natAbs = 1 := by
        unfold isOne at h0
        simp only [Bool.or_eq_true, decide_eq_true_eq] at h0
        rcases h0 with z | z <;> rw [z] <;> rfl
      have hmul : CMulW (a.getD 0 0) ((List.range (i + 1)).map fun j => a.getD (j + 1) 0 * (oth a i).getD (i - j) 0).sum := by
        have hlast := hS (i + 1) hi2 (-(a.getD 0 0) * ((List.range (i + 1)).map fun j => a.getD (j + 1) 0 * (oth a i).getD (i - j) 0).sum) (by show _ ∈ oth a i ++ [_]; simp)
        rw [Int.natAbs_mul, Int.natAbs_neg, h1', Nat.one_mul] at hlast
        unfold CMulW
        rw [h1']
        have : Nat.log2 1 = 0 := by decide
        omega
      refine ⟨_, _, g_n 2 sc35.nd (Γ' := [.val (ti a), .own 0, dI (1 + (i : Int)), .und]) (hΓ := rfl), ss_one (s_expr (e_append (v := dI (-(a.getD 0 0) * ((List.range (i + 1)).map fun j => a.getD (j + 1) 0 * (oth a i).getD (i - j) 0).sum)) (e_v 1) rfl (DE.eq (e_sub e_int (e_mul (e_ixt (e_v 0) e_int (i0 (i := 0))) (e_sum B.sum rfl (ns := (List.range (i + 1)).map fun j => a.getD (j + 1) 0 * (oth a i).getD (i - j) 0) (e_lc (St := fun _ => _) (own := [("j", 3)]) rfl sc35.nd (i_r2 B.range e_int (e_add (e_v 2) e_int) (by omega)) ?_ ?_ (fun j x d hx hd => ?_))) hmul)) ?_) rfl ?_ ?_))⟩
      · simp [rngE]
        omega
      · simp [rngE]
        omega
      · obtain ⟨hj, rfl⟩ := rng_get hx
        obtain ⟨y, hy, rfl⟩ := map_get hd
        obtain ⟨j2, hj2, rfl⟩ := map_get hy
        obtain ⟨rfl, hj3⟩ := range_get hj2
        refine turn1 3 sc35.nd ?_
        refine e_mul (e_ixt (e_v 0) (e_v 3) (at_row (i := j2 + 1) (by omega) (by omega))) (e_ixo (x := dI ((oth a i).getD (i - j2) 0)) (e_v 1) (e_sub (e_v 2) (e_v 3)) rfl ?_) (ha.mul (hS i (by omega)) _ _)
        unfold atI ixN
        rw [if_pos (by omega), if_pos (by simp [vi]; omega)]
        rw [show (1 + (i : Int) - (1 + (j2 : Int))).toNat = i - j2 from by omega]
        simp [vi, show i - j2 < (oth a i).length from by omega]
      · rw [Int.neg_mul, Int.zero_sub]
      · simp [vi]
        omega
      · show [MO.lst _] = [MO.lst _]
        rw [show oth a (i + 1) = oth a i ++ [-(a.getD 0 0) * ((List.range (i + 1)).map fun j => a.getD (j + 1) 0 * (oth a i).getD (i - j) 0).sum] from rfl]
        simp [vi]
    · refine ss_one (s_ret (e_tupo B.tuple (ds := (othS a).map .int) (e_v 1) ?_))
      rw [← map2]
      rfl
/-! ### _law_own_power(row, k) -/
theorem sc36 : FnScope ["row", "k", "found", "turn"] ["row", "k"] (defScope (top 36)) := ⟨rfl, rfl, rfl, by decide +kernel, rfl, by decide +kernel, by decide +kernel⟩
theorem e_unit {c : Kx} {Γ : List EV} {S S1 : List MO} {a b : Expr} {pos : Pos} {k : Int} (m : Nat) (ha : DE c a Γ S (dT [.int 1]) S1) (hb : DE c b Γ S1 (.val (ti (List.replicate (m - 1) 0))) S1) (hm : m ≤ 16) : DE c (.BinOp a .Add b pos) Γ S (.val (ti (unitS m))) S1 :=
  e_addt (ds := [.int 1]) (es := (List.replicate (m - 1) 0).map .int) ha hb (by rw [sizeLine_eq]; simp; omega)
theorem ok36 {f : Addr} {fd : FuncData} (B : Bt W) (D34 : Def W "_law_own_product" ["one", "other"] 2 R20) (F : Fun W.K "_law_own_power" "_law_own_power" (top 36) f fd) : FnG W 4 f fd ["row", "k"] (spD R23) := by
  refine Fun.okD F sc36 (fun es S r h => ?_) (fun E es S r h => ?_)
  · obtain ⟨a, k, rfl, _⟩ := h
    rfl
  · obtain ⟨a, k, rfl, rfl, h1, h2, h3, ha, hp, rfl⟩ := h
    refine ⟨.rt (.val (ti (powS a k))) [], .val (.val _) rfl rfl, ?_⟩
    refine ss_cons (s_set 2 sc36.nd (Γ' := pg a k 0) (e_unit (k := 0) a.length (e_tup (a_cons e_int a_nil)) (e_rep0 (a.length - 1) (e_tup (a_cons e_int a_nil)) (e_sub (e_lent B.len (e_v 0)) e_int) (by simp; omega) (by omega)) h2)) ?_
    have hn : (rngE 0 ((k : Nat) : Int).toNat).length = k := by simp [rngE]
    refine ss_cons (DS.eqO (s_for (pg a k) (fun i => []) rfl (i_r1 B.range (e_v 1) (by omega) (by omega)) rfl (fun i x hx => ?_)) (by rw [hn])) ?_
    · obtain ⟨hi, rfl⟩ := rng_get hx
      have hi2 : i < k := by simpa using hi
      refine ⟨_, _, g_n 3 sc36.nd (Γ' := [.val (ti a), dI (k : Nat), .val (ti (powS a i)), dI (0 + (i : Int))]) (hΓ := rfl), ss_one (s_set 2 sc36.nd (e_fn D34 (a_cons (e_v 2) (a_cons (e_v 0) a_nil)) ⟨powS a i, a, rfl, rfl, pow_len h1 i, by rw [pow_len h1]; exact h2, hp i (by omega), ha, rfl⟩))⟩
    · exact ss_one (s_ret (e_v 2))
/-! ### _law_own_put(one, other) -/
def horI (x : Int) (t : List Int) : List Int := (t.getD 0 0 + x) :: t.drop 1
/-- behind i items, from the last one -/
def horL (a b : List Int) : Nat → List Int
  | 0 => List.replicate a.length 0
  | i + 1 => horI (a.getD (a.length - 1 - i) 0) (mulS (horL a b i) b)
theorem hor_len {a b : List Int} (h : 1 ≤ a.length) : ∀ i, (horL a b i).length = a.length
  | 0 => by simp [horL]
  | i + 1 => by
    have ih := hor_len (b := b) h i
    show ((_ :: (mulS (horL a b i) b).drop 1)).length = _
    rw [List.length_cons, List.length_drop, mulS_len, ih]
    omega
def R37 : DL.Spec := fun es S r => ∃ a b : List Int, es = [.val (ti a), .val (ti b)] ∧ S = [] ∧ a.length = b.length ∧ 1 ≤ a.length ∧ a.length ≤ 16 ∧ Sm b ∧ (∀ i, i ≤ a.length → Sm (horL a b i)) ∧ r = .ok (.val (ti (horL a b a.length))) []
theorem sc37 : FnScope ["one", "other", "found", "item", "times"] ["one", "other"] (defScope (top 37)) := ⟨rfl, rfl, rfl, by decide +kernel, rfl, by decide +kernel, by decide +kernel⟩
def tm (a b : List Int) : Nat → EV
  | 0 => .und
  | j + 1 => .val (ti (mulS (horL a b j) b))
def og37 (a b : List Int) (i : Nat) : List EV := [.val (ti a), .val (ti b), .val (ti (horL a b i)), (match i with | 0 => .und | j + 1 => dI (a.getD (a.length - 1 - j) 0)), tm a b i]
theorem drop1 (r : List Int) : DL.cutD (r.map PyData.int) (some 1) none = (r.drop 1).map PyData.int := by
  unfold DL.cutD
  rw [show HT.sIx (r.map PyData.int).length 0 (some 1) = min 1 r.length from by rw [show (1 : Int) = ((1 : Nat) : Int) from rfl, HT.sIx_nat, List.length_map], show HT.sIx (r.map PyData.int).length (r.map PyData.int).length none = r.length from by rw [HT.sIx_none, List.length_map]]
  cases r with
  | nil => rfl
  | cons x r =>
    rw [show min 1 (x :: r).length = 1 from by simp]
    rw [List.take_of_length_le (by simp), List.map_drop]
theorem ok37 {f : Addr} {fd : FuncData} (B : Bt W) (D34 : Def W "_law_own_product" ["one", "other"] 2 R20) (F : Fun W.K "_law_own_put" "_law_own_put" (top 37) f fd) : FnG W 4 f fd ["one", "other"] (spD R37) := by
  refine Fun.okD F sc37 (fun es S r h => ?_) (fun E es S r h => ?_)
  · obtain ⟨a, k, rfl, _⟩ := h
    rfl
  · obtain ⟨a, b, rfl, rfl, hl, h1, h2, hb, hh, rfl⟩ := h
    refine ⟨.rt (.val (ti (horL a b a.length))) [], .val (.val _) rfl rfl, ?_⟩
    refine ss_cons (s_set 2 sc37.nd (Γ' := og37 a b 0) (e_rep0 a.length (e_tup (a_cons e_int a_nil)) (e_lent B.len (e_v 0)) (by simp) (by omega))) ?_
    have hn : ((a.map PyData.int).reverse.map EV.val).length = a.length := by simp
    refine ss_cons (DS.eqO (s_for (og37 a b) (fun i => []) rfl (i_rl B.rev (e_lstt B.list (e_v 0))) rfl (fun i x hx => ?_)) (by rw [hn])) ?_
    · obtain ⟨y, hy, rfl⟩ := map_get hx
      have hi : i < a.length := by
        have := (List.getElem?_eq_some_iff.mp hy).1
        simpa using this
      have ey : y = .int (a.getD (a.length - 1 - i) 0) := by
        rw [List.getElem?_reverse (by simpa using hi), List.length_map] at hy
        obtain ⟨z, hz, rfl⟩ := map_get hy
        rw [List.getD_eq_getElem?_getD, hz]
        rfl
      subst ey
      have l1 := hor_len (b := b) h1 i
      have l2 : (mulS (horL a b i) b).length = a.length := by rw [mulS_len, l1]
      refine ⟨_, _, g_n 3 sc37.nd (Γ' := [.val (ti a), .val (ti b), .val (ti (horL a b i)), dI (a.getD (a.length - 1 - i) 0), tm a b i]) (hΓ := rfl), ?_⟩
      refine ss_cons (s_set 4 sc37.nd (Γ' := [.val (ti a), .val (ti b), .val (ti (horL a b i)), dI (a.getD (a.length - 1 - i) 0), .val (ti (mulS (horL a b i) b))]) (e_fn D34 (a_cons (e_v 2) (a_cons (e_v 1) a_nil)) ⟨horL a b i, b, rfl, rfl, by omega, by omega, hh i (by omega), hb, rfl⟩)) ?_
      refine ss_one (s_set 2 sc37.nd (v := .val (ti (horL a b (i + 1)))) (DE.eq (e_addt (ds := [.int ((mulS (horL a b i) b).getD 0 0 + a.getD (a.length - 1 - i) 0)]) (es := DL.cutD ((mulS (horL a b i) b).map .int) (some 1) none) (e_tup (a_cons (e_add (e_ixt (e_v 4) e_int (at_row (i := 0) (by omega) rfl)) (e_v 3)) a_nil)) (e_slt (e_v 4) (o_som e_int) o_non) ?_) ?_))
      · rw [drop1, sizeLine_eq]
        simp
        omega
      · rw [drop1]
        rfl
    · exact ss_one (s_ret (e_v 2))
/-! ### _law_own_error(value) -/
theorem first_of (g : Nat → Option Int) : ∀ n : Nat, ((List.range n).filterMap g = [] ∧ ∀ i, i < n → g i = none) ∨ ∃ i o r, i < n ∧ g i = some o ∧ (∀ j, j < i → g j = none) ∧ (List.range n).filterMap g = o :: r
  | 0 => .inl ⟨rfl, fun i h => absurd h (Nat.not_lt_zero i)⟩
  | n + 1 => by
    rw [List.range_succ, List.filterMap_append]
    rcases first_of g n with ⟨h1, h2⟩ | ⟨i, o, r, h1, h2, h3, h4⟩
    · rw [h1]
      cases hg : g n with
      | none =>
        refine .inl ⟨by simp [hg], fun i hi => ?_⟩
        by_cases e : i = n
        · rw [e]; exact hg
        · exact h2 i (by omega)
      | some o => exact .inr ⟨n, o, [], by omega, hg, fun j hj => h2 j hj, by simp [hg]⟩
    · rw [h4]
      exact .inr ⟨i, o, _, by omega, h2, h3, by rw [List.cons_append]⟩
theorem odd_at {xs : List PyData} {i : Nat} {o : Int} (h : oddR xs i = some o) : o = (i : Nat) ∧ ∃ x, xs[i]? = some x ∧ inR x (-1000000) 1000000 = false := by
  unfold oddR at h
  cases hx : xs[i]? with
  | none => rw [hx] at h; cases h
  | some x =>
    rw [hx] at h
    by_cases q : inR x (-1000000) 1000000 = true
    · simp [q] at h
    · simp [q] at h
      exact ⟨h.symm, x, rfl, by simpa using q⟩
theorem sc38 : FnScope ["value", "i", "item"] ["value"] (defScope (top 38)) := ⟨rfl, rfl, rfl, by decide +kernel, rfl, by decide +kernel, by decide +kernel⟩
def eg (xs : List PyData) : Nat → List EV
  | 0 => [.val (.tuple xs), .und, .und]
  | j + 1 => [.val (.tuple xs), dI (j : Nat), .val (xs.getD j .none)]
theorem ok38 {f : Addr} {fd : FuncData} (B : Bt W) (F : Fun W.K "_law_own_error" "_law_own_error" (top 38) f fd) : FnG W 2 f fd ["value"] (spD R18) := by
  refine Fun.okD F sc38 (fun es S r h => ?_) (fun E es S r h => ?_)
  · obtain ⟨d, rfl, _⟩ := h
    rfl
  · obtain ⟨d, rfl, rfl, rfl⟩ := h
    refine ⟨.rt (.val (errD d)) [], .val (.val _) rfl rfl, ?_⟩
    by_cases hd : ∃ xs, d = .tuple xs
    · obtain ⟨xs, rfl⟩ := hd
      by_cases hl : 1 ≤ xs.length ∧ xs.length ≤ 16
      · have he : errD (.tuple xs) = (match odds xs with | [] => .none | o :: _ => .tuple [.str "item", .int o]) := if_pos hl
        rw [he]
        refine ss_cons (s_ifF (DT.eq (t_w (w_or (t_not (t_val (isi_tup B (e_v 0)))) fun h => w_or (t_cmp (e_lent B.len (e_v 0)) e_int c_lt) fun h => w_or1 (t_cmp (e_lent B.len (e_v 0)) e_int c_gt))) ?_) ss_nil) ?_
        · rw [decide_eq_false (by omega : ¬ (xs.length : Int) < 1), decide_eq_false (by omega : ¬ (16 : Int) < xs.length)]
          rfl
        have step : ∀ i z, xs[i]? = some z → ((eg xs i).set 1 (EV.val (.int (i : Nat)))).set 2 (.val z) = eg xs (i + 1) := fun i z hz => by
          have : xs.getD i .none = z := by rw [List.getD_eq_getElem?_getD, hz]; rfl
          show _ = [_, _, EV.val (xs.getD i .none)]
          rw [this]
          cases i <;> rfl
        have tg : ∀ {E : Value → Option Addr → SL → Hp → Prop} {p1 p2 p3 : Pos} {kk : Nat} (i : Nat) z, xs[i]? = some z → DG ⟨W, ["value", "i", "item"], defScope (top 38), 1, true, fun _ => true, true, E⟩ (.Tuple [.Name "i" p1, .Name "item" p2] kk p3) (eg xs i) [] (dT [.int (i : Nat), z]) (eg xs (i + 1)) ([1] ++ ([2] ++ [])) := fun i z hz =>
          g_t rfl (gs_cons (g_n 1 sc38.nd (ev := .val (.int (i : Nat)))) (gs_cons (g_n 2 sc38.nd (hΓ := step i z hz)) gs_nil)) (fun _ => rfl) (fun _ => rfl) rfl
        have test : ∀ (i : Nat) z, xs[i]? = some z → (eg xs (i + 1))[2]? = some (.val z) := fun i z hz => by
          have : xs.getD i .none = z := by rw [List.getD_eq_getElem?_getD, hz]; rfl
          show some (EV.val (xs.getD i .none)) = _
          rw [this]
        have hlen : (enumE xs).length = xs.length := by simp [enumE]
        rcases first_of (oddR xs) xs.length with ⟨h1, h2⟩ | ⟨m, o, r, h1, h2, h3, h4⟩
        · rw [show odds xs = [] from h1]
          refine ss_cons (s_for (eg xs) (fun _ => []) rfl (i_et B.enum (e_v 0)) rfl (fun i x hx => ?_)) (ss_one (s_ret e_non))
          obtain ⟨z, hz, rfl⟩ := enumE_get hx
          have hin : inR z (-1000000) 1000000 = true := by
            have h0 := h2 i (List.getElem?_eq_some_iff.mp hz).1
            unfold oddR at h0
            rw [hz] at h0
            by_cases q : inR z (-1000000) 1000000 = true
            · exact q
            · simp [q] at h0
          cases z with
          | int v =>
            have hb : -1000000 ≤ v ∧ v ≤ 1000000 := by
              simpa [inR] using hin
            refine ⟨_, _, tg i _ hz, ss_one (s_ifF (t_w (w_orF (DT.eq (t_val (isi_bool B (e_v 2 (hΓ := test i _ hz)))) rfl) (w_orF (DT.eq (t_not (t_val (isi_int B (e_v 2 (hΓ := test i _ hz))))) rfl) (w_or1 (DT.eq (t_cmp (e_abs B.abs (e_v 2 (hΓ := test i _ hz))) e_int c_gt) (decide_eq_false (by omega))))))) ss_nil)⟩
          | _ => simp [inR] at hin
        · rw [show odds xs = o :: r from h4]
          obtain ⟨rfl, z, hz, hin⟩ := odd_at h2
          have hzm : (enumE xs)[m]? = some (dT [.int (m : Nat), z]) := by
            unfold enumE
            rw [List.getElem?_map, List.getElem?_zipIdx, hz]
            simp
          refine ss_stop (s_forR (eg xs) (fun _ => []) (m := m) rfl (i_et B.enum (e_v 0)) rfl (fun i x hi hx => ?_) hzm ?_)
          · obtain ⟨z, hz, rfl⟩ := enumE_get hx
            have hin : inR z (-1000000) 1000000 = true := by
              have h0 := h3 i hi
              unfold oddR at h0
              rw [hz] at h0
              by_cases q : inR z (-1000000) 1000000 = true
              · exact q
              · simp [q] at h0
            cases z with
            | int v =>
              have hb : -1000000 ≤ v ∧ v ≤ 1000000 := by
                simpa [inR] using hin
              refine ⟨_, _, tg i _ hz, ss_one (s_ifF (t_w (w_orF (DT.eq (t_val (isi_bool B (e_v 2 (hΓ := test i _ hz)))) rfl) (w_orF (DT.eq (t_not (t_val (isi_int B (e_v 2 (hΓ := test i _ hz))))) rfl) (w_or1 (DT.eq (t_cmp (e_abs B.abs (e_v 2 (hΓ := test i _ hz))) e_int c_gt) (decide_eq_false (by omega))))))) ss_nil)⟩
            | _ => simp [inR] at hin
          · have ret : ∀ {E : Value → Option Addr → SL → Hp → Prop}, (eg xs (m + 1))[1]? = some (dI (m : Nat)) := fun {_} => rfl
            cases z with
            | int v =>
              have hb : ¬ (-1000000 ≤ v ∧ v ≤ 1000000) := by
                intro q
                simp [inR, q] at hin
              exact ⟨_, _, tg m _ hz, ss_stop (s_ifT (t_w (w_orF (DT.eq (t_val (isi_bool B (e_v 2 (hΓ := test m _ hz)))) rfl) (w_orF (DT.eq (t_not (t_val (isi_int B (e_v 2 (hΓ := test m _ hz))))) rfl) (w_or1 (DT.eq (t_cmp (e_abs B.abs (e_v 2 (hΓ := test m _ hz))) e_int c_gt) (decide_eq_true (by omega))))))) (ss_one (s_ret (e_tup (ds := [.str "item", .int (m : Nat)]) (a_cons e_str (a_cons (e_v 1) a_nil))))))⟩
            | bool v => exact ⟨_, _, tg m _ hz, ss_stop (s_ifT (t_w (w_orT (DT.eq (t_val (isi_bool B (e_v 2 (hΓ := test m _ hz)))) rfl))) (ss_one (s_ret (e_tup (ds := [.str "item", .int (m : Nat)]) (a_cons e_str (a_cons (e_v 1) a_nil))))))⟩
            | _ => exact ⟨_, _, tg m _ hz, ss_stop (s_ifT (t_w (w_orF (DT.eq (t_val (isi_bool B (e_v 2 (hΓ := test m _ hz)))) rfl) (w_orT (DT.eq (t_not (t_val (isi_int B (e_v 2 (hΓ := test m _ hz))))) rfl)))) (ss_one (s_ret (e_tup (ds := [.str "item", .int (m : Nat)]) (a_cons e_str (a_cons (e_v 1) a_nil))))))⟩
      · have he : errD (.tuple xs) = .str "form" := if_neg hl
        rw [he]
        refine ss_stop (s_ifT (DT.eq (t_w (w_or (t_not (t_val (isi_tup B (e_v 0)))) fun h => w_or (t_cmp (e_lent B.len (e_v 0)) e_int c_lt) fun h => w_or1 (t_cmp (e_lent B.len (e_v 0)) e_int c_gt))) ?_) (ss_one (s_ret e_str)))
        by_cases h1 : 1 ≤ xs.length
        · rw [decide_eq_false (by omega : ¬ (xs.length : Int) < 1), decide_eq_true (by omega : (16 : Int) < xs.length)]
          rfl
        · rw [decide_eq_true (by omega : (xs.length : Int) < 1)]
          rfl
    · have he : errD d = .str "form" := by
        cases d with
        | tuple xs => exact absurd ⟨xs, rfl⟩ hd
        | _ => rfl
      have ht : isT d = false := by
        cases d with
        | tuple xs => exact absurd ⟨xs, rfl⟩ hd
        | _ => rfl
      rw [he]
      exact ss_stop (s_ifT (t_w (w_orT (DT.eq (t_not (t_val (isi_tup B (e_v 0)))) (by rw [ht]; rfl)))) (ss_one (s_ret e_str)))
end K83
end
section
set_option Elab.async false
set_option linter.all false
set_option maxRecDepth 100000
set_option maxHeartbeats 1000000
set_option autoImplicit false
/-! k83, part i: drawn rows, first items. -/
namespace K83
open L2 PySem PySem.Spec PyProof.Rows DL
variable {W : WD}
/-! ### picks of ints -/
def pickI (b : Bag) (ns : List Int) : Int × Bag := (ns.getD (drawF b (ns.length : Nat)).1.toNat 0, (drawF b (ns.length : Nat)).2)
theorem pick_ints {b : Bag} {ns : List Int} (h1 : 1 ≤ ns.length) : pickF b (ns.map PyData.int) = (.int (pickI b ns).1, (pickI b ns).2) := by
  obtain ⟨r1, r2⟩ := draw_range b (below := (ns.length : Nat)) (by omega)
  unfold pickF pickI
  rw [List.length_map]
  have h : (drawF b (ns.length : Nat)).1.toNat < ns.length := by omega
  simp [h]
theorem pickI_mem {b : Bag} {ns : List Int} (h1 : 1 ≤ ns.length) : (pickI b ns).1 ∈ ns := by
  obtain ⟨r1, r2⟩ := draw_range b (below := (ns.length : Nat)) (by omega)
  have h : (drawF b (ns.length : Nat)).1.toNat < ns.length := by omega
  show ns.getD _ _ ∈ ns
  rw [List.getD_eq_getElem?_getD, List.getElem?_eq_getElem h]
  exact List.getElem_mem h
theorem pickI_ok {b : Bag} {ns : List Int} (h : Ok b) : Ok (pickI b ns).2 := draw_ok h _
/-! ### _law_own_row(bag, many, kind) -/
def r3 : List Int := [1000000, -1000000, 999999, -1, 1, 0]
def itemF (kind : Int) (b : Bag) : Int × Bag :=
  if kind = 0 then ((drawF b 7).1 - 3, (drawF b 7).2)
  else if kind = 1 then ((drawF b 501).1 - 250, (drawF b 501).2)
  else if kind = 2 then ((drawF b 2000001).1 - 1000000, (drawF b 2000001).2)
  else if kind = 3 then pickI b r3
  else if 0 < (drawF b 4).1 then (0, (drawF b 4).2) else ((drawF (drawF b 4).2 21).1 - 10, (drawF (drawF b 4).2 21).2)
def rowF (kind : Int) (b : Bag) : Nat → List Int × Bag
  | 0 => ([], b)
  | i + 1 => ((rowF kind b i).1 ++ [(itemF kind (rowF kind b i).2).1], (itemF kind (rowF kind b i).2).2)
theorem item_ok {kind : Int} {b : Bag} (h : Ok b) : Ok (itemF kind b).2 := by
  unfold itemF
  split
  · exact draw_ok h _
  split
  · exact draw_ok h _
  split
  · exact draw_ok h _
  split
  · exact pickI_ok h
  split
  · exact draw_ok h _
  · exact draw_ok (draw_ok h _) _
theorem rowF_ok {kind : Int} {b : Bag} (h : Ok b) : ∀ i, Ok (rowF kind b i).2
  | 0 => h
  | i + 1 => item_ok (rowF_ok h i)
theorem rowF_len (kind : Int) (b : Bag) : ∀ i, (rowF kind b i).1.length = i
  | 0 => rfl
  | i + 1 => by
    show ((rowF kind b i).1 ++ [_]).length = _
    rw [List.length_append, rowF_len kind b i]
    rfl
theorem item_range (kind : Int) (b : Bag) : -1000000 ≤ (itemF kind b).1 ∧ (itemF kind b).1 ≤ 1000000 := by
  unfold itemF
  split
  · have := draw_range b (below := 7) (by decide)
    show -1000000 ≤ (drawF b 7).1 - 3 ∧ (drawF b 7).1 - 3 ≤ 1000000
    omega
  split
  · have := draw_range b (below := 501) (by decide)
    show -1000000 ≤ (drawF b 501).1 - 250 ∧ (drawF b 501).1 - 250 ≤ 1000000
    omega
  split
  · have := draw_range b (below := 2000001) (by decide)
    show -1000000 ≤ (drawF b 2000001).1 - 1000000 ∧ (drawF b 2000001).1 - 1000000 ≤ 1000000
    omega
  split
  · have h := pickI_mem (b := b) (ns := r3) (by decide)
    unfold r3 at h
    simp only [List.mem_cons, List.not_mem_nil, or_false] at h
    rcases h with h | h | h | h | h | h <;> (unfold r3; rw [h]; decide)
  split
  · show (-1000000 : Int) ≤ 0 ∧ (0 : Int) ≤ 1000000
    decide
  · have := draw_range (drawF b 4).2 (below := 21) (by decide)
    show -1000000 ≤ (drawF (drawF b 4).2 21).1 - 10 ∧ (drawF (drawF b 4).2 21).1 - 10 ≤ 1000000
    omega
theorem row_range (kind : Int) (b : Bag) : ∀ i x, x ∈ (rowF kind b i).1 → -1000000 ≤ x ∧ x ≤ 1000000
  | 0, x, h => by cases h
  | i + 1, x, h => by
    rcases List.mem_append.mp h with z | z
    · exact row_range kind b i x z
    · rw [List.mem_singleton.mp z]
      exact item_range kind _
def R33 : DL.Spec := fun es S r => ∃ (b : Bag) (many : Nat) (kind : Int), es = [.own 1, dI (many : Nat), dI kind] ∧ S = bagS b ∧ Ok b ∧ many ≤ 16 ∧ r = .ok (.val (ti (rowF kind b many).1)) (bagS (rowF kind b many).2)
theorem sc33 : FnScope ["bag", "many", "kind", "found", "i"] ["bag", "many", "kind"] (defScope (top 33)) := ⟨rfl, rfl, rfl, by decide +kernel, rfl, by decide +kernel, by decide +kernel⟩
def rg33 (many : Nat) (kind : Int) (i : Nat) : List EV := [.own 1, dI (many : Nat), dI kind, .own 2, (match i with | 0 => .und | j + 1 => dI (0 + (j : Int)))]
theorem ok33 {f : Addr} {fd : FuncData} (B : Bt W) (D28 : Def W "_law_draw" ["bag", "below"] 2 R28) (D29 : Def W "_law_pick" ["bag", "some"] 4 R29) (F : Fun W.K "_law_own_row" "_law_own_row" (top 33) f fd) : FnG W 6 f fd ["bag", "many", "kind"] (spD R33) := by
  refine Fun.okD F sc33 (fun es S r h => ?_) (fun E es S r h => ?_)
  · obtain ⟨b, many, kind, rfl, _⟩ := h
    rfl
  · obtain ⟨b, many, kind, rfl, rfl, hok, hm, rfl⟩ := h
    refine ⟨.rt (.val (ti (rowF kind b many).1)) (bagS (rowF kind b many).2 ++ [.lst (vi (rowF kind b many).1)]), .val (.val _) rfl (bagS_closed _), ?_⟩
    refine ss_cons (s_set 3 sc33.nd (Γ' := rg33 many kind 0) (S1 := bagS b ++ [.lst (vi [])]) (e_lsto (xs := []) a_nil)) ?_
    have hn : (rngE 0 ((many : Nat) : Int).toNat).length = many := by simp [rngE]
    refine ss_cons (DS.eqO (s_for (rg33 many kind) (fun i => bagS (rowF kind b i).2 ++ [.lst (vi (rowF kind b i).1)]) rfl (i_r1 B.range (e_v 1) (by omega) (by omega)) rfl (fun i x hx => ?_)) (by rw [hn])) ?_
    · obtain ⟨hi, rfl⟩ := rng_get hx
      have hi2 : i < many := by simpa using hi
      have ho := rowF_ok hok (kind := kind) i
      refine ⟨_, _, g_n 4 sc33.nd (Γ' := rg33 many kind (i + 1)) (hΓ := rfl), ss_one ?_⟩
      have hl : (vi (rowF kind b i).1).length ≤ 16777214 := by
        unfold vi
        rw [List.length_map, rowF_len]
        omega
      have hs : ∀ (z : Int) (b' : Bag), itemF kind (rowF kind b i).2 = (z, b') → (bagS b' ++ [MO.lst (vi (rowF kind b i).1)]).set 2 (.lst (vi (rowF kind b i).1 ++ [dI z])) = bagS (rowF kind b (i + 1)).2 ++ [.lst (vi (rowF kind b (i + 1)).1)] := fun z b' hz => by
        show [_, _, MO.lst _] = [_, _, MO.lst _]
        show [_, _, MO.lst _] = [MO.lst (((itemF kind (rowF kind b i).2).2.rc.reverse.map PyData.int).map EV.val), .lst [.own 0, dI (itemF kind (rowF kind b i).2).2.d, dI (itemF kind (rowF kind b i).2).2.m], MO.lst (vi ((rowF kind b i).1 ++ [(itemF kind (rowF kind b i).2).1]))]
        rw [hz]
        simp [vi]
      have hΓ : (rg33 many kind (i + 1))[3]? = some (.own 2) := rfl
      by_cases h0 : kind = 0
      · refine s_ifT (DT.eq (t_cmp (e_v 2) e_int c_eq) (decide_eq_true h0)) (ss_one (s_expr (e_append (k := 2) (xs := vi (rowF kind b i).1) (v := dI ((drawF (rowF kind b i).2 7).1 - 3)) (S2 := bagS (drawF (rowF kind b i).2 7).2 ++ [.lst (vi (rowF kind b i).1)]) (e_v 3 (ev := .own 2)) rfl (e_sub (e_callBr D28 [.lst (vi (rowF kind b i).1)] (a_cons (e_v 0) (a_cons e_int a_nil)) ⟨(rowF kind b i).2, 7, rfl, rfl, ho, by decide, by decide +kernel, rfl⟩) e_int) rfl hl (hs _ _ (if_pos h0)))))
      refine s_ifF (DT.eq (t_cmp (e_v 2) e_int c_eq) (decide_eq_false h0)) (ss_one ?_)
      by_cases h1 : kind = 1
      · refine s_ifT (DT.eq (t_cmp (e_v 2) e_int c_eq) (decide_eq_true h1)) (ss_one (s_expr (e_append (k := 2) (xs := vi (rowF kind b i).1) (v := dI ((drawF (rowF kind b i).2 501).1 - 250)) (S2 := bagS (drawF (rowF kind b i).2 501).2 ++ [.lst (vi (rowF kind b i).1)]) (e_v 3 (ev := .own 2)) rfl (e_sub (e_callBr D28 [.lst (vi (rowF kind b i).1)] (a_cons (e_v 0) (a_cons e_int a_nil)) ⟨(rowF kind b i).2, 501, rfl, rfl, ho, by decide, by decide +kernel, rfl⟩) e_int) rfl hl (hs _ _ ((if_neg h0).trans (if_pos h1))))))
      refine s_ifF (DT.eq (t_cmp (e_v 2) e_int c_eq) (decide_eq_false h1)) (ss_one ?_)
      by_cases h2 : kind = 2
      · refine s_ifT (DT.eq (t_cmp (e_v 2) e_int c_eq) (decide_eq_true h2)) (ss_one (s_expr (e_append (k := 2) (xs := vi (rowF kind b i).1) (v := dI ((drawF (rowF kind b i).2 2000001).1 - 1000000)) (S2 := bagS (drawF (rowF kind b i).2 2000001).2 ++ [.lst (vi (rowF kind b i).1)]) (e_v 3 (ev := .own 2)) rfl (e_sub (e_callBr D28 [.lst (vi (rowF kind b i).1)] (a_cons (e_v 0) (a_cons e_int a_nil)) ⟨(rowF kind b i).2, 2000001, rfl, rfl, ho, by decide, by decide +kernel, rfl⟩) e_int) rfl hl (hs _ _ ((if_neg h0).trans ((if_neg h1).trans (if_pos h2)))))))
      refine s_ifF (DT.eq (t_cmp (e_v 2) e_int c_eq) (decide_eq_false h2)) (ss_one ?_)
      by_cases h3 : kind = 3
      · refine s_ifT (DT.eq (t_cmp (e_v 2) e_int c_eq) (decide_eq_true h3)) (ss_one (s_expr (e_append (k := 2) (xs := vi (rowF kind b i).1) (v := dI (pickI (rowF kind b i).2 r3).1) (S2 := bagS (pickI (rowF kind b i).2 r3).2 ++ [.lst (vi (rowF kind b i).1)]) (e_v 3 (ev := .own 2)) rfl (e_callBr D29 [.lst (vi (rowF kind b i).1)] (a_cons (e_v 0) (a_cons (e_lst (ds := r3.map .int) (a_cons e_int (a_cons (e_neg e_int) (a_cons e_int (a_cons (e_neg e_int) (a_cons e_int (a_cons e_int a_nil))))))) a_nil)) ⟨(rowF kind b i).2, r3.map .int, rfl, rfl, ho, by decide, by decide, by rw [pick_ints (by decide)]⟩) rfl hl (hs _ _ ((if_neg h0).trans ((if_neg h1).trans ((if_neg h2).trans (if_pos h3))))))))
      refine s_ifF (DT.eq (t_cmp (e_v 2) e_int c_eq) (decide_eq_false h3)) (ss_one ?_)
      by_cases h4 : 0 < (drawF (rowF kind b i).2 4).1
      · refine s_expr (e_append (k := 2) (xs := vi (rowF kind b i).1) (v := dI 0) (S2 := bagS (drawF (rowF kind b i).2 4).2 ++ [.lst (vi (rowF kind b i).1)]) (e_v 3 (ev := .own 2)) rfl (e_ifT (DT.eq (t_cmp (e_callBr D28 [.lst (vi (rowF kind b i).1)] (a_cons (e_v 0) (a_cons e_int a_nil)) ⟨(rowF kind b i).2, 4, rfl, rfl, ho, by decide, by decide +kernel, rfl⟩) e_int c_gt) (decide_eq_true h4)) e_int) rfl hl (hs _ _ ((if_neg h0).trans ((if_neg h1).trans ((if_neg h2).trans ((if_neg h3).trans (if_pos h4)))))))
      · refine s_expr (e_append (k := 2) (xs := vi (rowF kind b i).1) (v := dI ((drawF (drawF (rowF kind b i).2 4).2 21).1 - 10)) (S2 := bagS (drawF (drawF (rowF kind b i).2 4).2 21).2 ++ [.lst (vi (rowF kind b i).1)]) (e_v 3 (ev := .own 2)) rfl (e_ifF (DT.eq (t_cmp (e_callBr D28 [.lst (vi (rowF kind b i).1)] (a_cons (e_v 0) (a_cons e_int a_nil)) ⟨(rowF kind b i).2, 4, rfl, rfl, ho, by decide, by decide +kernel, rfl⟩) e_int c_gt) (decide_eq_false h4)) (e_sub (e_callBr D28 [.lst (vi (rowF kind b i).1)] (a_cons (e_v 0) (a_cons e_int a_nil)) ⟨(drawF (rowF kind b i).2 4).2, 21, rfl, rfl, draw_ok ho _, by decide, by decide +kernel, rfl⟩) e_int)) rfl hl (hs _ _ ((if_neg h0).trans ((if_neg h1).trans ((if_neg h2).trans ((if_neg h3).trans (if_neg h4)))))))
    · refine ss_one (s_ret (e_tupo B.tuple (j := 2) (ds := (rowF kind b many).1.map .int) (e_v 3 (ev := .own 2)) ?_))
      rw [← map2]
      rfl
/-! ### _law_first(bag, row, some) -/
def firstF (b : Bag) (r ns : List Int) : List Int × Bag := ((pickI b ns).1 :: r.drop 1, (pickI b ns).2)
def R40 : DL.Spec := fun es S r => ∃ (b : Bag) (a ns : List Int), es = [.own 1, .val (ti a), dL (ns.map .int)] ∧ S = bagS b ∧ Ok b ∧ a.length ≤ 16 ∧ 1 ≤ ns.length ∧ ns.length ≤ 1000 ∧ r = .ok (.val (ti (firstF b a ns).1)) (bagS (firstF b a ns).2)
theorem sc40 : FnScope ["bag", "row", "some"] ["bag", "row", "some"] (defScope (top 40)) := ⟨rfl, rfl, rfl, by decide +kernel, rfl, by decide +kernel, by decide +kernel⟩
theorem ok40 {f : Addr} {fd : FuncData} (B : Bt W) (D29 : Def W "_law_pick" ["bag", "some"] 4 R29) (F : Fun W.K "_law_first" "_law_first" (top 40) f fd) : FnG W 6 f fd ["bag", "row", "some"] (spD R40) := by
  refine Fun.okD F sc40 (fun es S r h => ?_) (fun E es S r h => ?_)
  · obtain ⟨b, a, ns, rfl, _⟩ := h
    rfl
  · obtain ⟨b, a, ns, rfl, rfl, hok, hl, h1, h2, rfl⟩ := h
    refine ⟨.rt (.val (ti (firstF b a ns).1)) (bagS (firstF b a ns).2 ++ []), .val (.val _) rfl (bagS_closed _), ?_⟩
    refine ss_one (s_ret (DE.eq (e_addt (ds := [.int (pickI b ns).1]) (es := DL.cutD (a.map .int) (some 1) none) (e_tup (a_cons (e_callB D29 (a_cons (e_v 0) (a_cons (e_v 2) a_nil)) ⟨b, ns.map .int, rfl, rfl, hok, by simpa using h1, by simpa using h2, by rw [pick_ints h1]; rfl⟩) a_nil)) (e_slt (e_v 1) (o_som e_int) o_non) ?_) ?_))
    · rw [drop1, sizeLine_eq]
      simp
      omega
    · rw [drop1]
      rfl
end K83
end
section
set_option Elab.async false
set_option linter.all false
set_option maxRecDepth 100000
set_option maxHeartbeats 1000000
set_option autoImplicit false
/-! k83, part j: values that are no series. -/
namespace K83
open L2 PySem PySem.Spec PyProof.Rows DL
variable {W : WD}
@[irreducible] def bigM : Int := bigN
theorem bigM_eq : bigM = bigN := by unfold bigM; rfl
theorem bigN_eq : ((10 : Int) ^ (57 : Int).toNat) ^ (7 : Int).toNat = bigM := by rw [bigM_eq]; rfl
theorem bigM_log : bigM.natAbs.log2 < 1920 := by rw [bigM_eq]; decide +kernel
def oddL : List PyData := [.bool true, .bool false, .none, .str "1", .tuple [.int 1], .list [.int 1], .int 1000001, .int (-1000001), .int bigM, .int (-1000002)]
/-- row[:at] + (x,) + row[at + 1:] -/
def rep1 (r : List Int) (at_ : Nat) (x : PyData) : List PyData := (r.map PyData.int).take at_ ++ [x] ++ (r.map PyData.int).drop (at_ + 1)
def atF (b : Bag) (r : List Int) : Nat × Bag := ((drawF b (r.length : Nat)).1.toNat, (drawF b (r.length : Nat)).2)
/-- the bags between the draws -/
def b1 (b : Bag) (r : List Int) : Bag := (atF b r).2
def b2 (b : Bag) (r : List Int) : Bag := (atF (b1 b r) r).2
def b3 (b : Bag) (r : List Int) : Bag := (pickF (b2 b r) oddL).2
def b4 (b : Bag) (r : List Int) : Bag := (pickF (b3 b r) oddL).2
def tf : List PyData := [.bool true, .bool false]
def mm : List PyData := [.int 1000000, .int (-1000000)]
def b5 (b : Bag) (r : List Int) : Bag := (pickF (b4 b r) tf).2
def b6 (b : Bag) (r : List Int) : Bag := (pickF (b5 b r) mm).2
def b7 (b : Bag) (r : List Int) : Bag := (pickF (b6 b r) oddL).2
def b8 (b : Bag) (r : List Int) : Bag := (pickF (b7 b r) oddL).2
def a0 (b : Bag) (r : List Int) : Nat := (atF b r).1
def l0 (b : Bag) (r : List Int) : Nat := (atF (b1 b r) r).1
def wholeF (r : List Int) : List PyData := r.map PyData.int ++ List.replicate (16 - r.length) (.int 0)
def bent1 (b : Bag) (r : List Int) : List PyData :=
  [ti r, .tuple (rep1 r (a0 b r) (pickF (b2 b r) oddL).1), .tuple ((r.map PyData.int).take (r.length - 1) ++ [(pickF (b3 b r) oddL).1])]
def bent2 (b : Bag) (r : List Int) : List PyData :=
  [.tuple (rep1 r (a0 b r) (.int 1000001)), .tuple (rep1 r (a0 b r) (.int (-1000001))), .tuple (rep1 r (a0 b r) (pickF (b4 b r) tf).1), .tuple (rep1 r (a0 b r) (pickF (b5 b r) mm).1),
    .tuple (((r.map PyData.int).set (l0 b r) (pickF (b6 b r) oddL).1).set (a0 b r) (pickF (b7 b r) oddL).1)]
def bent3 (r : List Int) : List PyData :=
  [.tuple (wholeF r), .tuple (wholeF r ++ [.int 0]), .tuple ([.int 1000001] ++ wholeF r), .tuple ((wholeF r).take 15 ++ [.bool true]), .tuple ((wholeF r).take 15 ++ [.int 1000001])]
def bent4 (r : List Int) : List PyData :=
  [.tuple [], .list (r.map .int), .list [ti r], .tuple [ti r], .dict [(.int 0, .int (r.getD 0 0))], .none, .bool true, .int 1, .int 0, .str "", .str "row", .str (ti r).shown]
def bent5 : List PyData := [.tuple (List.replicate 300 (.int 0)), .tuple [.tuple []]]
def bentF (b : Bag) (r : List Int) : List PyData := bent1 b r ++ bent2 b r ++ bent3 r ++ bent4 r ++ bent5
def R39 : DL.Spec := fun es S res => ∃ (b : Bag) (r : List Int), es = [.own 1, .val (ti r)] ∧ S = bagS b ∧ Ok b ∧ 1 ≤ r.length ∧ r.length ≤ 16 ∧ Shows (ti r) ∧ res = .ok (dL (bentF b r)) (bagS (b8 b r))
theorem sc39 : FnScope ["bag", "row", "many", "odd", "at", "late", "found", "some", "whole"] ["bag", "row"] (defScope (top 39)) := ⟨rfl, rfl, rfl, by decide +kernel, rfl, by decide +kernel, by decide +kernel⟩
theorem take_cut (l : List PyData) (n : Nat) (h : n ≤ l.length) {z : Int} (hz : z = (n : Nat)) : DL.cutD l none (some z) = l.take n := by
  subst hz
  unfold DL.cutD
  rw [HT.sIx_none, HT.sIx_nat, List.drop_zero, Nat.sub_zero, Nat.min_eq_left h]
theorem drop_cut (l : List PyData) (n : Nat) (h : n ≤ l.length) {z : Int} (hz : z = (n : Nat)) : DL.cutD l (some z) none = l.drop n := by
  subst hz
  unfold DL.cutD
  rw [HT.sIx_none, HT.sIx_nat, Nat.min_eq_left h, List.take_of_length_le (by rw [List.length_drop]; exact Nat.le_refl _)]
section
variable {c : Kx} {Γ : List EV} {S S1 S2 S3 S4 : List MO} {a x d e : Expr} {p p2 p3 p4 p5 pos : Pos} {kk : Nat}
/-- a[:i] + (x,) + a[i + 1:] -/
theorem e_rep {a' : Expr} {r : List Int} {i : Nat} {y : PyData} {y1 y2 : Expr} (hi : i < r.length) (hl : r.length ≤ 16) (h1 : DE c a Γ S (.val (ti r)) S) (h2 : DE c y1 Γ S (dI (i : Nat)) S) (h3 : DE c x Γ S (.val y) S1) (h4 : DE c a' Γ S1 (.val (ti r)) S1) (h5 : DE c y2 Γ S1 (dI ((i : Nat) + 1)) S1) {q1 q2 q3 q4 q5 q6 q7 : Pos}
    (hs : ∀ env : Env, starEach [x] env = (false, eval x env) :: starEach [] env := by intro _; rfl) : DE c (.BinOp (.BinOp (.Subscript a (.Slice none (some y1) none q1) q2) .Add (.Tuple [x] kk q3) q4) .Add (.Subscript a' (.Slice (some y2) none none q5) q6) q7) Γ S (.val (.tuple (rep1 r i y))) S1 := by
  have l1 : (r.map PyData.int).length = r.length := List.length_map _
  refine DE.eq (e_addt (e_addt (e_slt h1 o_non (o_som h2)) (e_tup (ds := [y]) (a_cons h3 a_nil hs)) ?_) (e_slt h4 (o_som h5) o_non) ?_) ?_
  · rw [take_cut _ i (by omega) rfl, sizeLine_eq]
    simp
    omega
  · rw [take_cut _ i (by omega) rfl, drop_cut _ (i + 1) (by omega) (by omega), sizeLine_eq]
    simp
    omega
  · rw [take_cut _ i (by omega) rfl, drop_cut _ (i + 1) (by omega) (by omega)]
    rfl
end
def bgm (r : List Int) (g4 g5 g6 g7 g8 : EV) : List EV := [.own 1, .val (ti r), dI (r.length : Nat), dL oddL, g4, g5, g6, g7, g8]
theorem at_lt (b : Bag) {r : List Int} (h : 1 ≤ r.length) : (atF b r).1 < r.length ∧ (drawF b (r.length : Nat)).1 = ((atF b r).1 : Nat) := by
  obtain ⟨r1, r2⟩ := draw_range b (below := (r.length : Nat)) (by omega)
  unfold atF
  omega
theorem third (b : Bag) (x : MO) (t : List MO) : (bagS b ++ (x :: t))[2]? = some x := rfl
theorem len2 (b : Bag) : (bagS b).length = 2 := rfl
theorem appB (b : Bag) (l : List PyData) (x : PyData) (t : List MO) : (bagS b ++ (MO.lst (l.map EV.val) :: t)).set 2 (.lst (l.map EV.val ++ [.val x])) = bagS b ++ (.lst ((l ++ [x]).map EV.val) :: t) := by
  rw [List.map_append]
  rfl
theorem extB (b : Bag) (l m : List PyData) (t : List MO) : (bagS b ++ (MO.lst (l.map EV.val) :: t)).set 2 (.lst (l.map EV.val ++ m.map EV.val)) = bagS b ++ (.lst ((l ++ m).map EV.val) :: t) := by
  rw [List.map_append]
  rfl
theorem setB (b : Bag) (l m : List PyData) (j : Nat) (x : PyData) : (bagS b ++ [MO.lst (l.map EV.val), MO.lst (m.map EV.val)]).set 3 (.lst ((m.map EV.val).set j (.val x))) = bagS b ++ [.lst (l.map EV.val), .lst ((m.set j x).map EV.val)] := by
  rw [List.map_set]
  rfl
theorem ixn_lt {n i : Nat} (h : i < n) : ixN n (i : Nat) = some i := by
  unfold ixN
  rw [if_pos (by omega), if_pos (by omega)]
  simp
theorem cut15 {c : Kx} {Γ : List EV} {S S1 : List MO} {a d : Expr} {j : Nat} {q1 q2 q3 q4 : Pos} {w es : List PyData} (hw : w.length = 16) (h : DE c a Γ S (dT w) S) (h2 : DE c d Γ S (dT es) S1) (he : es.length ≤ 10 := by decide) : DE c (.BinOp (.Subscript a (.Slice none (some (.Constant (.int 15) j q1)) none q2) q3) .Add d q4) Γ S (.val (.tuple (w.take 15 ++ es))) S1 := by
  have e15 : DL.cutD w none (some 15) = w.take 15 := take_cut w 15 (by omega) rfl
  refine DE.eq (e_addt (e_slt h o_non (o_som e_int)) h2 ?_) ?_
  · rw [e15, sizeLine_eq]
    simp
    omega
  · rw [e15]
theorem endsB (b b' : Bag) (ds : List PyData) (T : List MO) : Ends_ (bagS b).length (.rt (.own 2) (bagS b' ++ (MO.lst (ds.map EV.val) :: T))) (.ok (dL ds) (bagS b')) := .val (Frz.lst (Nat.le_refl _) rfl) rfl (bagS_closed _)
theorem ok39 {f : Addr} {fd : FuncData} (B : Bt W) (D28 : Def W "_law_draw" ["bag", "below"] 2 R28) (D29 : Def W "_law_pick" ["bag", "some"] 4 R29) (F : Fun W.K "_law_bent" "_law_bent" (top 39) f fd) : FnG W 6 f fd ["bag", "row"] (spD R39) := by
  refine Fun.okD F sc39 (fun es S r h => ?_) (fun E es S r h => ?_)
  · obtain ⟨b, a, rfl, _⟩ := h
    rfl
  · obtain ⟨b, r, rfl, rfl, hok, h1, h2, hsh, rfl⟩ := h
    obtain ⟨ha, ea⟩ := at_lt b h1
    obtain ⟨hl, el⟩ := at_lt (b1 b r) h1
    have o1 : Ok (b1 b r) := draw_ok hok _
    have o2 : Ok (b2 b r) := draw_ok o1 _
    have o3 : Ok (b3 b r) := pick_ok o2
    have o4 : Ok (b4 b r) := pick_ok o3
    have o5 : Ok (b5 b r) := pick_ok o4
    have o6 : Ok (b6 b r) := pick_ok o5
    have o7 : Ok (b7 b r) := pick_ok o6
    have lm : (r.map PyData.int).length = r.length := List.length_map _
    refine ⟨.rt (.own 2) (bagS (b8 b r) ++ [.lst ((bentF b r).map EV.val), .lst ((((r.map PyData.int).set (l0 b r) (pickF (b6 b r) oddL).1).set (a0 b r) (pickF (b7 b r) oddL).1).map EV.val)]), endsB _ _ _ _, ?_⟩
    refine ss_cons (s_par 2 3 (Γ' := bgm r .und .und .und .und .und) rfl sc39.nd (DE.eq (e_lent B.len (e_v 1)) (by rw [lm])) (e_lst (ds := oddL) (a_cons e_bl (a_cons e_bl (a_cons e_non (a_cons e_str (a_cons (e_tup (ds := [.int 1]) (a_cons e_int a_nil)) (a_cons (e_lst (ds := [.int 1]) (a_cons e_int a_nil)) (a_cons e_int (a_cons (e_neg e_int) (a_cons (DE.eq (e_powG (i := (10 : Int) ^ (57 : Int).toNat) (j := 7) (e_pow (i := 10) (j := 57) e_int e_int ⟨by decide, by decide, by decide⟩) e_int ⟨by decide, 200, by decide +kernel, by decide⟩) (congrArg (fun z => dI z) bigN_eq)) (a_cons (e_neg e_int) a_nil))))))))))) (S2 := bagS b)) ?_
    refine ss_cons (s_par 4 5 (Γ' := bgm r (dI (a0 b r : Nat)) (dI (l0 b r : Nat)) .und .und .und) rfl sc39.nd (S1 := bagS (b1 b r)) (S2 := bagS (b2 b r)) (DE.eq (e_callB D28 (a_cons (e_v 0) (a_cons (e_v 2) a_nil)) ⟨b, (r.length : Nat), rfl, rfl, hok, by omega, small_log (by omega), rfl⟩) (congrArg (fun z => dI z) ea)) (DE.eq (e_callB D28 (a_cons (e_v 0) (a_cons (e_v 2) a_nil)) ⟨b1 b r, (r.length : Nat), rfl, rfl, o1, by omega, small_log (by omega), rfl⟩) (congrArg (fun z => dI z) el))) ?_
    refine ss_cons (s_set 6 sc39.nd (Γ' := bgm r (dI (a0 b r : Nat)) (dI (l0 b r : Nat)) (.own 2) .und .und) (S1 := bagS (b4 b r) ++ [.lst ((bent1 b r).map EV.val)]) (e_lsto (S1 := bagS (b4 b r)) (xs := (bent1 b r).map EV.val) (a_cons (e_v 1) (a_cons (S1 := bagS (b3 b r)) (e_rep (i := a0 b r) ha h2 (e_v 1) (e_v 4) (e_callB D29 (a_cons (e_v 0) (a_cons (e_v 3) a_nil)) ⟨b2 b r, oddL, rfl, rfl, o2, by decide, by decide, rfl⟩) (e_v 1) (e_add (e_v 4) e_int)) (a_cons (S1 := bagS (b4 b r)) ?_ a_nil))))) ?_
    · refine DE.eq (e_addt (e_slt (e_v 1) o_non (o_som (e_sub (e_v 2) e_int))) (e_tup (ds := [(pickF (b3 b r) oddL).1]) (a_cons (e_callB D29 (a_cons (e_v 0) (a_cons (e_v 3) a_nil)) ⟨b3 b r, oddL, rfl, rfl, o3, by decide, by decide, rfl⟩) a_nil)) ?_) ?_
      · rw [take_cut _ (r.length - 1) (by omega) (by omega), sizeLine_eq]
        simp
        omega
      · rw [take_cut _ (r.length - 1) (by omega) (by omega)]
    refine ss_cons (s_expr (e_append (k := 2) (v := .val (PyData.tuple (rep1 r (a0 b r) (.int 1000001)))) (xs := (bent1 b r).map EV.val) (S2 := bagS (b4 b r) ++ [.lst ((bent1 b r).map EV.val)]) (e_v 6) rfl (e_rep (i := a0 b r) ha h2 (e_v 1) (e_v 4) (e_int) (e_v 1) (e_add (e_v 4) e_int)) rfl (by simp [bent1]) (appB _ _ _ []))) ?_
    refine ss_cons (s_expr (e_append (k := 2) (v := .val (PyData.tuple (rep1 r (a0 b r) (.int (-1000001))))) (xs := (bent1 b r ++ [PyData.tuple (rep1 r (a0 b r) (.int 1000001))]).map EV.val) (S2 := bagS (b4 b r) ++ [.lst ((bent1 b r ++ [PyData.tuple (rep1 r (a0 b r) (.int 1000001))]).map EV.val)]) (e_v 6) rfl (e_rep (i := a0 b r) ha h2 (e_v 1) (e_v 4) (e_neg e_int) (e_v 1) (e_add (e_v 4) e_int)) rfl (by simp [bent1]) (appB _ _ _ []))) ?_
    refine ss_cons (s_expr (e_append (k := 2) (v := .val (PyData.tuple (rep1 r (a0 b r) (pickF (b4 b r) tf).1))) (xs := (bent1 b r ++ [PyData.tuple (rep1 r (a0 b r) (.int 1000001))] ++ [PyData.tuple (rep1 r (a0 b r) (.int (-1000001)))]).map EV.val) (S2 := bagS (b5 b r) ++ [.lst ((bent1 b r ++ [PyData.tuple (rep1 r (a0 b r) (.int 1000001))] ++ [PyData.tuple (rep1 r (a0 b r) (.int (-1000001)))]).map EV.val)]) (e_v 6) rfl (e_rep (i := a0 b r) ha h2 (e_v 1) (e_v 4) (e_callBr D29 [.lst ((bent1 b r ++ [PyData.tuple (rep1 r (a0 b r) (.int 1000001))] ++ [PyData.tuple (rep1 r (a0 b r) (.int (-1000001)))]).map EV.val)] (a_cons (e_v 0) (a_cons (e_lst (ds := tf) (a_cons e_bl (a_cons e_bl a_nil))) a_nil)) ⟨b4 b r, tf, rfl, rfl, o4, by decide, by decide, rfl⟩) (e_v 1) (e_add (e_v 4) e_int)) rfl (by simp [bent1]) (appB _ _ _ []))) ?_
    refine ss_cons (s_expr (e_append (k := 2) (v := .val (PyData.tuple (rep1 r (a0 b r) (pickF (b5 b r) mm).1))) (xs := (bent1 b r ++ [PyData.tuple (rep1 r (a0 b r) (.int 1000001))] ++ [PyData.tuple (rep1 r (a0 b r) (.int (-1000001)))] ++ [PyData.tuple (rep1 r (a0 b r) (pickF (b4 b r) tf).1)]).map EV.val) (S2 := bagS (b6 b r) ++ [.lst ((bent1 b r ++ [PyData.tuple (rep1 r (a0 b r) (.int 1000001))] ++ [PyData.tuple (rep1 r (a0 b r) (.int (-1000001)))] ++ [PyData.tuple (rep1 r (a0 b r) (pickF (b4 b r) tf).1)]).map EV.val)]) (e_v 6) rfl (e_rep (i := a0 b r) ha h2 (e_v 1) (e_v 4) (e_callBr D29 [.lst ((bent1 b r ++ [PyData.tuple (rep1 r (a0 b r) (.int 1000001))] ++ [PyData.tuple (rep1 r (a0 b r) (.int (-1000001)))] ++ [PyData.tuple (rep1 r (a0 b r) (pickF (b4 b r) tf).1)]).map EV.val)] (a_cons (e_v 0) (a_cons (e_lst (ds := mm) (a_cons e_int (a_cons (e_neg e_int) a_nil))) a_nil)) ⟨b5 b r, mm, rfl, rfl, o5, by decide, by decide, rfl⟩) (e_v 1) (e_add (e_v 4) e_int)) rfl (by simp [bent1]) (appB _ _ _ []))) ?_
    refine ss_cons (s_set 7 sc39.nd (Γ' := bgm r (dI (a0 b r : Nat)) (dI (l0 b r : Nat)) (.own 2) (.own 3) .und) (S1 := bagS (b6 b r) ++ [.lst ((bent1 b r ++ [PyData.tuple (rep1 r (a0 b r) (.int 1000001))] ++ [PyData.tuple (rep1 r (a0 b r) (.int (-1000001)))] ++ [PyData.tuple (rep1 r (a0 b r) (pickF (b4 b r) tf).1)] ++ [PyData.tuple (rep1 r (a0 b r) (pickF (b5 b r) mm).1)]).map EV.val), .lst ((r.map PyData.int).map EV.val)]) (e_lstto (S1 := bagS (b6 b r) ++ [.lst ((bent1 b r ++ [PyData.tuple (rep1 r (a0 b r) (.int 1000001))] ++ [PyData.tuple (rep1 r (a0 b r) (.int (-1000001)))] ++ [PyData.tuple (rep1 r (a0 b r) (pickF (b4 b r) tf).1)] ++ [PyData.tuple (rep1 r (a0 b r) (pickF (b5 b r) mm).1)]).map EV.val)]) B.list (e_v 1))) ?_
    refine ss_cons (s_subo (k := 3) (j := l0 b r) (v := .val (pickF (b6 b r) oddL).1) (xs := (r.map PyData.int).map EV.val) (S3 := bagS (b7 b r) ++ [.lst ((bent1 b r ++ [PyData.tuple (rep1 r (a0 b r) (.int 1000001))] ++ [PyData.tuple (rep1 r (a0 b r) (.int (-1000001)))] ++ [PyData.tuple (rep1 r (a0 b r) (pickF (b4 b r) tf).1)] ++ [PyData.tuple (rep1 r (a0 b r) (pickF (b5 b r) mm).1)]).map EV.val), .lst ((r.map PyData.int).map EV.val)]) (e_callBr D29 [.lst ((bent1 b r ++ [PyData.tuple (rep1 r (a0 b r) (.int 1000001))] ++ [PyData.tuple (rep1 r (a0 b r) (.int (-1000001)))] ++ [PyData.tuple (rep1 r (a0 b r) (pickF (b4 b r) tf).1)] ++ [PyData.tuple (rep1 r (a0 b r) (pickF (b5 b r) mm).1)]).map EV.val), .lst ((r.map PyData.int).map EV.val)] (a_cons (e_v 0) (a_cons (e_v 3) a_nil)) ⟨b6 b r, oddL, rfl, rfl, o6, by decide, by decide, rfl⟩) (e_v 7) (e_v 5) rfl (ixn_lt (by rw [List.length_map, List.length_map]; exact hl)) (setB _ _ _ _ _)) ?_
    refine ss_cons (s_subo (k := 3) (j := a0 b r) (v := .val (pickF (b7 b r) oddL).1) (xs := ((r.map PyData.int).set (l0 b r) (pickF (b6 b r) oddL).1).map EV.val) (S3 := bagS (b8 b r) ++ [.lst ((bent1 b r ++ [PyData.tuple (rep1 r (a0 b r) (.int 1000001))] ++ [PyData.tuple (rep1 r (a0 b r) (.int (-1000001)))] ++ [PyData.tuple (rep1 r (a0 b r) (pickF (b4 b r) tf).1)] ++ [PyData.tuple (rep1 r (a0 b r) (pickF (b5 b r) mm).1)]).map EV.val), .lst (((r.map PyData.int).set (l0 b r) (pickF (b6 b r) oddL).1).map EV.val)]) (e_callBr D29 [.lst ((bent1 b r ++ [PyData.tuple (rep1 r (a0 b r) (.int 1000001))] ++ [PyData.tuple (rep1 r (a0 b r) (.int (-1000001)))] ++ [PyData.tuple (rep1 r (a0 b r) (pickF (b4 b r) tf).1)] ++ [PyData.tuple (rep1 r (a0 b r) (pickF (b5 b r) mm).1)]).map EV.val), .lst (((r.map PyData.int).set (l0 b r) (pickF (b6 b r) oddL).1).map EV.val)] (a_cons (e_v 0) (a_cons (e_v 3) a_nil)) ⟨b7 b r, oddL, rfl, rfl, o7, by decide, by decide, rfl⟩) (e_v 7) (e_v 4) rfl (ixn_lt (by rw [List.length_map, List.length_set, List.length_map]; exact ha)) (setB _ _ _ _ _)) ?_
    refine ss_cons (s_expr (e_append (k := 2) (v := .val (PyData.tuple (((r.map PyData.int).set (l0 b r) (pickF (b6 b r) oddL).1).set (a0 b r) (pickF (b7 b r) oddL).1))) (xs := (bent1 b r ++ [PyData.tuple (rep1 r (a0 b r) (.int 1000001))] ++ [PyData.tuple (rep1 r (a0 b r) (.int (-1000001)))] ++ [PyData.tuple (rep1 r (a0 b r) (pickF (b4 b r) tf).1)] ++ [PyData.tuple (rep1 r (a0 b r) (pickF (b5 b r) mm).1)]).map EV.val) (S2 := bagS (b8 b r) ++ [.lst ((bent1 b r ++ [PyData.tuple (rep1 r (a0 b r) (.int 1000001))] ++ [PyData.tuple (rep1 r (a0 b r) (.int (-1000001)))] ++ [PyData.tuple (rep1 r (a0 b r) (pickF (b4 b r) tf).1)] ++ [PyData.tuple (rep1 r (a0 b r) (pickF (b5 b r) mm).1)]).map EV.val), .lst ((((r.map PyData.int).set (l0 b r) (pickF (b6 b r) oddL).1).set (a0 b r) (pickF (b7 b r) oddL).1).map EV.val)]) (e_v 6) rfl (e_tupo B.tuple (j := 3) (ds := (((r.map PyData.int).set (l0 b r) (pickF (b6 b r) oddL).1).set (a0 b r) (pickF (b7 b r) oddL).1)) (e_v 7) rfl) rfl (by simp [bent1]) (appB _ _ _ _))) ?_
    refine ss_cons (s_set 8 sc39.nd (Γ' := bgm r (dI (a0 b r : Nat)) (dI (l0 b r : Nat)) (.own 2) (.own 3) (.val (PyData.tuple (wholeF r)))) (e_addt (ds := r.map .int) (es := List.replicate (16 - r.length) (.int 0)) (e_v 1) (DE.eq (e_rep0 (16 - r.length) (e_tup (a_cons e_int a_nil)) (e_sub e_int (e_v 2)) (by omega) (by omega)) (by show dT _ = dT _; rw [List.map_replicate])) (by rw [sizeLine_eq]; simp; omega))) ?_
    have lw : (wholeF r).length = 16 := by simp [wholeF]; omega
    refine ss_cons (s_expr (e_extend (k := 2) (ds := bent3 r) (xs := (bent1 b r ++ [PyData.tuple (rep1 r (a0 b r) (.int 1000001))] ++ [PyData.tuple (rep1 r (a0 b r) (.int (-1000001)))] ++ [PyData.tuple (rep1 r (a0 b r) (pickF (b4 b r) tf).1)] ++ [PyData.tuple (rep1 r (a0 b r) (pickF (b5 b r) mm).1)] ++ [PyData.tuple (((r.map PyData.int).set (l0 b r) (pickF (b6 b r) oddL).1).set (a0 b r) (pickF (b7 b r) oddL).1)]).map EV.val) (S2 := bagS (b8 b r) ++ [.lst ((bent1 b r ++ [PyData.tuple (rep1 r (a0 b r) (.int 1000001))] ++ [PyData.tuple (rep1 r (a0 b r) (.int (-1000001)))] ++ [PyData.tuple (rep1 r (a0 b r) (pickF (b4 b r) tf).1)] ++ [PyData.tuple (rep1 r (a0 b r) (pickF (b5 b r) mm).1)] ++ [PyData.tuple (((r.map PyData.int).set (l0 b r) (pickF (b6 b r) oddL).1).set (a0 b r) (pickF (b7 b r) oddL).1)]).map EV.val), .lst ((((r.map PyData.int).set (l0 b r) (pickF (b6 b r) oddL).1).set (a0 b r) (pickF (b7 b r) oddL).1).map EV.val)]) (e_v 6) rfl (e_lst (ds := bent3 r) (a_cons (e_v 8) (a_cons (e_addt (ds := wholeF r) (es := [.int 0]) (e_v 8) (e_tup (ds := [.int 0]) (a_cons e_int a_nil)) (by rw [sizeLine_eq, lw]; decide)) (a_cons (e_addt (ds := [.int 1000001]) (es := wholeF r) (e_tup (ds := [.int 1000001]) (a_cons e_int a_nil)) (e_v 8) (by rw [sizeLine_eq, lw]; decide)) (a_cons (cut15 lw (e_v 8) (e_tup (ds := [.bool true]) (a_cons e_bl a_nil))) (a_cons (cut15 lw (e_v 8) (e_tup (ds := [.int 1000001]) (a_cons e_int a_nil))) a_nil)))))) rfl (by simp [bent1, bent3]) (extB _ _ _ _))) ?_
    refine ss_cons (s_expr (e_extend (k := 2) (ds := bent4 r) (xs := (bent1 b r ++ [PyData.tuple (rep1 r (a0 b r) (.int 1000001))] ++ [PyData.tuple (rep1 r (a0 b r) (.int (-1000001)))] ++ [PyData.tuple (rep1 r (a0 b r) (pickF (b4 b r) tf).1)] ++ [PyData.tuple (rep1 r (a0 b r) (pickF (b5 b r) mm).1)] ++ [PyData.tuple (((r.map PyData.int).set (l0 b r) (pickF (b6 b r) oddL).1).set (a0 b r) (pickF (b7 b r) oddL).1)] ++ bent3 r).map EV.val) (S2 := bagS (b8 b r) ++ [.lst ((bent1 b r ++ [PyData.tuple (rep1 r (a0 b r) (.int 1000001))] ++ [PyData.tuple (rep1 r (a0 b r) (.int (-1000001)))] ++ [PyData.tuple (rep1 r (a0 b r) (pickF (b4 b r) tf).1)] ++ [PyData.tuple (rep1 r (a0 b r) (pickF (b5 b r) mm).1)] ++ [PyData.tuple (((r.map PyData.int).set (l0 b r) (pickF (b6 b r) oddL).1).set (a0 b r) (pickF (b7 b r) oddL).1)] ++ bent3 r).map EV.val), .lst ((((r.map PyData.int).set (l0 b r) (pickF (b6 b r) oddL).1).set (a0 b r) (pickF (b7 b r) oddL).1).map EV.val)]) (e_v 6) rfl (e_lst (ds := bent4 r) (a_cons (e_tup (ds := []) a_nil) (a_cons (e_lstt B.list (e_v 1)) (a_cons (e_lst (ds := [ti r]) (a_cons (e_v 1) a_nil)) (a_cons (e_tup (ds := [ti r]) (a_cons (e_v 1) a_nil)) (a_cons (e_dict1 e_int (e_ixt (e_v 1) e_int (at_row (i := 0) (by omega) rfl))) (a_cons e_non (a_cons e_bl (a_cons e_int (a_cons e_int (a_cons e_str (a_cons e_str (a_cons (e_repr B.repr (e_v 1) hsh) a_nil))))))))))))) rfl (by simp [bent1, bent3, bent4]) (extB _ _ _ _))) ?_
    refine ss_cons (s_expr (e_extend (k := 2) (ds := bent5) (xs := (bent1 b r ++ [PyData.tuple (rep1 r (a0 b r) (.int 1000001))] ++ [PyData.tuple (rep1 r (a0 b r) (.int (-1000001)))] ++ [PyData.tuple (rep1 r (a0 b r) (pickF (b4 b r) tf).1)] ++ [PyData.tuple (rep1 r (a0 b r) (pickF (b5 b r) mm).1)] ++ [PyData.tuple (((r.map PyData.int).set (l0 b r) (pickF (b6 b r) oddL).1).set (a0 b r) (pickF (b7 b r) oddL).1)] ++ bent3 r ++ bent4 r).map EV.val) (S2 := bagS (b8 b r) ++ [.lst ((bent1 b r ++ [PyData.tuple (rep1 r (a0 b r) (.int 1000001))] ++ [PyData.tuple (rep1 r (a0 b r) (.int (-1000001)))] ++ [PyData.tuple (rep1 r (a0 b r) (pickF (b4 b r) tf).1)] ++ [PyData.tuple (rep1 r (a0 b r) (pickF (b5 b r) mm).1)] ++ [PyData.tuple (((r.map PyData.int).set (l0 b r) (pickF (b6 b r) oddL).1).set (a0 b r) (pickF (b7 b r) oddL).1)] ++ bent3 r ++ bent4 r).map EV.val), .lst ((((r.map PyData.int).set (l0 b r) (pickF (b6 b r) oddL).1).set (a0 b r) (pickF (b7 b r) oddL).1).map EV.val)]) (e_v 6) rfl (e_lst (ds := bent5) (a_cons (DE.eq (e_rep0 300 (e_tup (a_cons e_int a_nil)) e_int rfl (by decide)) (by show dT _ = dT _; rw [List.map_replicate])) (a_cons (e_tup (ds := [PyData.tuple []]) (a_cons (e_tup (ds := []) a_nil) a_nil)) a_nil))) rfl (by simp [bent1, bent3, bent4, bent5]) (extB _ _ _ _))) ?_
    have eB : bent1 b r ++ [PyData.tuple (rep1 r (a0 b r) (.int 1000001))] ++ [PyData.tuple (rep1 r (a0 b r) (.int (-1000001)))] ++ [PyData.tuple (rep1 r (a0 b r) (pickF (b4 b r) tf).1)] ++ [PyData.tuple (rep1 r (a0 b r) (pickF (b5 b r) mm).1)] ++ [PyData.tuple (((r.map PyData.int).set (l0 b r) (pickF (b6 b r) oddL).1).set (a0 b r) (pickF (b7 b r) oddL).1)] ++ bent3 r ++ bent4 r ++ bent5 = bentF b r := by simp [bentF, bent2]
    rw [eB]
    exact ss_one (s_ret (e_v 6))
end K83
end
section
set_option Elab.async false
set_option linter.all false
set_option maxRecDepth 100000
set_option maxHeartbeats 1000000
set_option autoImplicit false
/-! k83, part k: the law's questions. -/
namespace K83
open L2 PySem PySem.Spec PyProof.Rows DL
variable {W : WD}
/-- a question that may be asked and is kept -/
def Good (q : Ask) : Prop := q.ok ∧ Kept q.one q.two
/-- the law's own defs -/
structure Own (W : WD) : Prop where
  seen : Def W "_law_seen" ["told", "deep"] 4 R30
  holds : Def W "_law_holds" ["word", "one", "other", "due"] 12 R32
  product : Def W "_law_own_product" ["one", "other"] 2 R20
  other : Def W "_law_own_other" ["row"] 2 R35
  power : Def W "_law_own_power" ["row", "k"] 4 R23
  put : Def W "_law_own_put" ["one", "other"] 4 R37
  error : Def W "_law_own_error" ["value"] 2 R18
  draw : Def W "_law_draw" ["bag", "below"] 2 R28
  pick : Def W "_law_pick" ["bag", "some"] 4 R29
  row : Def W "_law_own_row" ["bag", "many", "kind"] 6 R33
  bent : Def W "_law_bent" ["bag", "row"] 6 R39
  first : Def W "_law_first" ["bag", "row", "some"] 6 R40
theorem endsV (b b' : Bag) (d : PyData) : Ends_ (bagS b).length (.rt (.val d) (bagS b' ++ [])) (.ok (.val d) (bagS b')) := .val (.val _) rfl (bagS_closed _)
/-! ### _law_are_judged(bag, row) -/
def R41 : DL.Spec := fun es S res => ∃ (b : Bag) (r : List Int), es = [.own 1, .val (ti r)] ∧ S = bagS b ∧ Ok b ∧ 1 ≤ r.length ∧ r.length ≤ 16 ∧ Shows (ti r) ∧ (∀ v, v ∈ bentF b r → Good (.error v)) ∧ res = .ok (dB true) (bagS (b8 b r))
theorem sc41 : FnScope ["bag", "row", "value"] ["bag", "row"] (defScope (top 41)) := ⟨rfl, rfl, rfl, by decide +kernel, rfl, by decide +kernel, by decide +kernel⟩
def jg (b : Bag) (r : List Int) : Nat → List EV
  | 0 => [.own 1, .val (ti r), .und]
  | j + 1 => [.own 1, .val (ti r), .val ((bentF b r).getD j .none)]
theorem ok41 {f : Addr} {fd : FuncData} (O : Own W) (F : Fun W.K "_law_are_judged" "_law_are_judged" (top 41) f fd) : FnG W 14 f fd ["bag", "row"] (spD R41) := by
  refine Fun.okD F sc41 (fun es S r h => ?_) (fun E es S r h => ?_)
  · obtain ⟨b, a, rfl, _⟩ := h
    rfl
  · obtain ⟨b, r, rfl, rfl, hok, h1, h2, hsh, hg, rfl⟩ := h
    refine ⟨.rt (dB true) (bagS (b8 b r) ++ []), endsV _ _ _, ?_⟩
    refine ss_cons (s_for (jg b r) (fun _ => bagS (b8 b r)) (items := (bentF b r).map EV.val) rfl (i_l (e_callB O.bent (a_cons (e_v 0) (a_cons (e_v 1) a_nil)) ⟨b, r, rfl, rfl, hok, h1, h2, hsh, rfl⟩)) rfl (fun i x hx => ?_)) (ss_one (s_ret e_bl))
    obtain ⟨v, hv, rfl⟩ := map_get hx
    have hm := hg v (List.mem_of_getElem? hv)
    have ev : (bentF b r).getD i .none = v := by rw [List.getD_eq_getElem?_getD, hv]; rfl
    have hΓ : (jg b r (i + 1))[2]? = some (.val v) := by
      show some (EV.val ((bentF b r).getD i .none)) = _
      rw [ev]
    have hg2 : (jg b r i).set 2 (.val v) = jg b r (i + 1) := by
      show _ = [_, _, EV.val ((bentF b r).getD i .none)]
      rw [ev]
      cases i <;> rfl
    have hse : SeenOk (errD v) := hm.1.2 _ rfl
    exact ⟨_, _, g_n 2 sc41.nd (hΓ := hg2), ss_one (s_ifF (DT.eq (t_not (t_val (e_fn O.holds (a_cons e_str (a_cons (e_v 2 (hΓ := hΓ)) (a_cons e_non (a_cons (e_fn O.seen (a_cons (e_fn O.error (a_cons (e_v 2 (hΓ := hΓ)) a_nil) ⟨v, rfl, rfl, rfl⟩) (a_cons e_int a_nil)) ⟨errD v, rfl, rfl, hse, rfl⟩) a_nil)))) ⟨.error v, rfl, rfl, hm.1, hm.2, rfl⟩))) rfl) ss_nil)⟩
/-! ### _law_are_products(bag, one, other) -/
def kL (b : Bag) : List Int := [0, 1, 2, 3, 16, 16, (drawF b 17).1]
def kF (b : Bag) : Int × Bag := pickI (drawF b 17).2 (kL b)
theorem kF_range (b : Bag) : 0 ≤ (kF b).1 ∧ (kF b).1 ≤ 16 := by
  have h := pickI_mem (b := (drawF b 17).2) (ns := kL b) (by show 1 ≤ 7; decide)
  have hd := draw_range b (below := 17) (by decide)
  unfold kF
  generalize (pickI (drawF b 17).2 (kL b)).1 = z at h
  unfold kL at h
  simp only [List.mem_cons, List.not_mem_nil, or_false] at h
  omega
structure Prods (a b : List Int) : Prop where
  l1 : 1 ≤ a.length
  l2 : a.length ≤ 16
  le : a.length = b.length
  sa : Sm a
  sb : Sm b
  comm : mulS b a = mulS a b
  g1 : Good (.product a b)
  g2 : Good (.product b a)
  gp : ∀ k : Nat, k ≤ 16 → Good (.power a k)
def R42 : DL.Spec := fun es S res => ∃ (b : Bag) (a c : List Int), es = [.own 1, .val (ti a), .val (ti c)] ∧ S = bagS b ∧ Ok b ∧ Prods a c ∧ res = .ok (dB true) (bagS (kF b).2)
theorem sc42 : FnScope ["bag", "one", "other", "due", "k"] ["bag", "one", "other"] (defScope (top 42)) := ⟨rfl, rfl, rfl, by decide +kernel, rfl, by decide +kernel, by decide +kernel⟩
theorem ok42 {f : Addr} {fd : FuncData} (O : Own W) (F : Fun W.K "_law_are_products" "_law_are_products" (top 42) f fd) : FnG W 14 f fd ["bag", "one", "other"] (spD R42) := by
  refine Fun.okD F sc42 (fun es S r h => ?_) (fun E es S r h => ?_)
  · obtain ⟨b, a, c, rfl, _⟩ := h
    rfl
  · obtain ⟨b, a, c, rfl, rfl, hok, P, rfl⟩ := h
    refine ⟨.rt (dB true) (bagS (kF b).2 ++ []), endsV _ _ _, ?_⟩
    obtain ⟨k0, k1⟩ := kF_range b
    have hk : ((kF b).1.toNat : Int) = (kF b).1 := by omega
    have gk := P.gp (kF b).1.toNat (by omega)
    have s1 := P.g1.1.2 _ rfl
    have e2 : (Ask.product c a).told = (Ask.product a c).told := by
      show seenD (ti (mulS c a)) = seenD (ti (mulS a c))
      rw [P.comm]
    refine ss_cons (s_set 3 sc42.nd (v := dS (Ask.product a c).told) (e_fn O.seen (a_cons (e_fn O.product (a_cons (e_v 1) (a_cons (e_v 2) a_nil)) ⟨a, c, rfl, rfl, P.le, P.l2, P.sa, P.sb, rfl⟩) (a_cons e_int a_nil)) ⟨ti (mulS a c), rfl, rfl, s1, rfl⟩)) ?_
    refine ss_cons (s_ifF (DT.eq (t_w (w_or (t_not (t_val (e_fn O.holds (a_cons e_str (a_cons (e_v 1) (a_cons (e_v 2) (a_cons (e_v 3) a_nil)))) ⟨.product a c, rfl, rfl, P.g1.1, P.g1.2, rfl⟩))) fun _ => w_or1 (t_not (t_val (e_fn O.holds (a_cons e_str (a_cons (e_v 2) (a_cons (e_v 1) (a_cons (e_v 3) a_nil)))) ⟨.product c a, by rw [e2]; rfl, rfl, P.g2.1, P.g2.2, rfl⟩))))) rfl) ss_nil) ?_
    refine ss_cons (s_set 4 sc42.nd (S1 := bagS (kF b).2) (v := dI ((kF b).1.toNat : Nat)) (DE.eq (e_callB (b := (drawF b 17).2) O.pick (a_cons (e_v 0) (a_cons (e_lst (ds := (kL b).map .int) (a_cons e_int (a_cons e_int (a_cons e_int (a_cons e_int (a_cons e_int (a_cons e_int (a_cons (e_callB O.draw (a_cons (e_v 0) (a_cons e_int a_nil)) ⟨b, 17, rfl, rfl, hok, by decide, by decide +kernel, rfl⟩) a_nil)))))))) a_nil)) ⟨(drawF b 17).2, (kL b).map .int, rfl, rfl, draw_ok hok _, by show 1 ≤ 7; decide, by show 7 ≤ 1000; decide, by rw [pick_ints (by show 1 ≤ 7; decide)]; rfl⟩) (congrArg (fun z => dI z) hk.symm))) ?_
    exact ss_one (s_ret (e_fn O.holds (a_cons e_str (a_cons (e_v 1) (a_cons (e_v 4) (a_cons (e_fn O.seen (a_cons (e_fn O.power (a_cons (e_v 1) (a_cons (e_v 4) a_nil)) ⟨a, (kF b).1.toNat, rfl, rfl, gk.1.1.1, gk.1.1.2.1, gk.1.1.2.2.1, gk.1.1.2.2.2.1, gk.1.1.2.2.2.2, rfl⟩) (a_cons e_int a_nil)) ⟨ti (powS a (kF b).1.toNat), rfl, rfl, gk.1.2 _ rfl, rfl⟩) a_nil)))) ⟨.power a (kF b).1.toNat, rfl, rfl, gk.1, gk.2, rfl⟩))
/-! ### _law_are_others(bag, row, beside) -/
def k4 : List Int := [0, 1, 2, 7]
def oF (b : Bag) (a : List Int) : Bag := if isOne (a.getD 0 0) = true then (pickI b k4).2 else b
structure Othrs (a c : List Int) : Prop where
  l1 : 1 ≤ a.length
  l2 : a.length ≤ 16
  le : a.length = c.length
  sa : Sm a
  sc : Sm c
  no : isOne (a.getD 0 0) = false → Good (.other a)
  so : isOne (a.getD 0 0) = true → ∀ m, m < a.length → Sm (oth a m)
  g1 : isOne (a.getD 0 0) = true → Good (.other a)
  back : isOne (a.getD 0 0) = true → isOne ((othS a).getD 0 0) = true ∧ othS (othS a) = a
  g2 : isOne (a.getD 0 0) = true → Good (.other (othS a))
  unit : isOne (a.getD 0 0) = true → mulS (othS a) a = unitS a.length
  g3 : isOne (a.getD 0 0) = true → Good (.product (othS a) a)
  g4 : isOne (a.getD 0 0) = true → Good (.error (ti (othS a)))
  g5 : isOne (a.getD 0 0) = true → Good (.product c (othS a))
  gp : isOne (a.getD 0 0) = true → ∀ k : Nat, k ≤ 7 → Good (.power (othS a) k)
theorem oF_ok {b : Bag} {a : List Int} (h : Ok b) : Ok (oF b a) := by
  unfold oF
  split
  · exact pickI_ok h
  · exact h
def R43 : DL.Spec := fun es S res => ∃ (b : Bag) (a c : List Int), es = [.own 1, .val (ti a), .val (ti c)] ∧ S = bagS b ∧ Ok b ∧ Othrs a c ∧ res = .ok (dB true) (bagS (oF b a))
theorem sc43 : FnScope ["bag", "row", "beside", "own", "unit", "due", "k"] ["bag", "row", "beside"] (defScope (top 43)) := ⟨rfl, rfl, rfl, by decide +kernel, rfl, by decide +kernel, by decide +kernel⟩
theorem oth_lenS {a : List Int} (h : 1 ≤ a.length) : (othS a).length = a.length := by
  unfold othS
  rw [oth_len]
  omega
theorem ok43 {f : Addr} {fd : FuncData} (B : Bt W) (O : Own W) (F : Fun W.K "_law_are_others" "_law_are_others" (top 43) f fd) : FnG W 14 f fd ["bag", "row", "beside"] (spD R43) := by
  refine Fun.okD F sc43 (fun es S r h => ?_) (fun E es S r h => ?_)
  · obtain ⟨b, a, c, rfl, _⟩ := h
    rfl
  · obtain ⟨b, a, c, rfl, rfl, hok, P, rfl⟩ := h
    refine ⟨.rt (dB true) (bagS (oF b a) ++ []), endsV _ _ _, ?_⟩
    have i0 : atI (a.map PyData.int) 0 = some (.int (a.getD 0 0)) := at_row (i := 0) (by have := P.l1; omega) rfl
    have h1 := P.l1
    have h2 := P.l2
    cases hone : isOne (a.getD 0 0) with
    | false =>
      have g := P.no hone
      have et : Ask.told (.other a) = "raise Unfit" := by
        unfold Ask.told
        rw [show Ask.ans (.other a) = none from if_neg (by rw [hone]; exact Bool.false_ne_true)]
      have hne : ¬ a.getD 0 0 = 1 ∧ ¬ a.getD 0 0 = -1 := by
        unfold isOne at hone
        simpa using hone
      have eo : oF b a = b := if_neg (by rw [hone]; exact Bool.false_ne_true)
      rw [eo]
      exact ss_stop (s_ifT (t_w (w_andT (DT.eq (t_cmp (e_ixt (e_v 1) e_int i0) e_int c_ne) (by rw [decide_eq_false hne.1]; rfl)) (w_and1 (DT.eq (t_cmp (e_ixt (e_v 1) e_int i0) (e_neg e_int) c_ne) (by rw [decide_eq_false hne.2]; rfl))))) (ss_one (s_ret (e_fn O.holds (a_cons e_str (a_cons (e_v 1) (a_cons e_non (a_cons e_str a_nil)))) ⟨.other a, by rw [et]; rfl, rfl, g.1, g.2, rfl⟩))))
    | true =>
      have eo : oF b a = (pickI b k4).2 := if_pos hone
      rw [eo]
      have g1 := P.g1 hone
      have g2 := P.g2 hone
      have g3 := P.g3 hone
      have g4 := P.g4 hone
      have g5 := P.g5 hone
      obtain ⟨bk1, bk2⟩ := P.back hone
      have lo := oth_lenS h1
      have ea1 : Ask.ans (.other a) = some (ti (othS a)) := if_pos hone
      have ea2 : Ask.ans (.other (othS a)) = some (ti a) := by
        show (if _ then _ else _) = _
        rw [if_pos bk1, bk2]
      have et1 : Ask.told (.other a) = seenD (ti (othS a)) := by unfold Ask.told; rw [ea1]
      have et2 : Ask.told (.other (othS a)) = seenD (ti a) := by unfold Ask.told; rw [ea2]
      have et3 : Ask.told (.product (othS a) a) = seenD (ti (unitS a.length)) := by
        show seenD (ti (mulS (othS a) a)) = _
        rw [P.unit hone]
      have so1 : SeenOk (ti (othS a)) := g1.1.2 _ ea1
      have so2 : SeenOk (ti a) := g2.1.2 _ ea2
      have so3 : SeenOk (ti (unitS a.length)) := by
        have := g3.1.2 _ rfl
        rw [P.unit hone] at this
        exact this
      have so4 : SeenOk (errD (ti (othS a))) := g4.1.2 _ rfl
      have so5 : SeenOk (ti (mulS c (othS a))) := g5.1.2 _ rfl
      have kr : 0 ≤ (pickI b k4).1 ∧ (pickI b k4).1 ≤ 7 := by
        have h := pickI_mem (b := b) (ns := k4) (by decide)
        generalize (pickI b k4).1 = z at h
        unfold k4 at h
        simp only [List.mem_cons, List.not_mem_nil, or_false] at h
        omega
      have hk : ((pickI b k4).1.toNat : Int) = (pickI b k4).1 := by omega
      have gk := P.gp hone (pickI b k4).1.toNat (by omega)
      have hne : a.getD 0 0 = 1 ∨ a.getD 0 0 = -1 := by
        unfold isOne at hone
        simpa using hone
      refine ss_cons (s_ifF (DT.eq (t_w (w_and (t_cmp (e_ixt (e_v 1) e_int i0) e_int c_ne) fun _ => w_and1 (t_cmp (e_ixt (e_v 1) e_int i0) (e_neg e_int) c_ne))) ?_) ss_nil) ?_
      · rcases hne with z | z
        · rw [decide_eq_true z]; rfl
        · rw [decide_eq_true z]
          exact Bool.and_false _
      refine ss_cons (s_par 3 4 rfl sc43.nd (e_fn O.other (a_cons (e_v 1) a_nil) ⟨a, rfl, rfl, h1, h2, P.sa, hone, P.so hone, rfl⟩) (e_unit (k := 0) a.length (e_tup (a_cons e_int a_nil)) (e_rep0 (a.length - 1) (e_tup (a_cons e_int a_nil)) (e_sub (e_lent B.len (e_v 1)) e_int) (by simp; omega) (by omega)) h2)) ?_
      refine ss_cons (s_ifF (DT.eq (t_w (w_or (t_not (t_val (e_fn O.holds (a_cons e_str (a_cons (e_v 1) (a_cons e_non (a_cons (e_fn O.seen (a_cons (e_v 3) (a_cons e_int a_nil)) ⟨ti (othS a), rfl, rfl, so1, rfl⟩) a_nil)))) ⟨.other a, by rw [et1]; rfl, rfl, g1.1, g1.2, rfl⟩))) fun _ => w_or1 (t_not (t_val (e_fn O.holds (a_cons e_str (a_cons (e_v 3) (a_cons e_non (a_cons (e_fn O.seen (a_cons (e_v 1) (a_cons e_int a_nil)) ⟨ti a, rfl, rfl, so2, rfl⟩) a_nil)))) ⟨.other (othS a), by rw [et2]; rfl, rfl, g2.1, g2.2, rfl⟩))))) rfl) ss_nil) ?_
      refine ss_cons (s_ifF (DT.eq (t_not (t_val (e_fn O.holds (a_cons e_str (a_cons (e_v 3) (a_cons (e_v 1) (a_cons (e_fn O.seen (a_cons (e_v 4) (a_cons e_int a_nil)) ⟨ti (unitS a.length), rfl, rfl, so3, rfl⟩) a_nil)))) ⟨.product (othS a) a, by rw [et3]; rfl, rfl, g3.1, g3.2, rfl⟩))) rfl) ss_nil) ?_
      refine ss_cons (s_ifF (DT.eq (t_not (t_val (e_fn O.holds (a_cons e_str (a_cons (e_v 3) (a_cons e_non (a_cons (e_fn O.seen (a_cons (e_fn O.error (a_cons (e_v 3) a_nil) ⟨ti (othS a), rfl, rfl, rfl⟩) (a_cons e_int a_nil)) ⟨errD (ti (othS a)), rfl, rfl, so4, rfl⟩) a_nil)))) ⟨.error (ti (othS a)), rfl, rfl, g4.1, g4.2, rfl⟩))) rfl) ss_nil) ?_
      refine ss_cons (s_set 5 sc43.nd (v := dS (Ask.product c (othS a)).told) (e_fn O.seen (a_cons (e_fn O.product (a_cons (e_v 2) (a_cons (e_v 3) a_nil)) ⟨c, othS a, rfl, rfl, by rw [lo]; exact P.le.symm, by rw [← P.le]; exact h2, P.sc, g5.1.1.2.2.2, rfl⟩) (a_cons e_int a_nil)) ⟨ti (mulS c (othS a)), rfl, rfl, so5, rfl⟩)) ?_
      refine ss_cons (s_ifF (DT.eq (t_not (t_val (e_fn O.holds (a_cons e_str (a_cons (e_v 2) (a_cons (e_v 3) (a_cons (e_v 5) a_nil)))) ⟨.product c (othS a), rfl, rfl, g5.1, g5.2, rfl⟩))) rfl) ss_nil) ?_
      refine ss_cons (s_set 6 sc43.nd (S1 := bagS (pickI b k4).2) (v := dI ((pickI b k4).1.toNat : Nat)) (DE.eq (e_callB O.pick (a_cons (e_v 0) (a_cons (e_lst (ds := k4.map .int) (a_cons e_int (a_cons e_int (a_cons e_int (a_cons e_int a_nil))))) a_nil)) ⟨b, k4.map .int, rfl, rfl, hok, by decide, by decide, by rw [pick_ints (by decide)]⟩) (congrArg (fun z => dI z) hk.symm))) ?_
      exact ss_one (s_ret (e_fn O.holds (a_cons e_str (a_cons (e_v 3) (a_cons (e_v 6) (a_cons (e_fn O.seen (a_cons (e_fn O.power (a_cons (e_v 3) (a_cons (e_v 6) a_nil)) ⟨othS a, (pickI b k4).1.toNat, rfl, rfl, gk.1.1.1, gk.1.1.2.1, gk.1.1.2.2.1, gk.1.1.2.2.2.1, gk.1.1.2.2.2.2, rfl⟩) (a_cons e_int a_nil)) ⟨ti (powS (othS a) (pickI b k4).1.toNat), rfl, rfl, gk.1.2 _ rfl, rfl⟩) a_nil)))) ⟨.power (othS a) (pickI b k4).1.toNat, rfl, rfl, gk.1, gk.2, rfl⟩))
/-! ### _law_are_put(one, other) -/
structure Puts (a b : List Int) : Prop where
  l1 : 1 ≤ a.length
  l2 : a.length ≤ 16
  le : a.length = b.length
  sb : Sm b
  sh : b.getD 0 0 = 0 → ∀ i, i ≤ a.length → Sm (horL a b i)
  eq : b.getD 0 0 = 0 → horL a b a.length = putF a b a.length
  g : Good (.put a b)
def R44 : DL.Spec := fun es S res => ∃ (a b : List Int), es = [.val (ti a), .val (ti b)] ∧ S = [] ∧ Puts a b ∧ res = .ok (dB true) []
theorem sc44 : FnScope ["one", "other"] ["one", "other"] (defScope (top 44)) := ⟨rfl, rfl, rfl, by decide +kernel, rfl, by decide +kernel, by decide +kernel⟩
theorem ok44 {f : Addr} {fd : FuncData} (O : Own W) (F : Fun W.K "_law_are_put" "_law_are_put" (top 44) f fd) : FnG W 14 f fd ["one", "other"] (spD R44) := by
  refine Fun.okD F sc44 (fun es S r h => ?_) (fun E es S r h => ?_)
  · obtain ⟨a, c, rfl, _⟩ := h
    rfl
  · obtain ⟨a, b, rfl, rfl, P, rfl⟩ := h
    refine ⟨.rt (dB true) [], .val (.val _) rfl rfl, ?_⟩
    have hl := P.le
    have h1 := P.l1
    have i0 : atI (b.map PyData.int) 0 = some (.int (b.getD 0 0)) := at_row (i := 0) (by omega) rfl
    by_cases h0 : b.getD 0 0 = 0
    · have ea : Ask.ans (.put a b) = some (ti (putF a b a.length)) := if_pos h0
      have et : Ask.told (.put a b) = seenD (ti (horL a b a.length)) := by unfold Ask.told; rw [ea, P.eq h0]
      have so : SeenOk (ti (horL a b a.length)) := by rw [P.eq h0]; exact P.g.1.2 _ ea
      refine ss_cons (s_ifF (DT.eq (t_cmp (e_ixt (e_v 1) e_int i0) e_int c_ne) (by rw [decide_eq_true h0]; rfl)) ss_nil) (ss_one (s_ret (e_fn O.holds (a_cons e_str (a_cons (e_v 0) (a_cons (e_v 1) (a_cons (e_fn O.seen (a_cons (e_fn O.put (a_cons (e_v 0) (a_cons (e_v 1) a_nil)) ⟨a, b, rfl, rfl, P.le, P.l1, P.l2, P.sb, P.sh h0, rfl⟩) (a_cons e_int a_nil)) ⟨ti (horL a b a.length), rfl, rfl, so, rfl⟩) a_nil)))) ⟨.put a b, by rw [et]; rfl, rfl, P.g.1, P.g.2, rfl⟩)))
    · have et : Ask.told (.put a b) = "raise Unfit" := by
        unfold Ask.told
        rw [show Ask.ans (.put a b) = none from if_neg h0]
      exact ss_stop (s_ifT (DT.eq (t_cmp (e_ixt (e_v 1) e_int i0) e_int c_ne) (by rw [decide_eq_false h0]; rfl)) (ss_one (s_ret (e_fn O.holds (a_cons e_str (a_cons (e_v 0) (a_cons (e_v 1) (a_cons e_str a_nil)))) ⟨.put a b, by rw [et]; rfl, rfl, P.g.1, P.g.2, rfl⟩))))
/-! ### _law_are_products_put(one, other, row) -/
structure PPuts (a c r : List Int) : Prop where
  l1 : 1 ≤ a.length
  l2 : a.length ≤ 16
  le : a.length = c.length
  lr : a.length = r.length
  sr : Sm r
  sa : Sm a
  sc : Sm c
  ha : ∀ i, i ≤ a.length → Sm (horL a r i)
  hc : ∀ i, i ≤ c.length → Sm (horL c r i)
  r0 : r.getD 0 0 = 0
  g1 : Good (.product a c)
  g2 : Good (.put (mulS a c) r)
  eq : putF (mulS a c) r (mulS a c).length = mulS (horL a r a.length) (horL c r c.length)
def R45 : DL.Spec := fun es S res => ∃ (a c r : List Int), es = [.val (ti a), .val (ti c), .val (ti r)] ∧ S = [] ∧ PPuts a c r ∧ res = .ok (dB true) []
theorem sc45 : FnScope ["one", "other", "row", "due", "product"] ["one", "other", "row"] (defScope (top 45)) := ⟨rfl, rfl, rfl, by decide +kernel, rfl, by decide +kernel, by decide +kernel⟩
theorem ok45 {f : Addr} {fd : FuncData} (O : Own W) (F : Fun W.K "_law_are_products_put" "_law_are_products_put" (top 45) f fd) : FnG W 14 f fd ["one", "other", "row"] (spD R45) := by
  refine Fun.okD F sc45 (fun es S r h => ?_) (fun E es S r h => ?_)
  · obtain ⟨a, c, r', rfl, _⟩ := h
    rfl
  · obtain ⟨a, c, r, rfl, rfl, P, rfl⟩ := h
    refine ⟨.rt (dB true) [], .val (.val _) rfl rfl, ?_⟩
    have h1 := P.l1
    have h2 := P.l2
    have hl := P.le
    have hr := P.lr
    have ea : Ask.ans (.put (mulS a c) r) = some (ti (putF (mulS a c) r (mulS a c).length)) := if_pos P.r0
    have et : Ask.told (.put (mulS a c) r) = seenD (ti (mulS (horL a r a.length) (horL c r c.length))) := by unfold Ask.told; rw [ea, P.eq]
    have so : SeenOk (ti (mulS (horL a r a.length) (horL c r c.length))) := by rw [← P.eq]; exact P.g2.1.2 _ ea
    have la := hor_len (b := r) h1 a.length
    have lc := hor_len (b := r) (by omega : 1 ≤ c.length) c.length
    refine ss_cons (s_set 3 sc45.nd (v := dS (Ask.put (mulS a c) r).told) (DE.eq (e_fn O.seen (a_cons (e_fn O.product (a_cons (e_fn O.put (a_cons (e_v 0) (a_cons (e_v 2) a_nil)) ⟨a, r, rfl, rfl, P.lr, h1, h2, P.sr, P.ha, rfl⟩) (a_cons (e_fn O.put (a_cons (e_v 1) (a_cons (e_v 2) a_nil)) ⟨c, r, rfl, rfl, by omega, by omega, by omega, P.sr, P.hc, rfl⟩) a_nil)) ⟨_, _, rfl, rfl, by omega, by omega, P.ha _ (Nat.le_refl _), P.hc _ (Nat.le_refl _), rfl⟩) (a_cons e_int a_nil)) ⟨_, rfl, rfl, so, rfl⟩) (by rw [et]))) ?_
    refine ss_cons (s_set 4 sc45.nd (e_fn O.product (a_cons (e_v 0) (a_cons (e_v 1) a_nil)) ⟨a, c, rfl, rfl, P.le, h2, P.sa, P.sc, rfl⟩)) ?_
    refine ss_one (s_ret (e_andT (e_fn O.holds (a_cons e_str (a_cons (e_v 0) (a_cons (e_v 1) (a_cons (e_fn O.seen (a_cons (e_v 4) (a_cons e_int a_nil)) ⟨ti (mulS a c), rfl, rfl, P.g1.1.2 _ rfl, rfl⟩) a_nil)))) ⟨.product a c, rfl, rfl, P.g1.1, P.g1.2, rfl⟩) (e_and1 (e_fn O.holds (a_cons e_str (a_cons (e_v 4) (a_cons (e_v 2) (a_cons (e_v 3) a_nil)))) ⟨.put (mulS a c) r, rfl, rfl, P.g2.1, P.g2.2, rfl⟩))))
end K83
end
section
set_option Elab.async false
set_option linter.all false
set_option maxRecDepth 100000
set_option autoImplicit false
/-! k83, part m: series as functions; plain Lean. -/
namespace Ser83
/-- the n-th item of a product -/
def conv : Nat → (Nat → Int) → (Nat → Int) → Int
  | 0, f, g => f 0 * g 0
  | n + 1, f, g => f 0 * g (n + 1) + conv n (fun i => f (i + 1)) g
theorem conv_congr : ∀ (n : Nat) {f f' g g' : Nat → Int}, (∀ i, i ≤ n → f i = f' i) → (∀ i, i ≤ n → g i = g' i) → conv n f g = conv n f' g'
  | 0, f, f', g, g', hf, hg => by
    show f 0 * g 0 = f' 0 * g' 0
    rw [hf 0 (Nat.le_refl _), hg 0 (Nat.le_refl _)]
  | n + 1, f, f', g, g', hf, hg => by
    show f 0 * g (n + 1) + conv n _ g = f' 0 * g' (n + 1) + conv n _ g'
    rw [hf 0 (Nat.zero_le _), hg (n + 1) (Nat.le_refl _), conv_congr n (fun i hi => hf (i + 1) (Nat.succ_le_succ hi)) (fun i hi => hg i (Nat.le_succ_of_le hi))]
theorem conv_add : ∀ (n : Nat) (f f' g : Nat → Int), conv n (fun i => f i + f' i) g = conv n f g + conv n f' g
  | 0, f, f', g => Int.add_mul _ _ _
  | n + 1, f, f', g => by
    show (f 0 + f' 0) * g (n + 1) + conv n (fun i => f (i + 1) + f' (i + 1)) g = (f 0 * g (n + 1) + conv n _ g) + (f' 0 * g (n + 1) + conv n _ g)
    rw [conv_add n (fun i => f (i + 1)) (fun i => f' (i + 1)) g, Int.add_mul]
    omega
theorem conv_smul : ∀ (n : Nat) (c : Int) (f g : Nat → Int), conv n (fun i => c * f i) g = c * conv n f g
  | 0, c, f, g => Int.mul_assoc _ _ _
  | n + 1, c, f, g => by
    show c * f 0 * g (n + 1) + conv n (fun i => c * f (i + 1)) g = c * (f 0 * g (n + 1) + conv n _ g)
    rw [conv_smul n c (fun i => f (i + 1)) g, Int.mul_add, Int.mul_assoc]
theorem conv_right : ∀ (n : Nat) (f g : Nat → Int), conv (n + 1) f g = conv n f (fun i => g (i + 1)) + f (n + 1) * g 0
  | 0, f, g => rfl
  | n + 1, f, g => by
    show f 0 * g (n + 1 + 1) + conv (n + 1) (fun i => f (i + 1)) g = f 0 * g (n + 1 + 1) + conv n (fun i => f (i + 1)) (fun i => g (i + 1)) + f (n + 1 + 1) * g 0
    rw [conv_right n (fun i => f (i + 1)) g]
    omega
theorem conv_comm : ∀ (n : Nat) (f g : Nat → Int), conv n f g = conv n g f
  | 0, f, g => Int.mul_comm _ _
  | n + 1, f, g => by
    rw [conv_right n g f]
    show f 0 * g (n + 1) + conv n (fun i => f (i + 1)) g = _
    rw [conv_comm n (fun i => f (i + 1)) g, Int.mul_comm (f 0)]
    omega
theorem conv_assoc : ∀ (n : Nat) (f g h : Nat → Int), conv n (fun m => conv m f g) h = conv n f (fun m => conv m g h)
  | 0, f, g, h => Int.mul_assoc _ _ _
  | n + 1, f, g, h => by
    show f 0 * g 0 * h (n + 1) + conv n (fun m => f 0 * g (m + 1) + conv m (fun i => f (i + 1)) g) h = f 0 * (g 0 * h (n + 1) + conv n (fun i => g (i + 1)) h) + conv n (fun i => f (i + 1)) (fun m => conv m g h)
    rw [conv_add n (fun m => f 0 * g (m + 1)) (fun m => conv m (fun i => f (i + 1)) g) h, conv_smul n (f 0) (fun m => g (m + 1)) h, conv_assoc n (fun i => f (i + 1)) g h, Int.mul_add, Int.mul_assoc]
    omega
/-- the unit -/
def one : Nat → Int
  | 0 => 1
  | _ + 1 => 0
theorem conv_zero : ∀ (n : Nat) (g : Nat → Int), conv n (fun _ => 0) g = 0
  | 0, g => Int.zero_mul _
  | n + 1, g => by
    show 0 * g (n + 1) + conv n (fun _ => 0) g = 0
    rw [conv_zero n g, Int.zero_mul]
    rfl
theorem conv_one : ∀ (n : Nat) (g : Nat → Int), conv n one g = g n
  | 0, g => Int.one_mul _
  | n + 1, g => by
    show 1 * g (n + 1) + conv n (fun i => one (i + 1)) g = g (n + 1)
    rw [show (fun i => one (i + 1)) = fun _ => (0 : Int) from rfl, conv_zero, Int.one_mul, Int.add_zero]
/-- a second one that begins with 0: the last item of the first one says nothing -/
theorem conv_last (n : Nat) {f f' g : Nat → Int} (h0 : g 0 = 0) (hf : ∀ i, i < n → f i = f' i) : conv n f g = conv n f' g := by
  cases n with
  | zero =>
    show f 0 * g 0 = f' 0 * g 0
    rw [h0, Int.mul_zero, Int.mul_zero]
  | succ n =>
    rw [conv_right, conv_right, h0, Int.mul_zero, Int.mul_zero]
    rw [conv_congr n (fun i hi => hf i (Nat.lt_succ_of_le hi)) fun _ _ => rfl]
theorem sum_conv : ∀ (n : Nat) (f g : Nat → Int), ((List.range (n + 1)).map fun i => f i * g (n - i)).sum = conv n f g
  | 0, f, g => by
    show f 0 * g 0 + 0 = f 0 * g 0
    exact Int.add_zero _
  | n + 1, f, g => by
    rw [List.range_succ_eq_map, List.map_cons, List.sum_cons, List.map_map]
    show f 0 * g (n + 1) + _ = f 0 * g (n + 1) + conv n (fun i => f (i + 1)) g
    rw [← sum_conv n (fun i => f (i + 1)) g]
    congr 2
    apply List.map_congr_left
    intro i hi
    show f (i + 1) * g (n + 1 - (i + 1)) = f (i + 1) * g (n - i)
    rw [Nat.add_sub_add_right]
/-- by Horner: the sum of the first N items of f times powers of b -/
def hor : Nat → (Nat → Int) → (Nat → Int) → Nat → Int
  | 0, _, _ => fun _ => 0
  | N + 1, f, b => fun n => f 0 * one n + conv n (hor N (fun i => f (i + 1)) b) b
theorem hor_more : ∀ (N : Nat) (f b : Nat → Int) (n : Nat), b 0 = 0 → n < N → hor (N + 1) f b n = hor N f b n
  | 0, f, b, n, h0, h => absurd h (Nat.not_lt_zero n)
  | N + 1, f, b, n, h0, h => by
    show f 0 * one n + conv n (hor (N + 1) (fun i => f (i + 1)) b) b = f 0 * one n + conv n (hor N (fun i => f (i + 1)) b) b
    rw [conv_last n h0 fun i hi => hor_more N (fun i => f (i + 1)) b i h0 (by omega)]
theorem hor_zero : ∀ (N : Nat) (b : Nat → Int) (n : Nat), hor N (fun _ => 0) b n = 0
  | 0, b, n => rfl
  | N + 1, b, n => by
    show 0 * one n + conv n (hor N (fun _ => 0) b) b = 0
    rw [conv_congr n (fun i _ => hor_zero N b i) (fun _ _ => rfl), conv_zero, Int.zero_mul]
    rfl
theorem hor_add : ∀ (N : Nat) (f f' b : Nat → Int) (n : Nat), hor N (fun i => f i + f' i) b n = hor N f b n + hor N f' b n
  | 0, f, f', b, n => rfl
  | N + 1, f, f', b, n => by
    show (f 0 + f' 0) * one n + conv n (hor N (fun i => f (i + 1) + f' (i + 1)) b) b = (f 0 * one n + conv n _ b) + (f' 0 * one n + conv n _ b)
    rw [conv_congr n (fun i _ => hor_add N (fun i => f (i + 1)) (fun i => f' (i + 1)) b i) (fun _ _ => rfl), conv_add, Int.add_mul]
    omega
theorem hor_smul : ∀ (N : Nat) (c : Int) (f b : Nat → Int) (n : Nat), hor N (fun i => c * f i) b n = c * hor N f b n
  | 0, c, f, b, n => (Int.mul_zero c).symm
  | N + 1, c, f, b, n => by
    show c * f 0 * one n + conv n (hor N (fun i => c * f (i + 1)) b) b = c * (f 0 * one n + conv n _ b)
    rw [conv_congr n (fun i _ => hor_smul N c (fun i => f (i + 1)) b i) (fun _ _ => rfl), conv_smul, Int.mul_add, Int.mul_assoc]
/-- what is put into a product is the product of what is put in -/
theorem hor_mul : ∀ (N : Nat) (f g b : Nat → Int) (n : Nat), b 0 = 0 → n < N → hor N (fun m => conv m f g) b n = conv n (hor N f b) (hor N g b)
  | 0, f, g, b, n, h0, h => absurd h (Nat.not_lt_zero n)
  | N + 1, f, g, b, n, h0, h => by
    -- f * g = f0 g0, f0 (tail g) + (tail f) * g
    have e1 : hor (N + 1) (fun m => conv m f g) b n = f 0 * g 0 * one n + (f 0 * conv n (hor N (fun i => g (i + 1)) b) b + conv n (hor N (fun m => conv m (fun i => f (i + 1)) g) b) b) := by
      show f 0 * g 0 * one n + conv n (hor N (fun m => f 0 * g (m + 1) + conv m (fun i => f (i + 1)) g) b) b = _
      rw [conv_congr n (fun i _ => hor_add N (fun m => f 0 * g (m + 1)) (fun m => conv m (fun i => f (i + 1)) g) b i) (fun _ _ => rfl), conv_add, conv_congr n (fun i _ => hor_smul N (f 0) (fun m => g (m + 1)) b i) (fun _ _ => rfl), conv_smul]
    have e2 : conv n (hor (N + 1) f b) (hor (N + 1) g b) = f 0 * hor (N + 1) g b n + conv n (fun m => conv m (hor N (fun i => f (i + 1)) b) b) (hor (N + 1) g b) := by
      show conv n (fun m => f 0 * one m + conv m (hor N (fun i => f (i + 1)) b) b) (hor (N + 1) g b) = _
      rw [conv_add n (fun m => f 0 * one m) (fun m => conv m (hor N (fun i => f (i + 1)) b) b), conv_smul, conv_one]
    have e3 : conv n (hor N (fun m => conv m (fun i => f (i + 1)) g) b) b = conv n (fun m => conv m (hor N (fun i => f (i + 1)) b) (hor (N + 1) g b)) b := by
      refine conv_last n h0 fun i hi => ?_
      rw [hor_mul N (fun i => f (i + 1)) g b i h0 (by omega)]
      exact conv_congr i (fun _ _ => rfl) fun j hj => (hor_more N g b j h0 (by omega)).symm
    have e4 : conv n (fun m => conv m (hor N (fun i => f (i + 1)) b) b) (hor (N + 1) g b) = conv n (fun m => conv m (hor N (fun i => f (i + 1)) b) (hor (N + 1) g b)) b := by
      rw [conv_assoc, conv_assoc]
      exact conv_congr n (fun _ _ => rfl) fun m _ => conv_comm m _ _
    have e5 : hor (N + 1) g b n = g 0 * one n + conv n (hor N (fun i => g (i + 1)) b) b := rfl
    rw [e1, e2, e3, e4, e5, Int.mul_add, Int.mul_assoc]
    omega
/-- powers -/
def pw (b : Nat → Int) : Nat → Nat → Int
  | 0 => one
  | k + 1 => fun n => conv n (pw b k) b
/-- the sum of items times powers, from p on -/
def ssum (b : Nat → Int) : Nat → (Nat → Int) → (Nat → Int) → Nat → Int
  | 0, _, _ => fun _ => 0
  | N + 1, f, p => fun n => f 0 * p n + ssum b N (fun i => f (i + 1)) (fun m => conv m p b) n
theorem ssum_hor : ∀ (N : Nat) (b f p : Nat → Int) (n : Nat), ssum b N f p n = conv n p (hor N f b)
  | 0, b, f, p, n => by
    rw [conv_comm]
    exact (conv_zero n p).symm
  | N + 1, b, f, p, n => by
    show f 0 * p n + ssum b N (fun i => f (i + 1)) (fun m => conv m p b) n = conv n p (fun m => f 0 * one m + conv m (hor N (fun i => f (i + 1)) b) b)
    rw [ssum_hor N b (fun i => f (i + 1)) (fun m => conv m p b) n, conv_assoc, conv_comm n p (fun m => f 0 * one m + conv m (hor N (fun i => f (i + 1)) b) b), conv_add, conv_smul, conv_one, conv_comm n _ p]
    congr 1
    exact conv_congr n (fun _ _ => rfl) fun m _ => conv_comm m _ _
/-- the sum grows at its end, too -/
theorem ssum_last : ∀ (N : Nat) (b f p : Nat → Int) (n : Nat), ssum b (N + 1) f p n = ssum b N f p n + f N * conv n p (pw b N)
  | 0, b, f, p, n => by
    show f 0 * p n + 0 = 0 + f 0 * conv n p one
    rw [conv_comm, conv_one]
    omega
  | N + 1, b, f, p, n => by
    show f 0 * p n + ssum b (N + 1) (fun i => f (i + 1)) (fun m => conv m p b) n = (f 0 * p n + ssum b N (fun i => f (i + 1)) (fun m => conv m p b) n) + f (N + 1) * conv n p (fun m => conv m (pw b N) b)
    rw [ssum_last N b (fun i => f (i + 1)) (fun m => conv m p b) n, conv_assoc]
    rw [show conv n p (fun m => conv m b (pw b N)) = conv n p (fun m => conv m (pw b N) b) from conv_congr n (fun _ _ => rfl) fun m _ => conv_comm m _ _]
    omega
end Ser83
end
section
set_option Elab.async false
set_option linter.all false
set_option maxRecDepth 100000
set_option maxHeartbeats 1000000
set_option autoImplicit false
/-! k83, part n: the rows as functions. -/
namespace K83
open Ser83
abbrev fn (r : List Int) : Nat → Int := fun n => r.getD n 0
theorem row_ext {a b : List Int} (hl : a.length = b.length) (h : ∀ n, n < a.length → fn a n = fn b n) : a = b := by
  apply List.ext_getElem? 
  intro n
  by_cases hn : n < a.length
  · have := h n hn
    simp only [fn, List.getD_eq_getElem?_getD] at this
    rw [List.getElem?_eq_getElem hn, List.getElem?_eq_getElem (by omega)] at this ⊢
    simpa using this
  · rw [List.getElem?_eq_none (by omega), List.getElem?_eq_none (by omega)]
theorem fn_out {a : List Int} {n : Nat} (h : a.length ≤ n) : fn a n = 0 := by
  show a.getD n 0 = 0
  rw [List.getD_eq_getElem?_getD, List.getElem?_eq_none h]
  rfl
theorem pit_conv (a b : List Int) (n : Nat) : pit a b n = conv n (fn a) (fn b) := sum_conv n (fn a) (fn b)
theorem fn_mul {a b : List Int} {n : Nat} (h : n < a.length) : fn (mulS a b) n = conv n (fn a) (fn b) := by
  show (mulS a b).getD n 0 = _
  unfold mulS
  rw [List.getD_eq_getElem?_getD, List.getElem?_map, List.getElem?_range h]
  exact pit_conv a b n
theorem mul_comm_row {a b : List Int} (h : a.length = b.length) : mulS b a = mulS a b := by
  refine row_ext (by rw [mulS_len, mulS_len, h]) fun n hn => ?_
  rw [mulS_len] at hn
  rw [fn_mul hn, fn_mul (by omega), conv_comm]
theorem fn_unit {m n : Nat} : fn (unitS m) n = one n := by
  cases n with
  | zero => rfl
  | succ n =>
    show (1 :: List.replicate (m - 1) 0 : List Int).getD (n + 1) 0 = 0
    rw [List.getD_eq_getElem?_getD, List.getElem?_cons_succ]
    by_cases h : n < m - 1
    · rw [List.getElem?_replicate_of_lt h]
      rfl
    · rw [List.getElem?_eq_none (by rw [List.length_replicate]; omega)]
      rfl
theorem fn_pow {b : List Int} (h : 1 ≤ b.length) : ∀ (k n : Nat), n < b.length → fn (powS b k) n = pw (fn b) k n
  | 0, n, hn => fn_unit
  | k + 1, n, hn => by
    show fn (mulS (powS b k) b) n = conv n (pw (fn b) k) (fn b)
    rw [fn_mul (by rw [pow_len h]; exact hn)]
    exact conv_congr n (fun i hi => fn_pow h k i (by omega)) fun _ _ => rfl
theorem fn_step {x : Int} {f p : List Int} (hl : f.length = p.length) (n : Nat) : fn (stepP x f p) n = fn f n + x * fn p n := by
  show (List.zipWith _ f p).getD n 0 = f.getD n 0 + x * p.getD n 0
  rw [List.getD_eq_getElem?_getD, List.getD_eq_getElem?_getD, List.getD_eq_getElem?_getD, List.getElem?_zipWith]
  by_cases h : n < f.length
  · rw [List.getElem?_eq_getElem h, List.getElem?_eq_getElem (by omega : n < p.length)]
    rfl
  · rw [List.getElem?_eq_none (by omega : f.length ≤ n), List.getElem?_eq_none (by omega : p.length ≤ n)]
    simp
theorem fn_zero (m n : Nat) : fn (List.replicate m (0 : Int)) n = 0 := by
  show (List.replicate m (0 : Int)).getD n 0 = 0
  rw [List.getD_eq_getElem?_getD]
  by_cases h : n < m
  · rw [List.getElem?_replicate_of_lt h]
    rfl
  · rw [List.getElem?_eq_none (by rw [List.length_replicate]; omega)]
    rfl
theorem fn_putF {a b : List Int} (h : 1 ≤ b.length) (hl : a.length = b.length) : ∀ (i n : Nat), n < b.length → fn (putF a b i) n = ssum (fn b) i (fn a) one n
  | 0, n, hn => fn_zero _ _
  | i + 1, n, hn => by
    show fn (stepP (a.getD i 0) (putF a b i) (powS b i)) n = _
    rw [fn_step (by rw [putF_len h hl, pow_len h, hl]), fn_putF h hl i n hn, ssum_last, conv_one, fn_pow h i n hn]
theorem fn_horI {x : Int} {t : List Int} (h : 1 ≤ t.length) (n : Nat) : fn (horI x t) n = x * one n + fn t n := by
  cases n with
  | zero =>
    show t.getD 0 0 + x = x * 1 + t.getD 0 0
    omega
  | succ n =>
    show (t.drop 1).getD n 0 = x * 0 + t.getD (n + 1) 0
    rw [List.getD_eq_getElem?_getD, List.getD_eq_getElem?_getD, List.getElem?_drop, Nat.add_comm 1 n, Int.mul_zero, Int.zero_add]
theorem fn_hor {a b : List Int} (h : 1 ≤ a.length) (hl : a.length = b.length) : ∀ (i n : Nat), i ≤ a.length → n < a.length → fn (horL a b i) n = hor i (fun j => fn a (a.length - i + j)) (fn b) n
  | 0, n, hi, hn => fn_zero _ _
  | i + 1, n, hi, hn => by
    show fn (horI (a.getD (a.length - 1 - i) 0) (mulS (horL a b i) b)) n = _
    rw [fn_horI (by rw [mulS_len, hor_len h]; exact h), fn_mul (by rw [hor_len h]; exact hn)]
    show _ = fn a (a.length - (i + 1) + 0) * one n + conv n (hor i (fun j => fn a (a.length - (i + 1) + (j + 1))) (fn b)) (fn b)
    rw [show a.length - (i + 1) + 0 = a.length - 1 - i from by omega]
    congr 1
    refine conv_congr n (fun j hj => ?_) fun _ _ => rfl
    rw [fn_hor h hl i j (by omega) (by omega)]
    congr 1
    funext j
    rw [show a.length - (i + 1) + (j + 1) = a.length - i + j from by omega]
theorem hor_all {a b : List Int} (h : 1 ≤ a.length) (hl : a.length = b.length) {n : Nat} (hn : n < a.length) : fn (horL a b a.length) n = hor a.length (fn a) (fn b) n := by
  rw [fn_hor h hl a.length n (Nat.le_refl _) hn]
  congr 1
  funext j
  rw [Nat.sub_self, Nat.zero_add]
theorem put_eq {a b : List Int} (h : 1 ≤ a.length) (hl : a.length = b.length) : horL a b a.length = putF a b a.length := by
  refine row_ext (by rw [hor_len h, putF_len (by omega) hl]) fun n hn => ?_
  rw [hor_len h] at hn
  rw [hor_all h hl hn, fn_putF (by omega) hl _ _ (by omega), ssum_hor, conv_one]
/-- hor looks at the first items alone -/
theorem hor_congr : ∀ (N : Nat) {f f' b : Nat → Int} (n : Nat), (∀ i, i < N → f i = f' i) → hor N f b n = hor N f' b n
  | 0, f, f', b, n, h => rfl
  | N + 1, f, f', b, n, h => by
    show f 0 * one n + conv n (hor N (fun i => f (i + 1)) b) b = f' 0 * one n + conv n (hor N (fun i => f' (i + 1)) b) b
    rw [h 0 (Nat.zero_lt_succ _), conv_congr n (fun i _ => hor_congr N i fun j hj => h (j + 1) (Nat.succ_lt_succ hj)) fun _ _ => rfl]
theorem pput_eq {a c r : List Int} (h : 1 ≤ a.length) (hc : a.length = c.length) (hr : a.length = r.length) (h0 : r.getD 0 0 = 0) : putF (mulS a c) r (mulS a c).length = mulS (horL a r a.length) (horL c r c.length) := by
  have lm := mulS_len a c
  rw [← put_eq (by omega) (by omega)]
  refine row_ext (by rw [hor_len (by omega), mulS_len, mulS_len, hor_len h]) fun n hn => ?_
  rw [hor_len (by omega), lm] at hn
  rw [hor_all (by omega) (by omega) (by omega), fn_mul (by rw [hor_len h]; exact hn), lm]
  rw [hor_congr a.length n fun i hi => fn_mul hi, hor_mul a.length (fn a) (fn c) (fn r) n h0 hn]
  refine conv_congr n (fun i hi => (hor_all h hr (by omega)).symm) fun i hi => ?_
  rw [hor_all (by omega) (by omega) (by omega), hc]
/-! ### others -/
theorem oth_at {a : List Int} : ∀ {m j : Nat}, j ≤ m → (oth a m).getD j 0 = (oth a j).getD j 0
  | 0, j, h => by
    have : j = 0 := by omega
    subst this
    rfl
  | m + 1, j, h => by
    by_cases e : j = m + 1
    · rw [e]
    · show (oth a m ++ [_]).getD j 0 = _
      rw [List.getD_eq_getElem?_getD, List.getElem?_append_left (by rw [oth_len]; omega), ← List.getD_eq_getElem?_getD]
      exact oth_at (by omega)
def X (a : List Int) (n : Nat) : Int := (oth a n).getD n 0
theorem X_succ (a : List Int) (n : Nat) : X a (n + 1) = -(a.getD 0 0) * conv n (fun i => fn a (i + 1)) (X a) := by
  show (oth a n ++ [_]).getD (n + 1) 0 = _
  rw [List.getD_eq_getElem?_getD, List.getElem?_append_right (by rw [oth_len]; exact Nat.le_refl _), oth_len, Nat.sub_self]
  show -(a.getD 0 0) * _ = _
  rw [← sum_conv n (fun i => fn a (i + 1)) (X a)]
  congr 2
  apply List.map_congr_left
  intro i hi
  show a.getD (i + 1) 0 * _ = a.getD (i + 1) 0 * X a (n - i)
  rw [oth_at (Nat.sub_le _ _)]
  rfl
theorem fn_oth {a : List Int} {n : Nat} (h : n < a.length) : fn (othS a) n = X a n := by
  show (oth a (a.length - 1)).getD n 0 = _
  exact oth_at (by omega)
theorem one_sq {z : Int} (h : isOne z = true) : z * z = 1 := by
  unfold isOne at h
  simp only [Bool.or_eq_true, decide_eq_true_eq] at h
  rcases h with e | e <;> rw [e] <;> rfl
/-- the row times its other is the unit -/
theorem oth_unit {a : List Int} (h : isOne (a.getD 0 0) = true) : ∀ n, conv n (fn a) (X a) = one n
  | 0 => one_sq h
  | n + 1 => by
    show fn a 0 * X a (n + 1) + conv n (fun i => fn a (i + 1)) (X a) = 0
    rw [X_succ, ← Int.mul_assoc, show fn a 0 * -(a.getD 0 0) = -(a.getD 0 0 * a.getD 0 0) from Int.mul_neg _ _, one_sq h]
    omega
/-- what makes the unit with it is the other -/
theorem oth_uniq {a : List Int} {g : Nat → Int} (h : isOne (a.getD 0 0) = true) : ∀ (n : Nat), (∀ i, i ≤ n → conv i (fn a) g = one i) → g n = X a n
  | 0, hg => by
    have h0 := hg 0 (Nat.le_refl _)
    have h1 := oth_unit h 0
    have h0' : fn a 0 * g 0 = 1 := h0
    have h1' : fn a 0 * X a 0 = 1 := h1
    have e := one_sq h
    calc g 0 = (a.getD 0 0 * a.getD 0 0) * g 0 := by rw [e, Int.one_mul]
      _ = a.getD 0 0 * (fn a 0 * g 0) := Int.mul_assoc _ _ _
      _ = a.getD 0 0 * (fn a 0 * X a 0) := by rw [h0', h1']
      _ = (a.getD 0 0 * a.getD 0 0) * X a 0 := (Int.mul_assoc _ _ _).symm
      _ = X a 0 := by rw [e, Int.one_mul]
  | n + 1, hg => by
    have ih : ∀ i, i ≤ n → g i = X a i := fun i hi => oth_uniq h i fun j hj => hg j (by omega)
    have h0 : fn a 0 * g (n + 1) + conv n (fun i => fn a (i + 1)) g = 0 := hg (n + 1) (Nat.le_refl _)
    have h1 : fn a 0 * X a (n + 1) + conv n (fun i => fn a (i + 1)) (X a) = 0 := oth_unit h (n + 1)
    rw [conv_congr n (fun _ _ => rfl) ih] at h0
    have h2 : fn a 0 * g (n + 1) = fn a 0 * X a (n + 1) := by omega
    have e := one_sq h
    calc g (n + 1) = (a.getD 0 0 * a.getD 0 0) * g (n + 1) := by rw [e, Int.one_mul]
      _ = a.getD 0 0 * (fn a 0 * g (n + 1)) := Int.mul_assoc _ _ _
      _ = a.getD 0 0 * (fn a 0 * X a (n + 1)) := by rw [h2]
      _ = (a.getD 0 0 * a.getD 0 0) * X a (n + 1) := (Int.mul_assoc _ _ _).symm
      _ = X a (n + 1) := by rw [e, Int.one_mul]
theorem oth_mul {a : List Int} (h1 : 1 ≤ a.length) (h : isOne (a.getD 0 0) = true) : mulS (othS a) a = unitS a.length := by
  have lo := oth_lenS h1
  refine row_ext (by rw [mulS_len, lo, unit_len h1]) fun n hn => ?_
  rw [mulS_len] at hn
  rw [fn_mul hn, fn_unit, conv_comm, ← oth_unit h n]
  exact conv_congr n (fun _ _ => rfl) fun i hi => fn_oth (by omega)
theorem oth_back {a : List Int} (h1 : 1 ≤ a.length) (h : isOne (a.getD 0 0) = true) : isOne ((othS a).getD 0 0) = true ∧ othS (othS a) = a := by
  have lo := oth_lenS h1
  have e0 : (othS a).getD 0 0 = a.getD 0 0 := fn_oth (a := a) (n := 0) (by omega)
  have hh : isOne ((othS a).getD 0 0) = true := by rw [e0]; exact h
  refine ⟨hh, row_ext (by rw [oth_lenS (by omega), lo]) fun n hn => ?_⟩
  rw [oth_lenS (by omega), lo] at hn
  rw [fn_oth (by omega)]
  refine (oth_uniq (a := othS a) hh n fun i hi => ?_).symm
  rw [conv_comm, ← oth_unit h i]
  exact conv_congr i (fun _ _ => rfl) fun j hj => fn_oth (by omega)
end K83
end
section
set_option Elab.async false
set_option linter.all false
set_option maxRecDepth 100000
set_option maxHeartbeats 1000000
set_option autoImplicit false
/-! k83, part o: how great the items may be. -/
namespace K83
open Ser83 PySem DL
def FB (a : Nat) (f : Nat → Int) : Prop := ∀ n, (f n).natAbs < 2 ^ (a + 20 * n)
abbrev GB (a : Nat) (r : List Int) : Prop := FB a (fn r)
theorem log_lt {m k : Nat} (hk : 0 < k) (h : m < 2 ^ k) : m.log2 < k := by
  by_cases hz : m = 0
  · rw [hz]
    exact hk
  · exact (Nat.log2_lt hz).mpr h
theorem conv_bd : ∀ (n a b : Nat) (f g : Nat → Int), FB a f → FB b g → (conv n f g).natAbs < (n + 1) * 2 ^ (a + b + 20 * n)
  | 0, a, b, f, g, hf, hg => by
    show (f 0 * g 0).natAbs < _
    rw [Int.natAbs_mul]
    have h1 := hf 0
    have h2 := hg 0
    have e : (2 : Nat) ^ (a + b + 20 * 0) = 2 ^ (a + 20 * 0) * 2 ^ (b + 20 * 0) := by rw [← Nat.pow_add]; congr 1
    rw [e, Nat.zero_add, Nat.one_mul]
    exact Nat.mul_lt_mul'' h1 h2
  | n + 1, a, b, f, g, hf, hg => by
    show (f 0 * g (n + 1) + conv n (fun i => f (i + 1)) g).natAbs < _
    have h1 := hf 0
    have h2 := hg (n + 1)
    have h3 := conv_bd n (a + 20) b (fun i => f (i + 1)) g (fun i => by
      have := hf (i + 1)
      rw [show a + 20 + 20 * i = a + 20 * (i + 1) from by omega]
      exact this) hg
    have e : (2 : Nat) ^ (a + b + 20 * (n + 1)) = 2 ^ (a + 20 * 0) * 2 ^ (b + 20 * (n + 1)) := by rw [← Nat.pow_add]; congr 1; omega
    have h4 : (f 0 * g (n + 1)).natAbs < 2 ^ (a + b + 20 * (n + 1)) := by
      rw [Int.natAbs_mul, e]
      exact Nat.mul_lt_mul'' h1 h2
    rw [show a + 20 + b + 20 * n = a + b + 20 * (n + 1) from by omega] at h3
    have h5 := Int.natAbs_add_le (f 0 * g (n + 1)) (conv n (fun i => f (i + 1)) g)
    have e2 : (n + 1 + 1) * 2 ^ (a + b + 20 * (n + 1)) = (n + 1) * 2 ^ (a + b + 20 * (n + 1)) + 2 ^ (a + b + 20 * (n + 1)) := Nat.succ_mul _ _
    omega
theorem mul_bd {a b : Nat} {r s : List Int} (hl : r.length ≤ 16) (hr : GB a r) (hs : GB b s) : GB (a + b + 4) (mulS r s) := fun n => by
  by_cases h : n < r.length
  · rw [fn_mul h]
    refine Nat.lt_of_lt_of_le (conv_bd n a b _ _ hr hs) ?_
    rw [show a + b + 4 + 20 * n = 4 + (a + b + 20 * n) from by omega, Nat.pow_add 2 4 (a + b + 20 * n)]
    exact Nat.mul_le_mul_right _ (by omega)
  · rw [fn_out (by rw [mulS_len]; omega)]
    exact Nat.two_pow_pos _
theorem unit_bd (m : Nat) : GB 1 (unitS m) := fun n => by
  rw [fn_unit]
  cases n with
  | zero => decide
  | succ n => exact Nat.two_pow_pos _
theorem pow_bd {a : Nat} {r : List Int} (h1 : 1 ≤ r.length) (hl : r.length ≤ 16) (hr : GB a r) : ∀ k, GB (1 + k * (a + 4)) (powS r k)
  | 0 => by
    rw [Nat.zero_mul]
    exact unit_bd _
  | k + 1 => by
    have h := mul_bd (by rw [pow_len h1]; exact hl) (pow_bd h1 hl hr k) hr
    rw [show 1 + (k + 1) * (a + 4) = 1 + k * (a + 4) + a + 4 from by rw [Nat.succ_mul]; omega]
    exact h
theorem gb_mem {a : Nat} {r : List Int} (hr : GB a r) (hl : r.length ≤ 16) {x : Int} (hx : x ∈ r) : x.natAbs < 2 ^ (a + 300) := by
  obtain ⟨i, hi, rfl⟩ := List.mem_iff_getElem.mp hx
  have h := hr i
  have e : fn r i = r[i] := by
    show r.getD i 0 = _
    rw [List.getD_eq_getElem?_getD, List.getElem?_eq_getElem hi]
    rfl
  rw [e] at h
  exact Nat.lt_of_lt_of_le h (Nat.pow_le_pow_right (by decide) (by omega))
theorem gb_log {a : Nat} {r : List Int} (hr : GB a r) (ha : a ≤ 1600) (hl : r.length ≤ 16) {x : Int} (hx : x ∈ r) : x.natAbs.log2 < 1920 :=
  log_lt (by decide) (Nat.lt_of_lt_of_le (gb_mem hr hl hx) (Nat.pow_le_pow_right (by decide) (by omega)))
theorem gb_sm {a : Nat} {r : List Int} (hr : GB a r) (ha : a ≤ 1600) (hl : r.length ≤ 16) : Sm r := fun x hx => Nat.lt_trans (gb_log hr ha hl hx) (by decide)
theorem gb_show {a : Nat} {r : List Int} (hr : GB a r) (ha : a ≤ 1600) (hl : r.length ≤ 16) : PyData.showableAll (r.map PyData.int) = true := by
  have : ∀ l : List Int, (∀ x, x ∈ l → x.natAbs.log2 < 1920) → PyData.showableAll (l.map PyData.int) = true := fun l => by
    induction l with
    | nil => intro _; rfl
    | cons x l ih =>
      intro h
      have h1 := h x List.mem_cons_self
      have h2 := ih fun y hy => h y (List.mem_cons_of_mem _ hy)
      rw [List.map_cons]
      simp only [PyData.showableAll, PyData.showable, Bool.and_eq_true, decide_eq_true_eq]
      exact ⟨h1, h2⟩
  exact this r fun x hx => gb_log hr ha hl hx
theorem gb_seen {a : Nat} {r : List Int} (hr : GB a r) (ha : a ≤ 1600) (hl : r.length ≤ 16) : SeenOk (ti r) := by
  refine ⟨by simpa using hl, fun x hx => ?_⟩
  obtain ⟨i, hi, rfl⟩ := List.mem_map.mp hx
  have := gb_log hr ha hl hi
  simpa [isSc] using this
/-- within a million -/
theorem mil_bd {r : List Int} (h : ∀ x, x ∈ r → -1000000 ≤ x ∧ x ≤ 1000000) : GB 20 r := fun n => by
  by_cases hn : n < r.length
  · have e : fn r n = r[n] := by
      show r.getD n 0 = _
      rw [List.getD_eq_getElem?_getD, List.getElem?_eq_getElem hn]
      rfl
    have hm := h r[n] (List.getElem_mem hn)
    rw [e]
    refine Nat.lt_of_lt_of_le (show r[n].natAbs < 2 ^ 20 from ?_) (Nat.pow_le_pow_right (by decide) (by omega))
    have : (2 : Nat) ^ 20 = 1048576 := by decide
    omega
  · rw [fn_out (by omega)]
    exact Nat.two_pow_pos _
/-! ### others -/
theorem geo (n : Nat) : ∀ (f g : Nat → Int), (∀ i, (f i).natAbs ≤ 1000000) → (∀ i, i ≤ n → (g i).natAbs ≤ 2 ^ (20 * i)) → (conv n f g).natAbs < 2 ^ (20 * (n + 1)) := by
  induction n with
  | zero =>
    intro f g hf hg
    show (f 0 * g 0).natAbs < _
    rw [Int.natAbs_mul]
    have h1 := hf 0
    have h2 := hg 0 (Nat.le_refl _)
    have h3 := Nat.mul_le_mul h1 h2
    exact Nat.lt_of_le_of_lt h3 (by decide)
  | succ n ih =>
    intro f g hf hg
    show (f 0 * g (n + 1) + conv n (fun i => f (i + 1)) g).natAbs < _
    have h1 := hf 0
    have h2 := hg (n + 1) (Nat.le_refl _)
    have h3 := ih (fun i => f (i + 1)) g (fun i => hf (i + 1)) fun i hi => hg i (by omega)
    have h4 : (f 0 * g (n + 1)).natAbs ≤ 1000000 * 2 ^ (20 * (n + 1)) := by
      rw [Int.natAbs_mul]
      exact Nat.mul_le_mul h1 h2
    have h5 := Int.natAbs_add_le (f 0 * g (n + 1)) (conv n (fun i => f (i + 1)) g)
    have e : (2 : Nat) ^ (20 * (n + 1 + 1)) = 1048576 * 2 ^ (20 * (n + 1)) := by
      rw [show 20 * (n + 1 + 1) = 20 + 20 * (n + 1) from by omega, Nat.pow_add 2 20 (20 * (n + 1))]
    omega
theorem X_bd {a : List Int} (h0 : isOne (a.getD 0 0) = true) (h : ∀ i, (fn a i).natAbs ≤ 1000000) : ∀ n, (X a n).natAbs ≤ 2 ^ (20 * n) := by
  have h1 : (a.getD 0 0).natAbs = 1 := by
    unfold isOne at h0
    simp only [Bool.or_eq_true, decide_eq_true_eq] at h0
    rcases h0 with z | z <;> rw [z] <;> rfl
  have go : ∀ m n, n ≤ m → (X a n).natAbs ≤ 2 ^ (20 * n) := by
    intro m
    induction m with
    | zero =>
      intro n hn
      have : n = 0 := by omega
      subst this
      show (a.getD 0 0).natAbs ≤ 1
      omega
    | succ m ih =>
      intro n hn
      cases n with
      | zero => exact ih 0 (Nat.zero_le _)
      | succ n =>
        rw [X_succ, Int.natAbs_mul, Int.natAbs_neg, h1, Nat.one_mul]
        exact Nat.le_of_lt (geo n _ _ (fun i => h (i + 1)) fun i hi => ih i (by omega))
  exact fun n => go n n (Nat.le_refl _)
theorem oth_bd {a : List Int} (h0 : isOne (a.getD 0 0) = true) (h : ∀ i, (fn a i).natAbs ≤ 1000000) (m : Nat) : GB 1 (oth a m) := fun n => by
  by_cases hn : n ≤ m
  · rw [show fn (oth a m) n = X a n from oth_at hn]
    refine Nat.lt_of_le_of_lt (X_bd h0 h n) ?_
    rw [show 1 + 20 * n = 20 * n + 1 from by omega, Nat.pow_succ]
    have := Nat.two_pow_pos (20 * n)
    omega
  · rw [fn_out (by rw [oth_len]; omega)]
    exact Nat.two_pow_pos _
/-! ### put -/
theorem horI_bd {c : Nat} {x : Int} {t : List Int} (h1 : 1 ≤ t.length) (hx : x.natAbs < 2 ^ c) (ht : GB c t) : GB (c + 1) (horI x t) := fun n => by
  rw [fn_horI h1]
  have h := ht n
  have e : (2 : Nat) ^ (c + 1 + 20 * n) = 2 ^ (c + 20 * n) + 2 ^ (c + 20 * n) := by
    rw [show c + 1 + 20 * n = (c + 20 * n) + 1 from by omega, Nat.pow_succ]
    omega
  cases n with
  | zero =>
    show (x * 1 + fn t 0).natAbs < _
    rw [Int.mul_one, e]
    have := Int.natAbs_add_le x (fn t 0)
    have hx' : x.natAbs < 2 ^ (c + 20 * 0) := hx
    omega
  | succ n =>
    show (x * 0 + fn t (n + 1)).natAbs < _
    rw [Int.mul_zero, Int.zero_add, e]
    omega
theorem hor_bd {c : Nat} {a b : List Int} (h1 : 1 ≤ a.length) (hl : a.length ≤ 16) (ha : ∀ i, (fn a i).natAbs < 2 ^ c) (hb : GB 20 b) : ∀ i, GB (c + 25 * i) (horL a b i)
  | 0 => fun n => by
    rw [show fn (horL a b 0) n = 0 from fn_zero _ _]
    exact Nat.two_pow_pos _
  | i + 1 => by
    have h := mul_bd (by rw [hor_len h1]; exact hl) (hor_bd h1 hl ha hb i) hb
    have h2 := horI_bd (c := c + 25 * i + 20 + 4) (x := a.getD (a.length - 1 - i) 0) (by rw [mulS_len, hor_len h1]; exact h1) (Nat.lt_of_lt_of_le (ha (a.length - 1 - i)) (Nat.pow_le_pow_right (by decide) (by omega))) h
    rw [show c + 25 * (i + 1) = c + 25 * i + 20 + 4 + 1 from by omega]
    exact h2
end K83
end
section
set_option Elab.async false
set_option linter.all false
set_option maxRecDepth 100000
set_option maxHeartbeats 1000000
set_option autoImplicit false
/-! k83, part p: what is asked may be asked. -/
namespace K83
open Ser83 PySem DL
/-- small enough to be shown within others -/
structure Sml (x : PyData) : Prop where
  sh : x.showable = true
  nd : x.hasDict = false
  w : wt x ≤ 40000
  d : x.depth ≤ 2
theorem sml_all {xs : List PyData} (h : ∀ x, x ∈ xs → Sml x) : PyData.showableAll xs = true ∧ PyData.hasDictAll xs = false ∧ wtL xs ≤ xs.length * 40002 ∧ PyData.depthAll xs ≤ 2 := by
  induction xs with
  | nil => exact ⟨rfl, rfl, Nat.zero_le _, Nat.zero_le _⟩
  | cons x xs ih =>
    obtain ⟨a1, a2, a3, a4⟩ := ih fun y hy => h y (List.mem_cons_of_mem _ hy)
    have hx := h x List.mem_cons_self
    refine ⟨?_, ?_, ?_, ?_⟩
    · simp only [PyData.showableAll, hx.sh, a1, Bool.and_self]
    · simp only [PyData.hasDictAll, hx.nd, a2, Bool.or_self]
    · have := hx.w
      simp only [wtL, List.length_cons, Nat.succ_mul]
      omega
    · have := hx.d
      simp only [PyData.depthAll]
      omega
/-- data that may be held beside another one -/
structure Mid (x : PyData) : Prop where
  sh : x.showable = true
  nd : x.hasDict = false
  w : wt x ≤ 8000000
  d : x.depth ≤ 90
theorem kept_mid {x y : PyData} (hx : Mid x) (hy : Mid y) : Kept x y := by
  have s : (PyData.list [x, y]).showable = true := by simp [PyData.showable, PyData.showableAll, hx.sh, hy.sh]
  refine .inl ⟨s, by simp [PyData.hasDict, PyData.hasDictAll, hx.nd, hy.nd], ?_, ?_⟩
  · have h1 := shown_wt _ s
    have h2 := hx.w
    have h3 := hy.w
    simp only [wt, wtL] at h1
    omega
  · have h2 := hx.d
    have h3 := hy.d
    simp only [PyData.depth, PyData.depthAll]
    omega
theorem mid_sml {x : PyData} (h : Sml x) : Mid x := ⟨h.sh, h.nd, Nat.le_trans h.w (by decide), Nat.le_trans h.d (by decide)⟩
theorem mid_tup {xs : List PyData} (h : ∀ x, x ∈ xs → Sml x) (hl : xs.length ≤ 20) : Mid (.tuple xs) := by
  obtain ⟨a1, a2, a3, a4⟩ := sml_all h
  refine ⟨by simpa [PyData.showable] using a1, by simpa [PyData.hasDict] using a2, ?_, ?_⟩
  · simp only [wt]
    omega
  · simp only [PyData.depth]
    omega
theorem mid_lst {xs : List PyData} (h : ∀ x, x ∈ xs → Sml x) (hl : xs.length ≤ 20) : Mid (.list xs) := by
  obtain ⟨a1, a2, a3, a4⟩ := sml_all h
  refine ⟨by simpa [PyData.showable] using a1, by simpa [PyData.hasDict] using a2, ?_, ?_⟩
  · simp only [wt]
    omega
  · simp only [PyData.depth]
    omega
theorem sml_int {i : Int} (h : i.natAbs.log2 < 1920) : Sml (.int i) := ⟨by simpa [PyData.showable] using h, by simp [PyData.hasDict], by simp [wt], by simp [PyData.depth]⟩
theorem sml_none : Sml .none := ⟨rfl, rfl, by simp [wt], by simp [PyData.depth]⟩
theorem sml_bool (b : Bool) : Sml (.bool b) := ⟨by simp [PyData.showable], by simp [PyData.hasDict], by simp [wt], by simp [PyData.depth]⟩
section
variable {a : Nat} {r : List Int}
theorem row_sml (hr : GB a r) (ha : a ≤ 1600) (hl : r.length ≤ 16) : ∀ x, x ∈ r.map PyData.int → Sml x := fun x hx => by
  obtain ⟨i, hi, rfl⟩ := List.mem_map.mp hx
  exact sml_int (gb_log hr ha hl hi)
theorem wt_ints (r : List Int) : wtL (r.map PyData.int) = 1923 * r.length := by
  induction r with
  | nil => rfl
  | cons x r ih =>
    rw [List.map_cons]
    simp only [wtL, wt, ih, List.length_cons]
    omega
theorem row_sml1 (hr : GB a r) (ha : a ≤ 1600) (hl : r.length ≤ 16) : Sml (ti r) := by
  obtain ⟨a1, a2, a3, a4⟩ := sml_all (row_sml hr ha hl)
  refine ⟨by simpa [PyData.showable] using a1, by simpa [PyData.hasDict] using a2, ?_, ?_⟩
  · simp only [wt, wt_ints]
    omega
  · simp only [PyData.depth, depth_ints]
    omega
theorem row_shows (hr : GB a r) (ha : a ≤ 1600) (hl : r.length ≤ 16) : Shows (ti r) := by
  have h := row_sml1 hr ha hl
  exact ⟨h.sh, h.nd, Nat.le_trans (shown_wt _ h.sh) (Nat.le_trans h.w (by decide)), Nat.le_trans h.d (by decide)⟩
end
/-- what series_error tells can be seen -/
theorem seen_err (d : PyData) : SeenOk (errD d) := by
  have form : SeenOk (.str "form") := by
    show isSc _ = true
    simp only [isSc]
    decide +kernel
  cases d with
  | tuple xs =>
    by_cases h : 1 ≤ xs.length ∧ xs.length ≤ 16
    · rw [show errD (.tuple xs) = (match odds xs with | [] => PyData.none | o :: _ => .tuple [.str "item", .int o]) from if_pos h]
      rcases first_of (oddR xs) xs.length with ⟨h1, h2⟩ | ⟨i, o, r, h1, h2, h3, h4⟩
      · rw [show odds xs = [] from h1]
        rfl
      · rw [show odds xs = o :: r from h4]
        obtain ⟨rfl, _⟩ := odd_at h2
        refine ⟨Nat.le_of_ble_eq_true rfl, fun x hx => ?_⟩
        rcases List.mem_cons.mp hx with e | hx
        · subst e
          simp only [isSc]
          decide +kernel
        · rw [List.mem_singleton.mp hx]
          have : ((i : Nat) : Int).natAbs = i := Int.natAbs_natCast i
          simp only [isSc, this]
          exact decide_eq_true (log_lt (by decide) (Nat.lt_of_lt_of_le (by omega : i < 2 ^ 5) (Nat.pow_le_pow_right (by decide) (by decide))))
    · rw [show errD (.tuple xs) = .str "form" from if_neg h]
      exact form
  | _ => exact form
theorem good_error {v : PyData} (h : Kept v .none) : Good (.error v) := ⟨⟨trivial, fun d hd => by cases hd; exact seen_err v⟩, h⟩
section
variable {a b : Nat} {r s : List Int}
theorem good_product (hr : GB a r) (hs : GB b s) (hl : r.length = s.length) (h2 : r.length ≤ 16) (hab : a + b + 4 ≤ 1600) : Good (.product r s) :=
  ⟨⟨⟨hl, h2, gb_sm hr (by omega) h2, gb_sm hs (by omega) (by omega)⟩, fun d hd => by cases hd; exact gb_seen (mul_bd h2 hr hs) hab (by rw [mulS_len]; exact h2)⟩,
    kept_mid (mid_sml (row_sml1 hr (by omega) h2)) (mid_sml (row_sml1 hs (by omega) (by omega)))⟩
theorem good_power (hr : GB a r) (h1 : 1 ≤ r.length) (h2 : r.length ≤ 16) (ha : a ≤ 1600) (k : Nat) (hk : k ≤ 100) (hka : 1 + k * (a + 4) ≤ 1600) : Good (.power r k) := by
  have hp : ∀ j, j ≤ k → GB (1 + k * (a + 4)) (powS r j) := fun j hj n => by
    refine Nat.lt_of_lt_of_le (pow_bd h1 h2 hr j n) (Nat.pow_le_pow_right (by decide) ?_)
    have := Nat.mul_le_mul_right (a + 4) hj
    omega
  refine ⟨⟨⟨h1, h2, hk, gb_sm hr ha h2, fun j hj => gb_sm (hp j hj) hka (by rw [pow_len h1]; exact h2)⟩, fun d hd => by cases hd; exact gb_seen (hp k (Nat.le_refl _)) hka (by rw [pow_len h1]; exact h2)⟩, kept_mid (mid_sml (row_sml1 hr ha h2)) (mid_sml (sml_int (i := (k : Nat)) ?_))⟩
  rw [Int.natAbs_natCast]
  exact log_lt (by decide) (Nat.lt_of_lt_of_le (by omega : k < 2 ^ 7) (Nat.pow_le_pow_right (by decide) (by decide)))
theorem good_row (hr : GB a r) (ha : a ≤ 1600) (h2 : r.length ≤ 16) : Good (.error (ti r)) := good_error (kept_mid (mid_sml (row_sml1 hr ha h2)) (mid_sml sml_none))
theorem good_other (hr : GB a r) (ha : a ≤ 1600) (h1 : 1 ≤ r.length) (h2 : r.length ≤ 16) (ho : isOne (r.getD 0 0) = true → ∀ m, m < r.length → GB b (oth r m)) (hb : b ≤ 1600) : Good (.other r) := by
  refine ⟨⟨⟨h1, h2, gb_sm hr ha h2, fun h0 m hm => gb_sm (ho h0 m hm) hb (by rw [oth_len]; omega)⟩, fun d hd => ?_⟩, kept_mid (mid_sml (row_sml1 hr ha h2)) (mid_sml sml_none)⟩
  have hd' : (if isOne (r.getD 0 0) = true then some (ti (othS r)) else none) = some d := hd
  by_cases h0 : isOne (r.getD 0 0) = true
  · rw [if_pos h0] at hd'
    cases hd'
    exact gb_seen (r := othS r) (ho h0 (r.length - 1) (by omega)) hb (by rw [oth_lenS h1]; omega)
  · rw [if_neg h0] at hd'
    cases hd'
theorem good_put (hr : GB a r) (ha : a ≤ 1600) (hs : GB 20 s) (h1 : 1 ≤ r.length) (h2 : r.length ≤ 16) (hl : r.length = s.length) {c : Nat} (hx : ∀ i, (fn r i).natAbs < 2 ^ c) (hc : c ≤ 1100) : Good (.put r s) := by
  refine ⟨⟨⟨hl, h1, h2, gb_sm hr ha h2, gb_sm hs (by decide) (by omega), fun _ j hj => gb_sm (pow_bd (by omega) (by omega) hs j) (by have := Nat.mul_le_mul_right (20 + 4) hj; omega) (by rw [pow_len (by omega)]; omega)⟩, fun d hd => ?_⟩, kept_mid (mid_sml (row_sml1 hr ha h2)) (mid_sml (row_sml1 hs (by decide) (by omega)))⟩
  have hd' : (if s.getD 0 0 = 0 then some (ti (putF r s r.length)) else none) = some d := hd
  by_cases h0 : s.getD 0 0 = 0
  · rw [if_pos h0] at hd'
    cases hd'
    rw [← put_eq h1 hl]
    exact gb_seen (hor_bd h1 h2 hx hs r.length) (by omega) (by rw [hor_len h1]; exact h2)
  · rw [if_neg h0] at hd'
    cases hd'
theorem good_put_no (hr : GB a r) (ha : a ≤ 1600) (hs : GB b s) (hb : b ≤ 1600) (h1 : 1 ≤ r.length) (h2 : r.length ≤ 16) (hl : r.length = s.length) (h0 : s.getD 0 0 ≠ 0) : Good (.put r s) := by
  refine ⟨⟨⟨hl, h1, h2, gb_sm hr ha h2, gb_sm hs hb (by omega), fun z => absurd z h0⟩, fun d hd => ?_⟩, kept_mid (mid_sml (row_sml1 hr ha h2)) (mid_sml (row_sml1 hs hb (by omega)))⟩
  have hd' : (if s.getD 0 0 = 0 then some (ti (putF r s r.length)) else none) = some d := hd
  rw [if_neg h0] at hd'
  cases hd'
end
/-! ### rows that are drawn -/
structure Rw (m : Nat) (r : List Int) : Prop where
  len : r.length = m
  l1 : 1 ≤ m
  l2 : m ≤ 16
  mil : ∀ x, x ∈ r → -1000000 ≤ x ∧ x ≤ 1000000
variable {m : Nat} {r s : List Int}
theorem Rw.gb (h : Rw m r) : GB 20 r := mil_bd h.mil
theorem Rw.abs (h : Rw m r) (i : Nat) : (fn r i).natAbs ≤ 1000000 := by
  by_cases hn : i < r.length
  · have e : fn r i = r[i] := by
      show r.getD i 0 = _
      rw [List.getD_eq_getElem?_getD, List.getElem?_eq_getElem hn]
      rfl
    have hm := h.mil r[i] (List.getElem_mem hn)
    rw [e]
    omega
  · rw [fn_out (by omega)]
    decide
theorem Rw.prods (hr : Rw m r) (hs : Rw m s) : Prods r s := by
  have h1 := hr.l1
  have h2 := hr.l2
  have l1 := hr.len
  have l2 := hs.len
  exact { l1 := by omega, l2 := by omega, le := by omega, sa := gb_sm hr.gb (by decide) (by omega), sb := gb_sm hs.gb (by decide) (by omega), comm := mul_comm_row (by omega), g1 := good_product hr.gb hs.gb (by omega) (by omega) (by decide), g2 := good_product hs.gb hr.gb (by omega) (by omega) (by decide),
          gp := fun k hk => good_power hr.gb (by omega) (by omega) (by decide) k (by omega) (by have := Nat.mul_le_mul_right (20 + 4) hk; omega) }
theorem Rw.othrs (hr : Rw m r) (hs : Rw m s) : Othrs r s := by
  have h1 := hr.l1
  have h2 := hr.l2
  have l1 := hr.len
  have l2 := hs.len
  have ob : isOne (r.getD 0 0) = true → ∀ k, GB 1 (oth r k) := fun h0 k => oth_bd h0 hr.abs k
  have lo : (othS r).length = r.length := oth_lenS (by omega)
  have bk : isOne (r.getD 0 0) = true → isOne ((othS r).getD 0 0) = true ∧ othS (othS r) = r := fun h0 => oth_back (by omega) h0
  -- the other's other, item by item, is row's begin
  have ob2 : isOne (r.getD 0 0) = true → ∀ k, k < (othS r).length → GB 20 (oth (othS r) k) := fun h0 k hk n => by
    by_cases hn : n ≤ k
    · have e1 : fn (oth (othS r) k) n = fn (othS (othS r)) n := by
        rw [fn_oth (by omega)]
        exact oth_at hn
      rw [e1, (bk h0).2]
      exact hr.gb n
    · rw [fn_out (by rw [oth_len]; omega)]
      exact Nat.two_pow_pos _
  refine { l1 := by omega, l2 := by omega, le := by omega, sa := gb_sm hr.gb (by decide) (by omega), sc := gb_sm hs.gb (by decide) (by omega), no := fun _ => good_other hr.gb (by decide) (by omega) (by omega) (fun h0 k _ => ob h0 k) (by decide),
           so := fun h0 k hk => gb_sm (ob h0 k) (by decide) (by rw [oth_len]; omega), g1 := fun _ => good_other hr.gb (by decide) (by omega) (by omega) (fun h0 k _ => ob h0 k) (by decide), back := bk,
           g2 := fun h0 => good_other (ob h0 _) (by decide) (by omega) (by omega) (fun _ k hk => ob2 h0 k hk) (by decide), unit := fun h0 => oth_mul (by omega) h0, g3 := fun h0 => good_product (ob h0 _) hr.gb (by omega) (by omega) (by decide),
           g4 := fun h0 => good_row (ob h0 _) (by decide) (by omega), g5 := fun h0 => good_product hs.gb (ob h0 _) (by omega) (by omega) (by decide),
           gp := fun h0 k hk => good_power (r := othS r) (ob h0 _) (by omega) (by omega) (by decide) k (by omega) (by have := Nat.mul_le_mul_right (1 + 4) hk; omega) }
theorem Rw.puts {a c : Nat} (hr : GB a r) (ha : a ≤ 1600) (hx : ∀ i, (fn r i).natAbs < 2 ^ c) (hc : c ≤ 1100) (hl : r.length = m) (hs : Rw m s) : Puts r s := by
  have h1 := hs.l1
  have h2 := hs.l2
  have l2 := hs.len
  exact { l1 := by omega, l2 := by omega, le := by omega, sb := gb_sm hs.gb (by decide) (by omega), sh := fun _ i hi => gb_sm (hor_bd (by omega) (by omega) hx hs.gb i) (by omega) (by rw [hor_len (by omega)]; omega), eq := fun _ => put_eq (by omega) (by omega),
          g := good_put hr ha hs.gb (by omega) (by omega) (by omega) hx hc }
theorem Rw.pput {p q : List Int} (hp : Rw m p) (hq : Rw m q) (hp2 : ∀ x, x ∈ p → -250 ≤ x ∧ x ≤ 250) (hq2 : ∀ x, x ∈ q → -250 ≤ x ∧ x ≤ 250) (hs : Rw m s) (h0 : s.getD 0 0 = 0) : PPuts p q s := by
  have h1 := hs.l1
  have h2 := hs.l2
  have l1 := hp.len
  have l2 := hq.len
  have l3 := hs.len
  have fx : ∀ {r : List Int} (h : Rw m r) (i : Nat), (fn r i).natAbs < 2 ^ 20 := fun h i => Nat.lt_of_le_of_lt (h.abs i) (by decide)
  have gm := mul_bd (by omega) hp.gb hq.gb
  have fm : ∀ i, (fn (mulS p q) i).natAbs < 2 ^ 344 := fun i => by
    by_cases hi : i < 16
    · exact Nat.lt_of_lt_of_le (gm i) (Nat.pow_le_pow_right (by decide) (by omega))
    · rw [fn_out (by rw [mulS_len]; omega)]
      exact Nat.two_pow_pos _
  have lm := mulS_len p q
  exact { l1 := by omega, l2 := by omega, le := by omega, lr := by omega, sr := gb_sm hs.gb (by decide) (by omega), sa := gb_sm hp.gb (by decide) (by omega), sc := gb_sm hq.gb (by decide) (by omega),
          ha := fun i hi => gb_sm (hor_bd (by omega) (by omega) (fx hp) hs.gb i) (by omega) (by rw [hor_len (by omega)]; omega), hc := fun i hi => gb_sm (hor_bd (by omega) (by omega) (fx hq) hs.gb i) (by omega) (by rw [hor_len (by omega)]; omega), r0 := h0,
          g1 := good_product hp.gb hq.gb (by omega) (by omega) (by decide), g2 := good_put gm (by decide) hs.gb (by omega) (by omega) (by omega) fm (by decide), eq := pput_eq (by omega) (by omega) (by omega) h0 }
end K83
end
section
set_option Elab.async false
set_option linter.all false
set_option maxRecDepth 100000
set_option maxHeartbeats 1000000
set_option autoImplicit false
/-! k83, part q: the bent values may be asked; the law. -/
namespace K83
open L2 PySem PySem.Spec PyProof.Rows DL Ser83
theorem small_int {i : Int} (h : i.natAbs ≤ 1000002) : Sml (.int i) := sml_int (log_lt (by decide) (Nat.lt_of_le_of_lt h (Nat.lt_of_lt_of_le (by decide : 1000002 < 2 ^ 20) (Nat.pow_le_pow_right (by decide) (by decide)))))
theorem sml_str {x : Str} (h : (reprText x).length ≤ 2000) : Sml (.str x) := ⟨by simp [PyData.showable], by simp [PyData.hasDict], by simp only [wt]; omega, by simp [PyData.depth]⟩
theorem odd_sml : ∀ x, x ∈ oddL → Sml x := by
  intro x hx
  unfold oddL at hx
  simp only [List.mem_cons, List.not_mem_nil, or_false] at hx
  rcases hx with e | e | e | e | e | e | e | e | e | e <;> subst e
  · exact sml_bool _
  · exact sml_bool _
  · exact sml_none
  · exact sml_str (by decide +kernel)
  · exact ⟨by decide, by decide, by simp [wt, wtL], by simp [PyData.depth, PyData.depthAll]⟩
  · exact ⟨by decide, by decide, by simp [wt, wtL], by simp [PyData.depth, PyData.depthAll]⟩
  · exact small_int (by decide)
  · exact small_int (by decide)
  · exact sml_int bigM_log
  · exact small_int (by decide)
theorem tf_sml : ∀ x, x ∈ tf → Sml x := by
  intro x hx
  unfold tf at hx
  simp only [List.mem_cons, List.not_mem_nil, or_false] at hx
  rcases hx with e | e <;> subst e <;> exact sml_bool _
theorem mm_sml : ∀ x, x ∈ mm → Sml x := by
  intro x hx
  unfold mm at hx
  simp only [List.mem_cons, List.not_mem_nil, or_false] at hx
  rcases hx with e | e <;> subst e <;> exact small_int (by decide)
variable {m : Nat} {r : List Int}
theorem bent_good {b : Bag} (h : Rw m r) : ∀ v, v ∈ bentF b r → Good (.error v) := by
  have l1 := h.len
  have h1 := h.l1
  have h2 := h.l2
  have rs := row_sml h.gb (by decide) (by omega)
  have rr := row_sml1 h.gb (by decide) (by omega)
  have lm : (r.map PyData.int).length = r.length := List.length_map _
  have tup : ∀ {xs : List PyData}, (∀ x, x ∈ xs → Sml x) → xs.length ≤ 20 → Good (.error (.tuple xs)) := fun hx hl => good_error (kept_mid (mid_tup hx hl) (mid_sml sml_none))
  have sml : ∀ {x : PyData}, Sml x → Good (.error x) := fun hx => good_error (kept_mid (mid_sml hx) (mid_sml sml_none))
  have rep : ∀ {i : Nat} {x : PyData}, Sml x → Good (.error (.tuple (rep1 r i x))) := fun {i x} hx => by
    refine tup (fun y hy => ?_) ?_
    · unfold rep1 at hy
      rcases List.mem_append.mp hy with z | z
      · rcases List.mem_append.mp z with z | z
        · exact rs y (List.mem_of_mem_take z)
        · rw [List.mem_singleton.mp z]
          exact hx
      · exact rs y (List.mem_of_mem_drop z)
    · unfold rep1
      rw [List.length_append, List.length_append, List.length_take, List.length_drop, lm]
      simp only [List.length_singleton]
      omega
  have pk : ∀ (b : Bag), Sml (pickF b oddL).1 := fun b => odd_sml _ (pick_mem (by decide))
  have ws : ∀ x, x ∈ wholeF r → Sml x := fun x hx => by
    unfold wholeF at hx
    rcases List.mem_append.mp hx with z | z
    · exact rs x z
    · rw [(List.mem_replicate.mp z).2]
      exact small_int (by decide)
  have lw : (wholeF r).length = 16 := by
    simp [wholeF]
    omega
  have cut : ∀ {x : PyData}, Sml x → Good (.error (.tuple ((wholeF r).take 15 ++ [x]))) := fun {x} hx => by
    refine tup (fun y hy => ?_) ?_
    · rcases List.mem_append.mp hy with z | z
      · exact ws y (List.mem_of_mem_take z)
      · rw [List.mem_singleton.mp z]
        exact hx
    · rw [List.length_append, List.length_take, lw]
      exact Nat.le_of_ble_eq_true rfl
  intro v hv
  unfold bentF at hv
  rcases List.mem_append.mp hv with hv | hv
  · rcases List.mem_append.mp hv with hv | hv
    · rcases List.mem_append.mp hv with hv | hv
      · rcases List.mem_append.mp hv with hv | hv
        · unfold bent1 at hv
          simp only [List.mem_cons, List.not_mem_nil, or_false] at hv
          rcases hv with e | e | e <;> subst e
          · exact sml rr
          · exact rep (pk _)
          · refine tup (fun y hy => ?_) ?_
            · rcases List.mem_append.mp hy with z | z
              · exact rs y (List.mem_of_mem_take z)
              · rw [List.mem_singleton.mp z]
                exact pk _
            · rw [List.length_append, List.length_take, lm]
              simp only [List.length_singleton]
              omega
        · unfold bent2 at hv
          simp only [List.mem_cons, List.not_mem_nil, or_false] at hv
          rcases hv with e | e | e | e | e <;> subst e
          · exact rep (small_int (by decide))
          · exact rep (small_int (by decide))
          · exact rep (tf_sml _ (pick_mem (by decide)))
          · exact rep (mm_sml _ (pick_mem (by decide)))
          · refine tup (fun y hy => ?_) (by rw [List.length_set, List.length_set, lm]; omega)
            rcases List.mem_or_eq_of_mem_set hy with z | z
            · rcases List.mem_or_eq_of_mem_set z with z | z
              · exact rs y z
              · rw [z]
                exact pk _
            · rw [z]
              exact pk _
      · unfold bent3 at hv
        simp only [List.mem_cons, List.not_mem_nil, or_false] at hv
        rcases hv with e | e | e | e | e <;> subst e
        · exact tup ws (by omega)
        · refine tup (fun y hy => ?_) (by rw [List.length_append, lw]; decide)
          rcases List.mem_append.mp hy with z | z
          · exact ws y z
          · rw [List.mem_singleton.mp z]
            exact small_int (by decide)
        · refine tup (fun y hy => ?_) (by rw [List.length_append, lw]; decide)
          rcases List.mem_append.mp hy with z | z
          · rw [List.mem_singleton.mp z]
            exact small_int (by decide)
          · exact ws y z
        · exact cut (sml_bool _)
        · exact cut (small_int (by decide))
    · unfold bent4 at hv
      simp only [List.mem_cons, List.not_mem_nil, or_false] at hv
      rcases hv with e | e | e | e | e | e | e | e | e | e | e | e <;> subst e
      · exact tup (fun y hy => by cases hy) (by decide)
      · exact good_error (kept_mid (mid_lst rs (by omega)) (mid_sml sml_none))
      · exact good_error (kept_mid (mid_lst (xs := [ti r]) (fun y hy => by rw [List.mem_singleton.mp hy]; exact rr) (Nat.le_of_ble_eq_true rfl)) (mid_sml sml_none))
      · exact tup (fun y hy => by rw [List.mem_singleton.mp hy]; exact rr) (Nat.le_of_ble_eq_true rfl)
      · -- the dict
        have h0 : (r.getD 0 0).natAbs.log2 < 1920 := by
          have := h.abs 0
          exact log_lt (by decide) (Nat.lt_of_le_of_lt this (Nat.lt_of_lt_of_le (by decide : 1000000 < 2 ^ 20) (Nat.pow_le_pow_right (by decide) (by decide))))
        have sh : PyData.showableAll [.dict [(.int 0, .int (r.getD 0 0))], .none] = true := by
          simp only [PyData.showableAll, PyData.showable, PyData.showableKv, Bool.and_eq_true, decide_eq_true_eq]
          exact ⟨⟨⟨by decide, h0⟩, trivial⟩, by decide⟩
        refine good_error (.inr ⟨by simp [flatL, flatD, flatK], sh, ?_, by simp [PyData.depth, PyData.depthAll, PyData.depthKv]⟩)
        have hw := shown_wt (.list [.dict [(.int 0, .int (r.getD 0 0))], .none]) (by simpa [PyData.showable] using sh)
        simp only [wt, wtL, wtK] at hw
        omega
      · exact sml sml_none
      · exact sml (sml_bool _)
      · exact sml (small_int (by decide))
      · exact sml (small_int (by decide))
      · exact sml (sml_str (by decide +kernel))
      · exact sml (sml_str (by decide +kernel))
      · have hsh := gb_show h.gb (by decide) (by omega)
        have hw := row_shown r hsh
        rw [wt_ints] at hw
        refine good_error (kept_mid ⟨by simp [PyData.showable], by simp [PyData.hasDict], ?_, by simp [PyData.depth]⟩ (mid_sml sml_none))
        simp only [wt]
        have e : (reprText (ti r).shown).length ≤ 10 * (1923 * r.length + 3) + 2 := hw
        omega
  · unfold bent5 at hv
    simp only [List.mem_cons, List.not_mem_nil, or_false] at hv
    rcases hv with e | e <;> subst e
    · have hs : ∀ x, x ∈ List.replicate 300 (PyData.int 0) → Sml x := fun x hx => by
        rw [(List.mem_replicate.mp hx).2]
        exact small_int (by decide)
      obtain ⟨a1, a2, a3, a4⟩ := sml_all hs
      have ew : wtL (List.replicate 300 (PyData.int 0)) = 1923 * 300 := by
        have := wt_ints (List.replicate 300 0)
        rw [List.map_replicate, List.length_replicate] at this
        exact this
      refine good_error (kept_mid ⟨by simpa [PyData.showable] using a1, by simpa [PyData.hasDict] using a2, ?_, ?_⟩ (mid_sml sml_none))
      · simp only [wt, ew]
        decide
      · simp only [PyData.depth]
        omega
    · exact sml ⟨by decide, by decide, by simp [wt, wtL], by simp [PyData.depth, PyData.depthAll]⟩
end K83
end
section
set_option Elab.async false
set_option linter.all false
set_option maxRecDepth 100000
set_option maxHeartbeats 1000000
set_option autoImplicit false
/-! k83, part r: the law's own def. -/
namespace K83
open L2 PySem PySem.Spec PyProof.Rows DL Ser83
variable {W : WD}
theorem ss_consE {c : Kx} {st : Stmt} {rest : List Stmt} {Γ Γ1 : List EV} {S S1 : List MO} {v : EV} (h : DS c st Γ S (.nx Γ1 S1)) (h2 : ∃ S', DSs c rest Γ1 S1 (.rt v S')) : ∃ S', DSs c (st :: rest) Γ S (.rt v S') :=
  let ⟨S', h3⟩ := h2
  ⟨S', ss_cons h h3⟩
/-- the law's questions -/
structure Qs (W : WD) : Prop where
  judged : Def W "_law_are_judged" ["bag", "row"] 14 R41
  products : Def W "_law_are_products" ["bag", "one", "other"] 14 R42
  others : Def W "_law_are_others" ["bag", "row", "beside"] 14 R43
  put : Def W "_law_are_put" ["one", "other"] 14 R44
  pput : Def W "_law_are_products_put" ["one", "other", "row"] 14 R45
theorem sc46 : FnScope ["script", "bag", "many", "one", "other", "odd", "own", "short", "shorter"] ["script"] (defScope (top 46)) := ⟨rfl, rfl, rfl, by decide +kernel, rfl, by decide +kernel, by decide +kernel⟩
theorem row_rw {kind : Int} {b : Bag} {m : Nat} (h1 : 1 ≤ m) (h2 : m ≤ 16) : Rw m (rowF kind b m).1 := ⟨rowF_len kind b m, h1, h2, row_range kind b m⟩
theorem item_small {kind : Int} {b : Bag} (hk : kind = 0 ∨ kind = 1) : -250 ≤ (itemF kind b).1 ∧ (itemF kind b).1 ≤ 250 := by
  unfold itemF
  rcases hk with rfl | rfl
  · rw [if_pos rfl]
    have := draw_range b (below := 7) (by decide)
    show -250 ≤ (drawF b 7).1 - 3 ∧ (drawF b 7).1 - 3 ≤ 250
    omega
  · rw [if_neg (by decide), if_pos rfl]
    have := draw_range b (below := 501) (by decide)
    show -250 ≤ (drawF b 501).1 - 250 ∧ (drawF b 501).1 - 250 ≤ 250
    omega
theorem row_small {kind : Int} {b : Bag} (hk : kind = 0 ∨ kind = 1) : ∀ i x, x ∈ (rowF kind b i).1 → -250 ≤ x ∧ x ≤ 250
  | 0, x, h => by cases h
  | i + 1, x, h => by
    rcases List.mem_append.mp h with z | z
    · exact row_small hk i x z
    · rw [List.mem_singleton.mp z]
      exact item_small hk
theorem cons_rw {m : Nat} {r : List Int} {x : Int} (h : Rw m r) (hx : -1000000 ≤ x ∧ x ≤ 1000000) : Rw m (x :: r.drop 1) := by
  have l1 := h.len
  have h1 := h.l1
  refine ⟨?_, h.l1, h.l2, fun y hy => ?_⟩
  · rw [List.length_cons, List.length_drop]
    omega
  · rcases List.mem_cons.mp hy with e | z
    · rw [e]; exact hx
    · exact h.mil y (List.mem_of_mem_drop z)
def ml (b : Bag) : List Int := [1, 2, 3, 16, 16, 16, 1 + (drawF b 16).1, 1 + (drawF (drawF b 16).2 16).1]
def pm1 : List Int := [1, -1]
def odd8 : List Int := [0, 2, -2, 3, 1000000, -1000000, -1, 1]
def five : List Int := [1, -1, 2, -7, 1000000]
theorem pm_mil (b : Bag) : (-1000000 ≤ (pickI b pm1).1 ∧ (pickI b pm1).1 ≤ 1000000) ∧ isOne (pickI b pm1).1 = true := by
  have h := pickI_mem (b := b) (ns := pm1) (by decide)
  generalize (pickI b pm1).1 = z at h
  unfold pm1 at h
  simp only [List.mem_cons, List.not_mem_nil, or_false] at h
  rcases h with e | e <;> rw [e] <;> decide
theorem odd8_mil (b : Bag) : -1000000 ≤ (pickI b odd8).1 ∧ (pickI b odd8).1 ≤ 1000000 := by
  have h := pickI_mem (b := b) (ns := odd8) (by decide)
  generalize (pickI b odd8).1 = z at h
  unfold odd8 at h
  simp only [List.mem_cons, List.not_mem_nil, or_false] at h
  rcases h with e | e | e | e | e | e | e | e <;> rw [e] <;> decide
theorem five_mil (b : Bag) : (-1000000 ≤ (pickI b five).1 ∧ (pickI b five).1 ≤ 1000000) ∧ (pickI b five).1 ≠ 0 := by
  have h := pickI_mem (b := b) (ns := five) (by decide)
  generalize (pickI b five).1 = z at h
  unfold five at h
  simp only [List.mem_cons, List.not_mem_nil, or_false] at h
  rcases h with e | e | e | e | e <;> rw [e] <;> decide
/-- put into a row that does not begin with 0 -/
theorem puts_no {m : Nat} {r s : List Int} {b : Nat} (hr : Rw m r) (hs : GB b s) (hb : b ≤ 1600) (hl : s.length = m) (h0 : s.getD 0 0 ≠ 0) : Puts r s := by
  have h1 := hr.l1
  have h2 := hr.l2
  have l1 := hr.len
  exact { l1 := by omega, l2 := by omega, le := by omega, sb := gb_sm hs hb (by omega), sh := fun z => absurd z h0, eq := fun z => absurd z h0, g := good_put_no hr.gb (by decide) hs hb (by omega) (by omega) (by omega) h0 }
def lg (a1 a2 a3 a4 a5 a6 a7 : EV) : List EV := [.und, .own 1, a1, a2, a3, a4, a5, a6, a7]
section
variable {c : Kx} {Γ : List EV} {S S1 : List MO} {a : Expr} {r : List Int} {q1 q2 q3 q4 q5 q6 : Pos} {k1 k2 k3 k4 : Nat}
/-- (0,) + r[1:] -/
theorem e_zero (h : DE c a Γ S (.val (ti r)) S) (h1 : 1 ≤ r.length) (h2 : r.length ≤ 16) : DE c (.BinOp (.Tuple [.Constant (.int 0) k1 q1] k2 q2) .Add (.Subscript a (.Slice (some (.Constant (.int 1) k3 q3)) none none q4) q5) q6) Γ S (.val (ti (0 :: r.drop 1))) S := by
  refine DE.eq (e_addt (ds := [.int 0]) (es := DL.cutD (r.map .int) (some 1) none) (e_tup (a_cons e_int a_nil)) (e_slt h (o_som e_int) o_non) ?_) ?_
  · rw [drop1, sizeLine_eq]
    simp
    omega
  · rw [drop1]
    rfl
end
theorem rest46 {E : Value → Option Addr → SL → Hp → Prop} (O : Own W) (Q : Qs W) (b : Bag) (hok : Ok b) :
    ∃ S', DSs ⟨W, ["script", "bag", "many", "one", "other", "odd", "own", "short", "shorter"], defScope (top 46), 16, true, fun _ => true, true, E⟩ ((defBody (top 46)).drop 1) (lg .und .und .und .und .und .und .und) (bagS b) (.rt (dB true) S') := by
  -- many
  have hm : 1 ≤ (pickI (drawF (drawF b 16).2 16).2 (ml b)).1 ∧ (pickI (drawF (drawF b 16).2 16).2 (ml b)).1 ≤ 16 := by
    have h := pickI_mem (b := (drawF (drawF b 16).2 16).2) (ns := ml b) (by show 1 ≤ 8; decide)
    have d1 := draw_range b (below := 16) (by decide)
    have d2 := draw_range (drawF b 16).2 (below := 16) (by decide)
    generalize (pickI (drawF (drawF b 16).2 16).2 (ml b)).1 = z at h
    unfold ml at h
    simp only [List.mem_cons, List.not_mem_nil, or_false] at h
    omega
  have hz : (((pickI (drawF (drawF b 16).2 16).2 (ml b)).1.toNat : Nat) : Int) = (pickI (drawF (drawF b 16).2 16).2 (ml b)).1 := by omega
  have o2 : Ok (drawF (drawF b 16).2 16).2 := draw_ok (draw_ok hok _) _
  have o3 : Ok (pickI (drawF (drawF b 16).2 16).2 (ml b)).2 := pickI_ok o2
  refine ss_consE (s_set 2 sc46.nd (Γ' := lg (dI ((pickI (drawF (drawF b 16).2 16).2 (ml b)).1.toNat : Nat)) .und .und .und .und .und .und) (S1 := bagS (pickI (drawF (drawF b 16).2 16).2 (ml b)).2) (DE.eq (e_callB (b := (drawF (drawF b 16).2 16).2) O.pick (a_cons (e_v 1) (a_cons (e_lst (ds := (ml b).map .int) (a_cons e_int (a_cons e_int (a_cons e_int (a_cons e_int (a_cons e_int (a_cons e_int (a_cons (S1 := bagS (drawF b 16).2) (e_add e_int (e_callB O.draw (a_cons (e_v 1) (a_cons e_int a_nil)) ⟨b, 16, rfl, rfl, hok, by decide, by decide +kernel, rfl⟩)) (a_cons (e_add e_int (e_callB O.draw (a_cons (e_v 1) (a_cons e_int a_nil)) ⟨(drawF b 16).2, 16, rfl, rfl, draw_ok hok _, by decide, by decide +kernel, rfl⟩)) a_nil))))))))) a_nil)) ⟨(drawF (drawF b 16).2 16).2, (ml b).map .int, rfl, rfl, o2, by show 1 ≤ 8; decide, by show 8 ≤ 1000; decide, by rw [pick_ints (by show 1 ≤ 8; decide)]⟩) (congrArg (fun z => dI z) hz.symm))) ?_
  generalize hmm : (pickI (drawF (drawF b 16).2 16).2 (ml b)).1.toNat = m at *
  have m1 : 1 ≤ m := by omega
  have m2 : m ≤ 16 := by omega
  clear hm hz hmm
  generalize (pickI (drawF (drawF b 16).2 16).2 (ml b)).2 = b1 at *
  clear o2
  -- one
  have p1 : Ok (rowF (drawF b1 5).1 (drawF b1 5).2 m).2 := rowF_ok (draw_ok o3 _) _
  refine ss_consE (s_set 3 sc46.nd (Γ' := lg (dI (m : Nat)) (.val (ti (rowF (drawF b1 5).1 (drawF b1 5).2 m).1)) .und .und .und .und .und) (S1 := bagS (rowF (drawF b1 5).1 (drawF b1 5).2 m).2) (e_callB (b := (drawF b1 5).2) O.row (a_cons (e_v 1) (a_cons (e_v 2) (a_cons (e_callB O.draw (a_cons (e_v 1) (a_cons e_int a_nil)) ⟨b1, 5, rfl, rfl, o3, by decide, by decide +kernel, rfl⟩) a_nil))) ⟨(drawF b1 5).2, m, (drawF b1 5).1, rfl, rfl, draw_ok o3 _, m2, rfl⟩)) ?_
  have ra : Rw m (rowF (drawF b1 5).1 (drawF b1 5).2 m).1 := row_rw m1 m2
  generalize (rowF (drawF b1 5).1 (drawF b1 5).2 m).1 = ro at *
  generalize (rowF (drawF b1 5).1 (drawF b1 5).2 m).2 = b2 at *
  clear o3
  -- other
  have p2 : Ok (rowF (drawF b2 5).1 (drawF b2 5).2 m).2 := rowF_ok (draw_ok p1 _) _
  refine ss_consE (s_set 4 sc46.nd (Γ' := lg (dI (m : Nat)) (.val (ti ro)) (.val (ti (rowF (drawF b2 5).1 (drawF b2 5).2 m).1)) .und .und .und .und) (S1 := bagS (rowF (drawF b2 5).1 (drawF b2 5).2 m).2) (e_callB (b := (drawF b2 5).2) O.row (a_cons (e_v 1) (a_cons (e_v 2) (a_cons (e_callB O.draw (a_cons (e_v 1) (a_cons e_int a_nil)) ⟨b2, 5, rfl, rfl, p1, by decide, by decide +kernel, rfl⟩) a_nil))) ⟨(drawF b2 5).2, m, (drawF b2 5).1, rfl, rfl, draw_ok p1 _, m2, rfl⟩)) ?_
  have rb : Rw m (rowF (drawF b2 5).1 (drawF b2 5).2 m).1 := row_rw m1 m2
  generalize (rowF (drawF b2 5).1 (drawF b2 5).2 m).1 = rt at *
  generalize (rowF (drawF b2 5).1 (drawF b2 5).2 m).2 = b3 at *
  clear p1
  have la := ra.len
  have lb := rb.len
  -- judged, products
  have p3 : Ok (b8 b3 ro) := by
    refine pick_ok (pick_ok (pick_ok (pick_ok (pick_ok (pick_ok ?_)))))
    exact draw_ok (draw_ok p2 _) _
  have p4 : Ok (kF (b8 b3 ro)).2 := pickI_ok (draw_ok p3 _)
  refine ss_consE (s_ifF (S1 := bagS (kF (b8 b3 ro)).2) (DT.eq (t_w (w_orF (DT.eq (t_not (t_val (e_callB (b' := b8 b3 ro) Q.judged (a_cons (e_v 1) (a_cons (e_v 3) a_nil)) ⟨b3, ro, rfl, rfl, p2, by omega, by omega, row_shows ra.gb (by decide) (by omega), bent_good ra, rfl⟩))) rfl) (w_or1 (t_not (t_val (e_callB (b' := (kF (b8 b3 ro)).2) Q.products (a_cons (e_v 1) (a_cons (e_v 3) (a_cons (e_v 4) a_nil))) ⟨b8 b3 ro, ro, rt, rfl, rfl, p3, ra.prods rb, rfl⟩)))))) rfl) ss_nil) ?_
  generalize (kF (b8 b3 ro)).2 = b4 at *
  clear p3 p2
  -- others of one
  have q1 : Ok (firstF b4 ro pm1).2 := pickI_ok p4
  have f1 : Rw m (firstF b4 ro pm1).1 := cons_rw ra (pm_mil b4).1
  have q2 : Ok (oF (firstF b4 ro pm1).2 (firstF b4 ro pm1).1) := oF_ok q1
  refine ss_consE (s_ifF (S1 := bagS (oF (firstF b4 ro pm1).2 (firstF b4 ro pm1).1)) (DT.eq (t_not (t_val (e_callB (b := (firstF b4 ro pm1).2) Q.others (a_cons (e_v 1) (a_cons (e_callB O.first (a_cons (e_v 1) (a_cons (e_v 3) (a_cons (e_lst (ds := pm1.map .int) (a_cons e_int (a_cons (e_neg e_int) a_nil))) a_nil))) ⟨b4, ro, pm1, rfl, rfl, p4, by omega, by decide, by decide, rfl⟩) (a_cons (e_v 4) a_nil))) ⟨(firstF b4 ro pm1).2, (firstF b4 ro pm1).1, rt, rfl, rfl, q1, f1.othrs rb, rfl⟩))) rfl) ss_nil) ?_
  generalize oF (firstF b4 ro pm1).2 (firstF b4 ro pm1).1 = b5 at *
  clear q1 f1 p4
  -- odd
  refine ss_consE (s_set 5 sc46.nd (Γ' := lg (dI (m : Nat)) (.val (ti ro)) (.val (ti rt)) (dL (odd8.map .int)) .und .und .und) (e_lst (ds := odd8.map .int) (a_cons e_int (a_cons e_int (a_cons (e_neg e_int) (a_cons e_int (a_cons e_int (a_cons (e_neg e_int) (a_cons (e_neg e_int) (a_cons e_int a_nil)))))))))) ?_
  have q3 : Ok (firstF b5 rt odd8).2 := pickI_ok q2
  have f2 : Rw m (firstF b5 rt odd8).1 := cons_rw rb (odd8_mil b5)
  have q4 : Ok (oF (firstF b5 rt odd8).2 (firstF b5 rt odd8).1) := oF_ok q3
  refine ss_consE (s_ifF (S1 := bagS (oF (firstF b5 rt odd8).2 (firstF b5 rt odd8).1)) (DT.eq (t_not (t_val (e_callB (b := (firstF b5 rt odd8).2) Q.others (a_cons (e_v 1) (a_cons (e_callB O.first (a_cons (e_v 1) (a_cons (e_v 4) (a_cons (e_v 5) a_nil))) ⟨b5, rt, odd8, rfl, rfl, q2, by omega, by decide, by decide, rfl⟩) (a_cons (e_v 3) a_nil))) ⟨(firstF b5 rt odd8).2, (firstF b5 rt odd8).1, ro, rfl, rfl, q3, f2.othrs ra, rfl⟩))) rfl) ss_nil) ?_
  generalize oF (firstF b5 rt odd8).2 (firstF b5 rt odd8).1 = b6 at *
  clear q3 f2 q2
  -- put
  have z1 : Rw m (0 :: rt.drop 1) := cons_rw rb (by decide)
  have z2 : Rw m (0 :: ro.drop 1) := cons_rw ra (by decide)
  have fx : ∀ {r : List Int} (h : Rw m r) (i : Nat), (fn r i).natAbs < 2 ^ 20 := fun h i => Nat.lt_of_le_of_lt (h.abs i) (by decide)
  refine ss_consE (s_ifF (DT.eq (t_not (t_val (e_fn Q.put (a_cons (e_v 3) (a_cons (e_zero (e_v 4) (by omega) (by omega)) a_nil)) ⟨ro, 0 :: rt.drop 1, rfl, rfl, Rw.puts ra.gb (by decide) (fx ra) (by decide) la z1, rfl⟩))) rfl) ss_nil) ?_
  have q5 : Ok (firstF b6 ro five).2 := pickI_ok q4
  have f3 : Rw m (firstF b6 ro five).1 := cons_rw ra (five_mil b6).1
  refine ss_consE (s_ifF (S1 := bagS (firstF b6 ro five).2) (DT.eq (t_not (t_val (e_fn Q.put (a_cons (e_v 4) (a_cons (e_callB O.first (a_cons (e_v 1) (a_cons (e_v 3) (a_cons (e_lst (ds := five.map .int) (a_cons e_int (a_cons (e_neg e_int) (a_cons e_int (a_cons (e_neg e_int) (a_cons e_int a_nil)))))) a_nil))) ⟨b6, ro, five, rfl, rfl, q4, by omega, by decide, by decide, rfl⟩) a_nil)) ⟨rt, (firstF b6 ro five).1, rfl, rfl, puts_no rb f3.gb (by decide) f3.len (five_mil b6).2, rfl⟩))) rfl) ss_nil) ?_
  generalize (firstF b6 ro five).2 = b7' at *
  clear f3 q4
  -- own
  have q6 : Ok (firstF b7' ro pm1).2 := pickI_ok q5
  have f4 : Rw m (firstF b7' ro pm1).1 := cons_rw ra (pm_mil b7').1
  have i4 : isOne ((firstF b7' ro pm1).1.getD 0 0) = true := (pm_mil b7').2
  have g4 : ∀ k, GB 1 (oth (firstF b7' ro pm1).1 k) := fun k => oth_bd i4 f4.abs k
  have l4 := f4.len
  have lo4 : (othS (firstF b7' ro pm1).1).length = (firstF b7' ro pm1).1.length := oth_lenS (by omega)
  have e4 : (othS (firstF b7' ro pm1).1).getD 0 0 = (firstF b7' ro pm1).1.getD 0 0 := fn_oth (a := (firstF b7' ro pm1).1) (n := 0) (by omega)
  refine ss_consE (s_set 6 sc46.nd (Γ' := lg (dI (m : Nat)) (.val (ti ro)) (.val (ti rt)) (dL (odd8.map .int)) (.val (ti (othS (firstF b7' ro pm1).1))) .und .und) (S1 := bagS (firstF b7' ro pm1).2) (e_fn O.other (a_cons (e_callB O.first (a_cons (e_v 1) (a_cons (e_v 3) (a_cons (e_lst (ds := pm1.map .int) (a_cons e_int (a_cons (e_neg e_int) a_nil))) a_nil))) ⟨b7', ro, pm1, rfl, rfl, q5, by omega, by decide, by decide, rfl⟩) a_nil) ⟨(firstF b7' ro pm1).1, rfl, rfl, by omega, by omega, gb_sm f4.gb (by decide) (by omega), i4, fun k hk => gb_sm (g4 k) (by decide) (by rw [oth_len]; omega), rfl⟩)) ?_
  have go : GB 1 (othS (firstF b7' ro pm1).1) := g4 _
  have no : (othS (firstF b7' ro pm1).1).getD 0 0 ≠ 0 := by
    rw [e4]
    intro z
    rw [z] at i4
    cases i4
  have lo5 : (othS (firstF b7' ro pm1).1).length = m := by omega
  generalize othS (firstF b7' ro pm1).1 = ow at *
  generalize (firstF b7' ro pm1).2 = b9 at *
  clear f4 i4 g4 q5 l4 lo4 e4
  have fo : ∀ i, (fn ow i).natAbs < 2 ^ 301 := fun i => by
    by_cases hi : i < 16
    · exact Nat.lt_of_lt_of_le (go i) (Nat.pow_le_pow_right (by decide) (by omega))
    · rw [fn_out (by omega)]
      exact Nat.two_pow_pos _
  refine ss_consE (s_ifF (DT.eq (t_w (w_orF (DT.eq (t_not (t_val (e_fn Q.put (a_cons (e_v 6) (a_cons (e_zero (e_v 4) (by omega) (by omega)) a_nil)) ⟨ow, 0 :: rt.drop 1, rfl, rfl, Rw.puts go (by decide) fo (by decide) lo5 z1, rfl⟩))) rfl) (w_or1 (t_not (t_val (e_fn Q.put (a_cons (e_v 4) (a_cons (e_v 6) a_nil)) ⟨rt, ow, rfl, rfl, puts_no rb go (by decide) lo5 no, rfl⟩)))))) rfl) ss_nil) ?_
  -- short, shorter
  have kd : (drawF b9 2).1 = 0 ∨ (drawF b9 2).1 = 1 := by
    have := draw_range b9 (below := 2) (by decide)
    omega
  have q7 : Ok (rowF (drawF b9 2).1 (drawF b9 2).2 m).2 := rowF_ok (draw_ok q6 _) _
  refine ss_consE (s_par 7 8 (Γ' := lg (dI (m : Nat)) (.val (ti ro)) (.val (ti rt)) (dL (odd8.map .int)) (.val (ti ow)) (.val (ti (rowF (drawF b9 2).1 (drawF b9 2).2 m).1)) (.val (ti (rowF 1 (rowF (drawF b9 2).1 (drawF b9 2).2 m).2 m).1))) rfl sc46.nd
    (e_callB (b := (drawF b9 2).2) O.row (a_cons (e_v 1) (a_cons (e_v 2) (a_cons (e_callB O.draw (a_cons (e_v 1) (a_cons e_int a_nil)) ⟨b9, 2, rfl, rfl, q6, by decide, by decide +kernel, rfl⟩) a_nil))) ⟨(drawF b9 2).2, m, (drawF b9 2).1, rfl, rfl, draw_ok q6 _, m2, rfl⟩)
    (e_callB O.row (a_cons (e_v 1) (a_cons (e_v 2) (a_cons e_int a_nil))) ⟨(rowF (drawF b9 2).1 (drawF b9 2).2 m).2, m, 1, rfl, rfl, q7, m2, rfl⟩)) ?_
  have s1 : Rw m (rowF (drawF b9 2).1 (drawF b9 2).2 m).1 := row_rw m1 m2
  have s2 : Rw m (rowF 1 (rowF (drawF b9 2).1 (drawF b9 2).2 m).2 m).1 := row_rw m1 m2
  have s3 := row_small (b := (drawF b9 2).2) kd m
  have s4 := row_small (kind := 1) (b := (rowF (drawF b9 2).1 (drawF b9 2).2 m).2) (.inr rfl) m
  exact ⟨_, ss_one (s_ret (e_fn Q.pput (a_cons (e_v 7) (a_cons (e_v 8) (a_cons (e_zero (e_v 3) (by omega) (by omega)) a_nil))) ⟨_, _, 0 :: ro.drop 1, rfl, rfl, Rw.pput s1 s2 s3 s4 z2 rfl, rfl⟩))⟩
theorem ok46 {f fg : Addr} {fd fdg : FuncData} (O : Own W) (Q : Qs W) (F : Fun W.K "law" "law" (top 46) f fd) (G : FnG W 16 fg fdg ["script"] (spB W.K (fun ns => ns.length ≤ 63) (.own 1) fun ns => bagS (bag0 ns)))
    (hmg : W.mg "_law_own_bag" = some (.ref fg)) (hkg : PySem.W.keepIn W.K (.ref fg) = true) (hbg : Binds W.K fdg ["script"] []) : FnG W 17 f fd ["script"] (spLaw W.K fun ns => ns.length ≤ 63) :=
  Fun.okLaw F sc46 rfl rfl rfl (by decide) (by decide) rfl rfl G hmg hkg hbg rfl (by decide) (fun _ => rfl) (fun _ => rfl) (fun env h => by first | rfl | (simp only [swapsWith, Env.kindOf, h]; rfl)) fun E ns hP => rest46 O Q (bag0 ns) (bag0_ok hP)
end K83
end
section
set_option Elab.async false
set_option linter.all false
set_option maxRecDepth 100000
set_option maxHeartbeats 4000000
set_option autoImplicit false
/-! k83, part s: the program's top, and the claim. -/
namespace K83
open L2 PySem PySem.Spec PyProof.Rows DL Ser83
theorem all_mk {l : PySem.W.OpenLaw} {w : World} {K : PySem.W.Frag} {h : Heap} {mg : Str → Option Value} {fa T U c1 c2 c3 c4 c5 c6 c7 d1 d2 f15 f16 f18 f19 f20 f21 f22 f23 f24 f25 f27 f28 f29 f30 f31 f32 f33 f34 f35 f36 f37 f38 f39 f40 f41 f42 f43 f44 f45 f46 : Addr} (X : K.In h) (G : h.Ns mainGlobals mg) (hfa : mg "law" = some (.ref fa))
    {od15 an15 od16 an16 od18 an18 od19 an19 od20 an20 od21 an21 od22 an22 od23 an23 od24 an24 od25 an25 od27 an27 od28 an28 od29 an29 od30 an30 od31 an31 od32 an32 od33 an33 od34 an34 od35 an35 od36 an36 od37 an37 od38 an38 od39 an39 od40 an40 od41 an41 od42 an42 od43 an43 od44 an44 od45 an45 od46 an46 : Option Addr} {sl15 sl16 sl18 sl19 sl20 sl21 sl22 sl23 sl24 sl25 sl27 sl28 sl29 sl30 sl31 sl32 sl33 sl34 sl35 sl36 sl37 sl38 sl39 sl40 sl41 sl42 sl43 sl44 sl45 sl46 : Array (Option Value)} {oc15 kV15 dc15 pm15 cd15 ct15 oc16 kV16 dc16 pm16 cd16 ct16 oc18 kV18 dc18 pm18 cd18 ct18 oc19 kV19 dc19 pm19 cd19 ct19 oc20 kV20 dc20 pm20 cd20 ct20 oc21 kV21 dc21 pm21 cd21 ct21 oc22 kV22 dc22 pm22 cd22 ct22 oc23 kV23 dc23 pm23 cd23 ct23 oc24 kV24 dc24 pm24 cd24 ct24 oc25 kV25 dc25 pm25 cd25 ct25 oc27 kV27 dc27 pm27 cd27 ct27 oc28 kV28 dc28 pm28 cd28 ct28 oc29 kV29 dc29 pm29 cd29 ct29 oc30 kV30 dc30 pm30 cd30 ct30 oc31 kV31 dc31 pm31 cd31 ct31 oc32 kV32 dc32 pm32 cd32 ct32 oc33 kV33 dc33 pm33 cd33 ct33 oc34 kV34 dc34 pm34 cd34 ct34 oc35 kV35 dc35 pm35 cd35 ct35 oc36 kV36 dc36 pm36 cd36 ct36 oc37 kV37 dc37 pm37 cd37 ct37 oc38 kV38 dc38 pm38 cd38 ct38 oc39 kV39 dc39 pm39 cd39 ct39 oc40 kV40 dc40 pm40 cd40 ct40 oc41 kV41 dc41 pm41 cd41 ct41 oc42 kV42 dc42 pm42 cd42 ct42 oc43 kV43 dc43 pm43 cd43 ct43 oc44 kV44 dc44 pm44 cd44 ct44 oc45 kV45 dc45 pm45 cd45 ct45 oc46 kV46 dc46 pm46 cd46 ct46 : Value}
    {tc ti : Addr}
    (a15 : PySem.W.nsIn K mainGlobals "is_number" = some (some (.ref f15))) (l15 : K.lookup f15 = some ⟨oc15, od15, .func (PySem.W.fnOf "is_number" "is_number" (defArgs (top 15)) (defBody (top 15)) (defScope (top 15)) .none kV15 dc15 pm15 an15 cd15 ct15), sl15⟩) (c15' : PySem.W.codeIn K cd15 "is_number" = true) (k15 : PySem.W.keepIn K (.ref f15) = true)
    (a16 : PySem.W.nsIn K mainGlobals "is_within" = some (some (.ref f16))) (l16 : K.lookup f16 = some ⟨oc16, od16, .func (PySem.W.fnOf "is_within" "is_within" (defArgs (top 16)) (defBody (top 16)) (defScope (top 16)) .none kV16 dc16 pm16 an16 cd16 ct16), sl16⟩) (c16' : PySem.W.codeIn K cd16 "is_within" = true) (k16 : PySem.W.keepIn K (.ref f16) = true)
    (a18 : PySem.W.nsIn K mainGlobals "series_error" = some (some (.ref f18))) (l18 : K.lookup f18 = some ⟨oc18, od18, .func (PySem.W.fnOf "series_error" "series_error" (defArgs (top 18)) (defBody (top 18)) (defScope (top 18)) .none kV18 dc18 pm18 an18 cd18 ct18), sl18⟩) (c18' : PySem.W.codeIn K cd18 "series_error" = true) (k18 : PySem.W.keepIn K (.ref f18) = true)
    (a19 : PySem.W.nsIn K mainGlobals "product_item" = some (some (.ref f19))) (l19 : K.lookup f19 = some ⟨oc19, od19, .func (PySem.W.fnOf "product_item" "product_item" (defArgs (top 19)) (defBody (top 19)) (defScope (top 19)) .none kV19 dc19 pm19 an19 cd19 ct19), sl19⟩) (c19' : PySem.W.codeIn K cd19 "product_item" = true) (k19 : PySem.W.keepIn K (.ref f19) = true)
    (a20 : PySem.W.nsIn K mainGlobals "series_product" = some (some (.ref f20))) (l20 : K.lookup f20 = some ⟨oc20, od20, .func (PySem.W.fnOf "series_product" "series_product" (defArgs (top 20)) (defBody (top 20)) (defScope (top 20)) .none kV20 dc20 pm20 an20 cd20 ct20), sl20⟩) (c20' : PySem.W.codeIn K cd20 "series_product" = true) (k20 : PySem.W.keepIn K (.ref f20) = true)
    (a21 : PySem.W.nsIn K mainGlobals "series_other" = some (some (.ref f21))) (l21 : K.lookup f21 = some ⟨oc21, od21, .func (PySem.W.fnOf "series_other" "series_other" (defArgs (top 21)) (defBody (top 21)) (defScope (top 21)) .none kV21 dc21 pm21 an21 cd21 ct21), sl21⟩) (c21' : PySem.W.codeIn K cd21 "series_other" = true) (k21 : PySem.W.keepIn K (.ref f21) = true)
    (a22 : PySem.W.nsIn K mainGlobals "unit_series" = some (some (.ref f22))) (l22 : K.lookup f22 = some ⟨oc22, od22, .func (PySem.W.fnOf "unit_series" "unit_series" (defArgs (top 22)) (defBody (top 22)) (defScope (top 22)) .none kV22 dc22 pm22 an22 cd22 ct22), sl22⟩) (c22' : PySem.W.codeIn K cd22 "unit_series" = true) (k22 : PySem.W.keepIn K (.ref f22) = true)
    (a23 : PySem.W.nsIn K mainGlobals "series_power" = some (some (.ref f23))) (l23 : K.lookup f23 = some ⟨oc23, od23, .func (PySem.W.fnOf "series_power" "series_power" (defArgs (top 23)) (defBody (top 23)) (defScope (top 23)) .none kV23 dc23 pm23 an23 cd23 ct23), sl23⟩) (c23' : PySem.W.codeIn K cd23 "series_power" = true) (k23 : PySem.W.keepIn K (.ref f23) = true)
    (a24 : PySem.W.nsIn K mainGlobals "put_into" = some (some (.ref f24))) (l24 : K.lookup f24 = some ⟨oc24, od24, .func (PySem.W.fnOf "put_into" "put_into" (defArgs (top 24)) (defBody (top 24)) (defScope (top 24)) .none kV24 dc24 pm24 an24 cd24 ct24), sl24⟩) (c24' : PySem.W.codeIn K cd24 "put_into" = true) (k24 : PySem.W.keepIn K (.ref f24) = true)
    (a25 : PySem.W.nsIn K mainGlobals "series_put" = some (some (.ref f25))) (l25 : K.lookup f25 = some ⟨oc25, od25, .func (PySem.W.fnOf "series_put" "series_put" (defArgs (top 25)) (defBody (top 25)) (defScope (top 25)) .none kV25 dc25 pm25 an25 cd25 ct25), sl25⟩) (c25' : PySem.W.codeIn K cd25 "series_put" = true) (k25 : PySem.W.keepIn K (.ref f25) = true)
    (a27 : PySem.W.nsIn K mainGlobals "_law_own_bag" = some (some (.ref f27))) (l27 : K.lookup f27 = some ⟨oc27, od27, .func (PySem.W.fnOf "_law_own_bag" "_law_own_bag" (defArgs (top 27)) (defBody (top 27)) (defScope (top 27)) .none kV27 dc27 pm27 an27 cd27 ct27), sl27⟩) (c27' : PySem.W.codeIn K cd27 "_law_own_bag" = true) (k27 : PySem.W.keepIn K (.ref f27) = true)
    (a28 : PySem.W.nsIn K mainGlobals "_law_draw" = some (some (.ref f28))) (l28 : K.lookup f28 = some ⟨oc28, od28, .func (PySem.W.fnOf "_law_draw" "_law_draw" (defArgs (top 28)) (defBody (top 28)) (defScope (top 28)) .none kV28 dc28 pm28 an28 cd28 ct28), sl28⟩) (c28' : PySem.W.codeIn K cd28 "_law_draw" = true) (k28 : PySem.W.keepIn K (.ref f28) = true)
    (a29 : PySem.W.nsIn K mainGlobals "_law_pick" = some (some (.ref f29))) (l29 : K.lookup f29 = some ⟨oc29, od29, .func (PySem.W.fnOf "_law_pick" "_law_pick" (defArgs (top 29)) (defBody (top 29)) (defScope (top 29)) .none kV29 dc29 pm29 an29 cd29 ct29), sl29⟩) (c29' : PySem.W.codeIn K cd29 "_law_pick" = true) (k29 : PySem.W.keepIn K (.ref f29) = true)
    (a30 : PySem.W.nsIn K mainGlobals "_law_seen" = some (some (.ref f30))) (l30 : K.lookup f30 = some ⟨oc30, od30, .func (PySem.W.fnOf "_law_seen" "_law_seen" (defArgs (top 30)) (defBody (top 30)) (defScope (top 30)) .none kV30 dc30 pm30 an30 cd30 ct30), sl30⟩) (c30' : PySem.W.codeIn K cd30 "_law_seen" = true) (k30 : PySem.W.keepIn K (.ref f30) = true)
    (a31 : PySem.W.nsIn K mainGlobals "_law_told" = some (some (.ref f31))) (l31 : K.lookup f31 = some ⟨oc31, od31, .func (PySem.W.fnOf "_law_told" "_law_told" (defArgs (top 31)) (defBody (top 31)) (defScope (top 31)) .none kV31 dc31 pm31 an31 cd31 ct31), sl31⟩) (c31' : PySem.W.codeIn K cd31 "_law_told" = true) (k31 : PySem.W.keepIn K (.ref f31) = true)
    (a32 : PySem.W.nsIn K mainGlobals "_law_holds" = some (some (.ref f32))) (l32 : K.lookup f32 = some ⟨oc32, od32, .func (PySem.W.fnOf "_law_holds" "_law_holds" (defArgs (top 32)) (defBody (top 32)) (defScope (top 32)) .none kV32 dc32 pm32 an32 cd32 ct32), sl32⟩) (c32' : PySem.W.codeIn K cd32 "_law_holds" = true) (k32 : PySem.W.keepIn K (.ref f32) = true)
    (a33 : PySem.W.nsIn K mainGlobals "_law_own_row" = some (some (.ref f33))) (l33 : K.lookup f33 = some ⟨oc33, od33, .func (PySem.W.fnOf "_law_own_row" "_law_own_row" (defArgs (top 33)) (defBody (top 33)) (defScope (top 33)) .none kV33 dc33 pm33 an33 cd33 ct33), sl33⟩) (c33' : PySem.W.codeIn K cd33 "_law_own_row" = true) (k33 : PySem.W.keepIn K (.ref f33) = true)
    (a34 : PySem.W.nsIn K mainGlobals "_law_own_product" = some (some (.ref f34))) (l34 : K.lookup f34 = some ⟨oc34, od34, .func (PySem.W.fnOf "_law_own_product" "_law_own_product" (defArgs (top 34)) (defBody (top 34)) (defScope (top 34)) .none kV34 dc34 pm34 an34 cd34 ct34), sl34⟩) (c34' : PySem.W.codeIn K cd34 "_law_own_product" = true) (k34 : PySem.W.keepIn K (.ref f34) = true)
    (a35 : PySem.W.nsIn K mainGlobals "_law_own_other" = some (some (.ref f35))) (l35 : K.lookup f35 = some ⟨oc35, od35, .func (PySem.W.fnOf "_law_own_other" "_law_own_other" (defArgs (top 35)) (defBody (top 35)) (defScope (top 35)) .none kV35 dc35 pm35 an35 cd35 ct35), sl35⟩) (c35' : PySem.W.codeIn K cd35 "_law_own_other" = true) (k35 : PySem.W.keepIn K (.ref f35) = true)
    (a36 : PySem.W.nsIn K mainGlobals "_law_own_power" = some (some (.ref f36))) (l36 : K.lookup f36 = some ⟨oc36, od36, .func (PySem.W.fnOf "_law_own_power" "_law_own_power" (defArgs (top 36)) (defBody (top 36)) (defScope (top 36)) .none kV36 dc36 pm36 an36 cd36 ct36), sl36⟩) (c36' : PySem.W.codeIn K cd36 "_law_own_power" = true) (k36 : PySem.W.keepIn K (.ref f36) = true)
    (a37 : PySem.W.nsIn K mainGlobals "_law_own_put" = some (some (.ref f37))) (l37 : K.lookup f37 = some ⟨oc37, od37, .func (PySem.W.fnOf "_law_own_put" "_law_own_put" (defArgs (top 37)) (defBody (top 37)) (defScope (top 37)) .none kV37 dc37 pm37 an37 cd37 ct37), sl37⟩) (c37' : PySem.W.codeIn K cd37 "_law_own_put" = true) (k37 : PySem.W.keepIn K (.ref f37) = true)
    (a38 : PySem.W.nsIn K mainGlobals "_law_own_error" = some (some (.ref f38))) (l38 : K.lookup f38 = some ⟨oc38, od38, .func (PySem.W.fnOf "_law_own_error" "_law_own_error" (defArgs (top 38)) (defBody (top 38)) (defScope (top 38)) .none kV38 dc38 pm38 an38 cd38 ct38), sl38⟩) (c38' : PySem.W.codeIn K cd38 "_law_own_error" = true) (k38 : PySem.W.keepIn K (.ref f38) = true)
    (a39 : PySem.W.nsIn K mainGlobals "_law_bent" = some (some (.ref f39))) (l39 : K.lookup f39 = some ⟨oc39, od39, .func (PySem.W.fnOf "_law_bent" "_law_bent" (defArgs (top 39)) (defBody (top 39)) (defScope (top 39)) .none kV39 dc39 pm39 an39 cd39 ct39), sl39⟩) (c39' : PySem.W.codeIn K cd39 "_law_bent" = true) (k39 : PySem.W.keepIn K (.ref f39) = true)
    (a40 : PySem.W.nsIn K mainGlobals "_law_first" = some (some (.ref f40))) (l40 : K.lookup f40 = some ⟨oc40, od40, .func (PySem.W.fnOf "_law_first" "_law_first" (defArgs (top 40)) (defBody (top 40)) (defScope (top 40)) .none kV40 dc40 pm40 an40 cd40 ct40), sl40⟩) (c40' : PySem.W.codeIn K cd40 "_law_first" = true) (k40 : PySem.W.keepIn K (.ref f40) = true)
    (a41 : PySem.W.nsIn K mainGlobals "_law_are_judged" = some (some (.ref f41))) (l41 : K.lookup f41 = some ⟨oc41, od41, .func (PySem.W.fnOf "_law_are_judged" "_law_are_judged" (defArgs (top 41)) (defBody (top 41)) (defScope (top 41)) .none kV41 dc41 pm41 an41 cd41 ct41), sl41⟩) (c41' : PySem.W.codeIn K cd41 "_law_are_judged" = true) (k41 : PySem.W.keepIn K (.ref f41) = true)
    (a42 : PySem.W.nsIn K mainGlobals "_law_are_products" = some (some (.ref f42))) (l42 : K.lookup f42 = some ⟨oc42, od42, .func (PySem.W.fnOf "_law_are_products" "_law_are_products" (defArgs (top 42)) (defBody (top 42)) (defScope (top 42)) .none kV42 dc42 pm42 an42 cd42 ct42), sl42⟩) (c42' : PySem.W.codeIn K cd42 "_law_are_products" = true) (k42 : PySem.W.keepIn K (.ref f42) = true)
    (a43 : PySem.W.nsIn K mainGlobals "_law_are_others" = some (some (.ref f43))) (l43 : K.lookup f43 = some ⟨oc43, od43, .func (PySem.W.fnOf "_law_are_others" "_law_are_others" (defArgs (top 43)) (defBody (top 43)) (defScope (top 43)) .none kV43 dc43 pm43 an43 cd43 ct43), sl43⟩) (c43' : PySem.W.codeIn K cd43 "_law_are_others" = true) (k43 : PySem.W.keepIn K (.ref f43) = true)
    (a44 : PySem.W.nsIn K mainGlobals "_law_are_put" = some (some (.ref f44))) (l44 : K.lookup f44 = some ⟨oc44, od44, .func (PySem.W.fnOf "_law_are_put" "_law_are_put" (defArgs (top 44)) (defBody (top 44)) (defScope (top 44)) .none kV44 dc44 pm44 an44 cd44 ct44), sl44⟩) (c44' : PySem.W.codeIn K cd44 "_law_are_put" = true) (k44 : PySem.W.keepIn K (.ref f44) = true)
    (a45 : PySem.W.nsIn K mainGlobals "_law_are_products_put" = some (some (.ref f45))) (l45 : K.lookup f45 = some ⟨oc45, od45, .func (PySem.W.fnOf "_law_are_products_put" "_law_are_products_put" (defArgs (top 45)) (defBody (top 45)) (defScope (top 45)) .none kV45 dc45 pm45 an45 cd45 ct45), sl45⟩) (c45' : PySem.W.codeIn K cd45 "_law_are_products_put" = true) (k45 : PySem.W.keepIn K (.ref f45) = true)
    (a46 : PySem.W.nsIn K mainGlobals "law" = some (some (.ref f46))) (l46 : K.lookup f46 = some ⟨oc46, od46, .func (PySem.W.fnOf "law" "law" (defArgs (top 46)) (defBody (top 46)) (defScope (top 46)) .none kV46 dc46 pm46 an46 cd46 ct46), sl46⟩) (c46' : PySem.W.codeIn K cd46 "law" = true) (k46 : PySem.W.keepIn K (.ref f46) = true)
    (z_isi : PySem.W.nsIn K mainGlobals "isinstance" = some none)
    (z_int : PySem.W.nsIn K mainGlobals "int" = some none)
    (z_bool : PySem.W.nsIn K mainGlobals "bool" = some none)
    (z_tuple : PySem.W.nsIn K mainGlobals "tuple" = some none)
    (z_str : PySem.W.nsIn K mainGlobals "str" = some none)
    (z_len : PySem.W.nsIn K mainGlobals "len" = some none)
    (z_range : PySem.W.nsIn K mainGlobals "range" = some none)
    (z_sum : PySem.W.nsIn K mainGlobals "sum" = some none)
    (z_list : PySem.W.nsIn K mainGlobals "list" = some none)
    (z_abs : PySem.W.nsIn K mainGlobals "abs" = some none)
    (z_repr : PySem.W.nsIn K mainGlobals "repr" = some none)
    (z_enum : PySem.W.nsIn K mainGlobals "enumerate" = some none)
    (z_zip : PySem.W.nsIn K mainGlobals "zip" = some none)
    (z_rev : PySem.W.nsIn K mainGlobals "reversed" = some none)
    (z_verr : PySem.W.nsIn K mainGlobals "ValueError" = some none)
    (mc : PySem.W.nsIn K mainGlobals "MAX_CUT" = some (some (.int 16 tc))) (mi : PySem.W.nsIn K mainGlobals "MAX_ITEM" = some (some (.int 1000000 ti)))
    (aT : PySem.W.nsIn K mainGlobals "TermError" = some (some (.ref T))) (aU : PySem.W.nsIn K mainGlobals "Unfit" = some (some (.ref U)))
    (g1 : PySem.W.nsIn K mainGlobals "BadLog" = some (some (.ref c1)))
    (g2 : PySem.W.nsIn K mainGlobals "BadPolynomial" = some (some (.ref c2)))
    (g3 : PySem.W.nsIn K mainGlobals "BadText" = some (some (.ref c3)))
    (g4 : PySem.W.nsIn K mainGlobals "NoName" = some (some (.ref c4)))
    (g5 : PySem.W.nsIn K mainGlobals "NothingToRedo" = some (some (.ref c5)))
    (g6 : PySem.W.nsIn K mainGlobals "NothingToUndo" = some (some (.ref c6)))
    (g7 : PySem.W.nsIn K mainGlobals "NoVersion" = some (some (.ref c7)))
    (r1 : PySem.W.nsIn K mainGlobals "Refused" = some (some (.ref d1)))
    (r2 : PySem.W.nsIn K mainGlobals "TooMany" = some (some (.ref d2)))
    (uq : PySem.W.excIn K U [.type "ValueError", .type "Exception", .type "BaseException", .type "object"] "ValueError.__new__" = true)
    (uk : PySem.W.keepIn K (.ref U) = true)
    (us : PySem.W.subIn K (.ref U) (.type "BaseException") = some true)
    (ut : PySem.W.typeIn K (.ref U) = some (.type "type"))
    (ts : PySem.W.subIn K (.ref T) (.type "BaseException") = some true)
    (td : PySem.W.hasDictIn K T = true)
    (tt : PySem.W.typeIn K (.ref T) = some (.type "type"))
    (ux : PySem.W.subIn K (.ref U) (.ref T) = some true)
    (eg : PySem.W.findIn K (.ref U) "__getattribute__" = some (some (.builtin "BaseException.__getattribute__")))
    (ek : PySem.W.findIn K (.ref U) "__getattr__" = some none)
    (ed : PySem.W.hasDictIn K U = true)
    (ea : PySem.W.findIn K (.ref U) "__class__" = some (some (.builtin "object.__class__")))
    (en : PySem.W.specialIn K (.builtin "object.__class__") "__get__" = some (some (.builtin "getset_descriptor.__get__")))
    (et : PySem.W.takesIn K (.builtin "object.__class__") = some true)
    (em : PySem.W.mroIn K U (.type "object") = some true)
    (kA : PySem.W.kitAny K (.ref U) [.ref c1, .ref c2, .ref c3, .ref c4, .ref c5, .ref c6, .ref c7] = some false)
    (kB : PySem.W.kitAny K (.ref U) [.ref d1, .ref d2] = some false)
    (kv : PySem.W.kitOne K (.ref U) (.type "ValueError") = some true)
    (km : PySem.W.kitOne K (.ref U) (.ref U) = some true)
    : ∃ fd : FuncData, (∀ (s : Shared) (v : Value), BindsTo s fd ⟨[v], []⟩ [("script", v)]) ∧ ∀ base : Heap, K.In base → base.Ns mainGlobals mg → FnG ⟨l.prog, w, K, mg, base⟩ 17 fa fd ["script"] (spLaw K fun ns => ns.length ≤ 63) := by
  have e := hfa.symm.trans (PySem.W.mg_of X G a46)
  cases e
  have F15 := fun_mk (st := top 15) l15 c15' k15
  have b15 := F15.binds (ps := ["value"]) fun _ _ _ _ _ _ us hl => match us, hl with | [_], _ => rfl
  have F16 := fun_mk (st := top 16) l16 c16' k16
  have b16 := F16.binds (ps := ["value", "least", "most"]) fun _ _ _ _ _ _ us hl => match us, hl with | [_, _, _], _ => rfl
  have F18 := fun_mk (st := top 18) l18 c18' k18
  have b18 := F18.binds (ps := ["value"]) fun _ _ _ _ _ _ us hl => match us, hl with | [_], _ => rfl
  have F19 := fun_mk (st := top 19) l19 c19' k19
  have b19 := F19.binds (ps := ["one", "other", "n"]) fun _ _ _ _ _ _ us hl => match us, hl with | [_, _, _], _ => rfl
  have F20 := fun_mk (st := top 20) l20 c20' k20
  have b20 := F20.binds (ps := ["one", "other"]) fun _ _ _ _ _ _ us hl => match us, hl with | [_, _], _ => rfl
  have F21 := fun_mk (st := top 21) l21 c21' k21
  have b21 := F21.binds (ps := ["row"]) fun _ _ _ _ _ _ us hl => match us, hl with | [_], _ => rfl
  have F22 := fun_mk (st := top 22) l22 c22' k22
  have b22 := F22.binds (ps := ["many"]) fun _ _ _ _ _ _ us hl => match us, hl with | [_], _ => rfl
  have F23 := fun_mk (st := top 23) l23 c23' k23
  have b23 := F23.binds (ps := ["row", "k"]) fun _ _ _ _ _ _ us hl => match us, hl with | [_, _], _ => rfl
  have F24 := fun_mk (st := top 24) l24 c24' k24
  have b24 := F24.binds (ps := ["one", "other"]) fun _ _ _ _ _ _ us hl => match us, hl with | [_, _], _ => rfl
  have F25 := fun_mk (st := top 25) l25 c25' k25
  have b25 := F25.binds (ps := ["one", "other"]) fun _ _ _ _ _ _ us hl => match us, hl with | [_, _], _ => rfl
  have F27 := fun_mk (st := top 27) l27 c27' k27
  have b27 := F27.binds (ps := ["script"]) fun _ _ _ _ _ _ us hl => match us, hl with | [_], _ => rfl
  have F28 := fun_mk (st := top 28) l28 c28' k28
  have b28 := F28.binds (ps := ["bag", "below"]) fun _ _ _ _ _ _ us hl => match us, hl with | [_, _], _ => rfl
  have F29 := fun_mk (st := top 29) l29 c29' k29
  have b29 := F29.binds (ps := ["bag", "some"]) fun _ _ _ _ _ _ us hl => match us, hl with | [_, _], _ => rfl
  have F30 := fun_mk (st := top 30) l30 c30' k30
  have b30 := F30.binds (ps := ["told", "deep"]) fun _ _ _ _ _ _ us hl => match us, hl with | [_, _], _ => rfl
  have F31 := fun_mk (st := top 31) l31 c31' k31
  have b31 := F31.binds (ps := ["word", "one", "other", "is_named"]) fun _ _ _ _ _ _ us hl => match us, hl with | [_, _, _, _], _ => rfl
  have F32 := fun_mk (st := top 32) l32 c32' k32
  have b32 := F32.binds (ps := ["word", "one", "other", "due"]) fun _ _ _ _ _ _ us hl => match us, hl with | [_, _, _, _], _ => rfl
  have F33 := fun_mk (st := top 33) l33 c33' k33
  have b33 := F33.binds (ps := ["bag", "many", "kind"]) fun _ _ _ _ _ _ us hl => match us, hl with | [_, _, _], _ => rfl
  have F34 := fun_mk (st := top 34) l34 c34' k34
  have b34 := F34.binds (ps := ["one", "other"]) fun _ _ _ _ _ _ us hl => match us, hl with | [_, _], _ => rfl
  have F35 := fun_mk (st := top 35) l35 c35' k35
  have b35 := F35.binds (ps := ["row"]) fun _ _ _ _ _ _ us hl => match us, hl with | [_], _ => rfl
  have F36 := fun_mk (st := top 36) l36 c36' k36
  have b36 := F36.binds (ps := ["row", "k"]) fun _ _ _ _ _ _ us hl => match us, hl with | [_, _], _ => rfl
  have F37 := fun_mk (st := top 37) l37 c37' k37
  have b37 := F37.binds (ps := ["one", "other"]) fun _ _ _ _ _ _ us hl => match us, hl with | [_, _], _ => rfl
  have F38 := fun_mk (st := top 38) l38 c38' k38
  have b38 := F38.binds (ps := ["value"]) fun _ _ _ _ _ _ us hl => match us, hl with | [_], _ => rfl
  have F39 := fun_mk (st := top 39) l39 c39' k39
  have b39 := F39.binds (ps := ["bag", "row"]) fun _ _ _ _ _ _ us hl => match us, hl with | [_, _], _ => rfl
  have F40 := fun_mk (st := top 40) l40 c40' k40
  have b40 := F40.binds (ps := ["bag", "row", "some"]) fun _ _ _ _ _ _ us hl => match us, hl with | [_, _, _], _ => rfl
  have F41 := fun_mk (st := top 41) l41 c41' k41
  have b41 := F41.binds (ps := ["bag", "row"]) fun _ _ _ _ _ _ us hl => match us, hl with | [_, _], _ => rfl
  have F42 := fun_mk (st := top 42) l42 c42' k42
  have b42 := F42.binds (ps := ["bag", "one", "other"]) fun _ _ _ _ _ _ us hl => match us, hl with | [_, _, _], _ => rfl
  have F43 := fun_mk (st := top 43) l43 c43' k43
  have b43 := F43.binds (ps := ["bag", "row", "beside"]) fun _ _ _ _ _ _ us hl => match us, hl with | [_, _, _], _ => rfl
  have F44 := fun_mk (st := top 44) l44 c44' k44
  have b44 := F44.binds (ps := ["one", "other"]) fun _ _ _ _ _ _ us hl => match us, hl with | [_, _], _ => rfl
  have F45 := fun_mk (st := top 45) l45 c45' k45
  have b45 := F45.binds (ps := ["one", "other", "row"]) fun _ _ _ _ _ _ us hl => match us, hl with | [_, _, _], _ => rfl
  have F46 := fun_mk (st := top 46) l46 c46' k46
  have m15 := PySem.W.mg_of X G a15
  have m16 := PySem.W.mg_of X G a16
  have m18 := PySem.W.mg_of X G a18
  have m19 := PySem.W.mg_of X G a19
  have m20 := PySem.W.mg_of X G a20
  have m21 := PySem.W.mg_of X G a21
  have m22 := PySem.W.mg_of X G a22
  have m23 := PySem.W.mg_of X G a23
  have m24 := PySem.W.mg_of X G a24
  have m25 := PySem.W.mg_of X G a25
  have m27 := PySem.W.mg_of X G a27
  have m28 := PySem.W.mg_of X G a28
  have m29 := PySem.W.mg_of X G a29
  have m30 := PySem.W.mg_of X G a30
  have m31 := PySem.W.mg_of X G a31
  have m32 := PySem.W.mg_of X G a32
  have m33 := PySem.W.mg_of X G a33
  have m34 := PySem.W.mg_of X G a34
  have m35 := PySem.W.mg_of X G a35
  have m36 := PySem.W.mg_of X G a36
  have m37 := PySem.W.mg_of X G a37
  have m38 := PySem.W.mg_of X G a38
  have m39 := PySem.W.mg_of X G a39
  have m40 := PySem.W.mg_of X G a40
  have m41 := PySem.W.mg_of X G a41
  have m42 := PySem.W.mg_of X G a42
  have m43 := PySem.W.mg_of X G a43
  have m44 := PySem.W.mg_of X G a44
  have m45 := PySem.W.mg_of X G a45
  have m46 := PySem.W.mg_of X G a46
  refine ⟨PySem.W.fnOf "law" "law" (defArgs (top 46)) (defBody (top 46)) (defScope (top 46)) .none kV46 dc46 pm46 an46 cd46 ct46, fun s v => .of_eq rfl, fun base _ _ => ?_⟩
  have B : Bt ⟨l.prog, w, K, mg, base⟩ := ⟨PySem.W.mg_none_of X G z_isi, PySem.W.mg_none_of X G z_int, PySem.W.mg_none_of X G z_bool, PySem.W.mg_none_of X G z_tuple, PySem.W.mg_none_of X G z_str, PySem.W.mg_none_of X G z_len, PySem.W.mg_none_of X G z_range, PySem.W.mg_none_of X G z_sum, PySem.W.mg_none_of X G z_list, PySem.W.mg_none_of X G z_abs, PySem.W.mg_none_of X G z_repr, PySem.W.mg_none_of X G z_enum, PySem.W.mg_none_of X G z_zip, PySem.W.mg_none_of X G z_rev, PySem.W.mg_none_of X G z_verr⟩
  have GG : Gi ⟨l.prog, w, K, mg, base⟩ := ⟨⟨tc, PySem.W.mg_of X G mc⟩, ⟨ti, PySem.W.mg_of X G mi⟩⟩
  have XU : Uf ⟨l.prog, w, K, mg, base⟩ U := ⟨PySem.W.mg_of X G aU, uq, uk, us, ut⟩
  have Y : Ex ⟨l.prog, w, K, mg, base⟩ U := ⟨⟨T, PySem.W.mg_of X G aT, PySem.W.exm_ref ts td tt ux⟩, ⟨eg, ek, us, ed, ea, en, et, em⟩, ⟨c1, c2, c3, c4, c5, c6, c7, PySem.W.mg_of X G g1, PySem.W.mg_of X G g2, PySem.W.mg_of X G g3, PySem.W.mg_of X G g4, PySem.W.mg_of X G g5, PySem.W.mg_of X G g6, PySem.W.mg_of X G g7, kA⟩, ⟨d1, d2, PySem.W.mg_of X G r1, PySem.W.mg_of X G r2, kB⟩, kv, km⟩
  have D15 : Def ⟨l.prog, w, K, mg, base⟩ "is_number" ["value"] 2 R15 := ⟨f15, _, m15, k15, ok15 B F15, b15⟩
  have D16 : Def ⟨l.prog, w, K, mg, base⟩ "is_within" ["value", "least", "most"] 4 R16 := ⟨f16, _, m16, k16, ok16 D15 F16, b16⟩
  have D18 : Def ⟨l.prog, w, K, mg, base⟩ "series_error" ["value"] 6 R18 := ⟨f18, _, m18, k18, ok18 B GG D16 F18, b18⟩
  have D19 : Def ⟨l.prog, w, K, mg, base⟩ "product_item" ["one", "other", "n"] 2 R19 := ⟨f19, _, m19, k19, ok19 B F19, b19⟩
  have D20 : Def ⟨l.prog, w, K, mg, base⟩ "series_product" ["one", "other"] 4 R20 := ⟨f20, _, m20, k20, ok20 B D19 F20, b20⟩
  have D21 : Def ⟨l.prog, w, K, mg, base⟩ "series_other" ["row"] 3 (R21 U) := ⟨f21, _, m21, k21, ok21 B XU F21, b21⟩
  have D22 : Def ⟨l.prog, w, K, mg, base⟩ "unit_series" ["many"] 2 R22 := ⟨f22, _, m22, k22, ok22  F22, b22⟩
  have D23 : Def ⟨l.prog, w, K, mg, base⟩ "series_power" ["row", "k"] 6 R23 := ⟨f23, _, m23, k23, ok23 B D20 D22 F23, b23⟩
  have D24 : Def ⟨l.prog, w, K, mg, base⟩ "put_into" ["one", "other"] 6 R24 := ⟨f24, _, m24, k24, ok24 B D20 D22 F24, b24⟩
  have D25 : Def ⟨l.prog, w, K, mg, base⟩ "series_put" ["one", "other"] 8 (R25 U) := ⟨f25, _, m25, k25, ok25 XU D24 F25, b25⟩
  have D28 : Def ⟨l.prog, w, K, mg, base⟩ "_law_draw" ["bag", "below"] 2 R28 := ⟨f28, _, m28, k28, ok28 B F28, b28⟩
  have D29 : Def ⟨l.prog, w, K, mg, base⟩ "_law_pick" ["bag", "some"] 4 R29 := ⟨f29, _, m29, k29, ok29 B D28 F29, b29⟩
  have D30a : Def ⟨l.prog, w, K, mg, base⟩ "_law_seen" ["told", "deep"] 2 R30a := ⟨f30, _, m30, k30, ok30a B F30, b30⟩
  have D30 : Def ⟨l.prog, w, K, mg, base⟩ "_law_seen" ["told", "deep"] 4 R30 := ⟨f30, _, m30, k30, ok30 B D30a F30, b30⟩
  have Z : Ser ⟨l.prog, w, K, mg, base⟩ U := ⟨D18,
    D20,
    D21,
    D23,
    D25,
    ⟨⟨f18, _, m18, k18, ok18 B GG D16 F18, fun s ws _ hl _ => match ws, hl with | [_], _ => .of_eq rfl⟩⟩,
    ⟨⟨f20, _, m20, k20, ok20 B D19 F20, fun s ws _ hl _ => match ws, hl with | [_, _], _ => .of_eq rfl⟩⟩,
    ⟨⟨f21, _, m21, k21, ok21 B XU F21, fun s ws _ hl _ => match ws, hl with | [_], _ => .of_eq rfl⟩⟩,
    ⟨⟨f23, _, m23, k23, ok23 B D20 D22 F23, fun s ws _ hl _ => match ws, hl with | [_, _], _ => .of_eq rfl⟩⟩,
    ⟨⟨f25, _, m25, k25, ok25 XU D24 F25, fun s ws _ hl _ => match ws, hl with | [_, _], _ => .of_eq rfl⟩⟩⟩
  have D31 : Def ⟨l.prog, w, K, mg, base⟩ "_law_told" ["word", "one", "other", "is_named"] 10 R31 := ⟨f31, _, m31, k31, ok31 B XU Y Z D30 F31, b31⟩
  have D32 : Def ⟨l.prog, w, K, mg, base⟩ "_law_holds" ["word", "one", "other", "due"] 12 R32 := ⟨f32, _, m32, k32, ok32 B D31 F32, b32⟩
  have D33 : Def ⟨l.prog, w, K, mg, base⟩ "_law_own_row" ["bag", "many", "kind"] 6 R33 := ⟨f33, _, m33, k33, ok33 B D28 D29 F33, b33⟩
  have D34 : Def ⟨l.prog, w, K, mg, base⟩ "_law_own_product" ["one", "other"] 2 R20 := ⟨f34, _, m34, k34, ok34 B F34, b34⟩
  have D35 : Def ⟨l.prog, w, K, mg, base⟩ "_law_own_other" ["row"] 2 R35 := ⟨f35, _, m35, k35, ok35 B F35, b35⟩
  have D36 : Def ⟨l.prog, w, K, mg, base⟩ "_law_own_power" ["row", "k"] 4 R23 := ⟨f36, _, m36, k36, ok36 B D34 F36, b36⟩
  have D37 : Def ⟨l.prog, w, K, mg, base⟩ "_law_own_put" ["one", "other"] 4 R37 := ⟨f37, _, m37, k37, ok37 B D34 F37, b37⟩
  have D38 : Def ⟨l.prog, w, K, mg, base⟩ "_law_own_error" ["value"] 2 R18 := ⟨f38, _, m38, k38, ok38 B F38, b38⟩
  have D39 : Def ⟨l.prog, w, K, mg, base⟩ "_law_bent" ["bag", "row"] 6 R39 := ⟨f39, _, m39, k39, ok39 B D28 D29 F39, b39⟩
  have D40 : Def ⟨l.prog, w, K, mg, base⟩ "_law_first" ["bag", "row", "some"] 6 R40 := ⟨f40, _, m40, k40, ok40 B D29 F40, b40⟩
  have O : Own ⟨l.prog, w, K, mg, base⟩ := ⟨D30, D32, D34, D35, D36, D37, D38, D28, D29, D33, D39, D40⟩
  have D41 : Def ⟨l.prog, w, K, mg, base⟩ "_law_are_judged" ["bag", "row"] 14 R41 := ⟨f41, _, m41, k41, ok41 O F41, b41⟩
  have D42 : Def ⟨l.prog, w, K, mg, base⟩ "_law_are_products" ["bag", "one", "other"] 14 R42 := ⟨f42, _, m42, k42, ok42 O F42, b42⟩
  have D43 : Def ⟨l.prog, w, K, mg, base⟩ "_law_are_others" ["bag", "row", "beside"] 14 R43 := ⟨f43, _, m43, k43, ok43 B O F43, b43⟩
  have D44 : Def ⟨l.prog, w, K, mg, base⟩ "_law_are_put" ["one", "other"] 14 R44 := ⟨f44, _, m44, k44, ok44 O F44, b44⟩
  have D45 : Def ⟨l.prog, w, K, mg, base⟩ "_law_are_products_put" ["one", "other", "row"] 14 R45 := ⟨f45, _, m45, k45, ok45 O F45, b45⟩
  exact ok46 O ⟨D41, D42, D43, D44, D45⟩ F46 ((ok27 B F27).mono (Nat.le_of_ble_eq_true rfl)) m27 k27 b27
theorem walk {l : PySem.W.OpenLaw} {q : Program} {loose : List Str} {XP : (Str → Option Value) → Heap → Prop} {YP : World → Heap → Prop} {d : DefRec} {K : Params → PySem.W.Frag} (hn : l.most = some 63) (hdf : d.params.defaults = [])
    (hY : ∀ (w : World) (h : Heap), YP w h → (K w.params).In h)
    (F : ∀ (w : World) (mg : Str → Option Value) (fa : Addr) (h : Heap), (K w.params).In h → h.Ns mainGlobals mg → mg d.name = some (.ref fa) →
      ∃ fd : FuncData, (∀ (s : Shared) (u : Value), BindsTo s fd ⟨[u], []⟩ [("script", u)]) ∧ ∀ base : Heap, (K w.params).In base → base.Ns mainGlobals mg → FnG ⟨l.prog, w, K w.params, mg, base⟩ 17 fa fd ["script"] (spLaw (K w.params) fun ns => ns.length ≤ 63)) :
    PySem.W.WalkO q loose XP YP l.row.toRowW d [] (fun f vs => PySem.call f vs) :=
  DL.walk_ofG (n := 63) (k := 17) (x := "script") (sp := fun w => spLaw (K w.params) fun ns => ns.length ≤ 63) hn (by decide) hdf ⟨rfl, by decide, by decide⟩ rfl hY F fun _ _ a ns hl _ hS => ⟨a, ns, rfl, hS, hl, fun _ => rfl⟩
end K83
open PySem PySem.W PyProof.Rows
set_option maxRecDepth 100000 in
set_option maxHeartbeats 0 in
theorem PySem.Challenge.cw_leadterms_k83_whole_series_others_holds : PySem.Challenge.rw_leadterms_k83_whole_series_others.Holds := by
  w_on; o_law; k_head; (case hw => w_witness2)
  k_fill
  refine K83.walk (l := PySem.Challenge.rw_leadterms_k83_whole_series_others) rfl rfl (fun w h Y => PySem.W.kIn_of Y) ?F
  case F =>
    intro w mg fa h KX G hmg
    refine' K83.all_mk KX G hmg ?a15 ?l15 ?c15' ?k15 ?a16 ?l16 ?c16' ?k16 ?a18 ?l18 ?c18' ?k18 ?a19 ?l19 ?c19' ?k19 ?a20 ?l20 ?c20' ?k20 ?a21 ?l21 ?c21' ?k21 ?a22 ?l22 ?c22' ?k22 ?a23 ?l23 ?c23' ?k23 ?a24 ?l24 ?c24' ?k24 ?a25 ?l25 ?c25' ?k25 ?a27 ?l27 ?c27' ?k27 ?a28 ?l28 ?c28' ?k28 ?a29 ?l29 ?c29' ?k29 ?a30 ?l30 ?c30' ?k30 ?a31 ?l31 ?c31' ?k31 ?a32 ?l32 ?c32' ?k32 ?a33 ?l33 ?c33' ?k33 ?a34 ?l34 ?c34' ?k34 ?a35 ?l35 ?c35' ?k35 ?a36 ?l36 ?c36' ?k36 ?a37 ?l37 ?c37' ?k37 ?a38 ?l38 ?c38' ?k38 ?a39 ?l39 ?c39' ?k39 ?a40 ?l40 ?c40' ?k40 ?a41 ?l41 ?c41' ?k41 ?a42 ?l42 ?c42' ?k42 ?a43 ?l43 ?c43' ?k43 ?a44 ?l44 ?c44' ?k44 ?a45 ?l45 ?c45' ?k45 ?a46 ?l46 ?c46' ?k46 ?z_isi ?z_int ?z_bool ?z_tuple ?z_str ?z_len ?z_range ?z_sum ?z_list ?z_abs ?z_repr ?z_enum ?z_zip ?z_rev ?z_verr ?mc ?mi ?aT ?aU ?g1 ?g2 ?g3 ?g4 ?g5 ?g6 ?g7 ?r1 ?r2 ?uq ?uk ?us ?ut ?ts ?td ?tt ?ux ?eg ?ek ?ed ?ea ?en ?et ?em ?kA ?kB ?kv ?km
    (case a15 => k_is)
    (case l15 => k_is)
    (case c15' => k_is)
    (case k15 => k_is)
    (case a16 => k_is)
    (case l16 => k_is)
    (case c16' => k_is)
    (case k16 => k_is)
    (case a18 => k_is)
    (case l18 => k_is)
    (case c18' => k_is)
    (case k18 => k_is)
    (case a19 => k_is)
    (case l19 => k_is)
    (case c19' => k_is)
    (case k19 => k_is)
    (case a20 => k_is)
    (case l20 => k_is)
    (case c20' => k_is)
    (case k20 => k_is)
    (case a21 => k_is)
    (case l21 => k_is)
    (case c21' => k_is)
    (case k21 => k_is)
    (case a22 => k_is)
    (case l22 => k_is)
    (case c22' => k_is)
    (case k22 => k_is)
    (case a23 => k_is)
    (case l23 => k_is)
    (case c23' => k_is)
    (case k23 => k_is)
    (case a24 => k_is)
    (case l24 => k_is)
    (case c24' => k_is)
    (case k24 => k_is)
    (case a25 => k_is)
    (case l25 => k_is)
    (case c25' => k_is)
    (case k25 => k_is)
    (case a27 => k_is)
    (case l27 => k_is)
    (case c27' => k_is)
    (case k27 => k_is)
    (case a28 => k_is)
    (case l28 => k_is)
    (case c28' => k_is)
    (case k28 => k_is)
    (case a29 => k_is)
    (case l29 => k_is)
    (case c29' => k_is)
    (case k29 => k_is)
    (case a30 => k_is)
    (case l30 => k_is)
    (case c30' => k_is)
    (case k30 => k_is)
    (case a31 => k_is)
    (case l31 => k_is)
    (case c31' => k_is)
    (case k31 => k_is)
    (case a32 => k_is)
    (case l32 => k_is)
    (case c32' => k_is)
    (case k32 => k_is)
    (case a33 => k_is)
    (case l33 => k_is)
    (case c33' => k_is)
    (case k33 => k_is)
    (case a34 => k_is)
    (case l34 => k_is)
    (case c34' => k_is)
    (case k34 => k_is)
    (case a35 => k_is)
    (case l35 => k_is)
    (case c35' => k_is)
    (case k35 => k_is)
    (case a36 => k_is)
    (case l36 => k_is)
    (case c36' => k_is)
    (case k36 => k_is)
    (case a37 => k_is)
    (case l37 => k_is)
    (case c37' => k_is)
    (case k37 => k_is)
    (case a38 => k_is)
    (case l38 => k_is)
    (case c38' => k_is)
    (case k38 => k_is)
    (case a39 => k_is)
    (case l39 => k_is)
    (case c39' => k_is)
    (case k39 => k_is)
    (case a40 => k_is)
    (case l40 => k_is)
    (case c40' => k_is)
    (case k40 => k_is)
    (case a41 => k_is)
    (case l41 => k_is)
    (case c41' => k_is)
    (case k41 => k_is)
    (case a42 => k_is)
    (case l42 => k_is)
    (case c42' => k_is)
    (case k42 => k_is)
    (case a43 => k_is)
    (case l43 => k_is)
    (case c43' => k_is)
    (case k43 => k_is)
    (case a44 => k_is)
    (case l44 => k_is)
    (case c44' => k_is)
    (case k44 => k_is)
    (case a45 => k_is)
    (case l45 => k_is)
    (case c45' => k_is)
    (case k45 => k_is)
    (case a46 => k_is)
    (case l46 => k_is)
    (case c46' => k_is)
    (case k46 => k_is)
    (case z_isi => k_is)
    (case z_int => k_is)
    (case z_bool => k_is)
    (case z_tuple => k_is)
    (case z_str => k_is)
    (case z_len => k_is)
    (case z_range => k_is)
    (case z_sum => k_is)
    (case z_list => k_is)
    (case z_abs => k_is)
    (case z_repr => k_is)
    (case z_enum => k_is)
    (case z_zip => k_is)
    (case z_rev => k_is)
    (case z_verr => k_is)
    (case mc => k_is)
    (case mi => k_is)
    (case aT => k_is)
    (case aU => k_is)
    (case g1 => k_is)
    (case g2 => k_is)
    (case g3 => k_is)
    (case g4 => k_is)
    (case g5 => k_is)
    (case g6 => k_is)
    (case g7 => k_is)
    (case r1 => k_is)
    (case r2 => k_is)
    (case uq => k_exc)
    (case uk => k_is)
    (case us => k_is)
    (case ut => k_is)
    (case ts => k_is)
    (case td => k_is)
    (case tt => k_is)
    (case ux => first | rfl | k_is)
    (case eg => k_is)
    (case ek => k_is)
    (case ed => k_is)
    (case ea => k_is)
    (case en => k_is)
    (case et => k_is)
    (case em => k_is)
    (case kA => first | rfl | k_is)
    (case kB => first | rfl | k_is)
    (case kv => first | rfl | k_is)
    (case km => first | rfl | k_is)
end
#print axioms PySem.Challenge.cw_leadterms_k83_whole_series_others_holds
