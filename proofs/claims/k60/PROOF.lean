import PyProof.Rows.All
import Wide.All
import OpenK.AllK
import Wide.FinOn
import HandS.ForMost
import HandS.ForExc
import HandS.TupAny
import HandS.TupMul
import HandS.IsInst
import HandS.Conv
import HandS.Deep
import HandS.Wide
import HandS.Flow
import HandS.CallSlots
import HandS.ExcInit
import HandS.Zip
import KE.KDictKeyed
import KE.KDictDisplayH
import HandS.SetFor
import KE.GoesEnum
import HandS.SortInts
import HandS.Style
import HandS.TupLen
import HandS.Iter
import HandS.DictComp
import KE.SortData
import KE.DataCmp
import KE.DataMinMax
import KE.KDictSum
import KE.KDictCopyH
import HandS.TryOnly
import HandS.DictTup
import KE.KDictItemsList
import HandS.Strs
import HandS.ExcField
import HandS.ExcIs
import KE.KExcIs
import KE.KTupSum
import KE.DataAny
import PyProof.ZipIter
import PyProof.CallType
import PyProof.RangeIter
import PySem.Challenge.RW_rulerows_k60_whole_shortest_rows
set_option Elab.async false
set_option linter.all false
set_option maxRecDepth 100000
set_option maxHeartbeats 4000000
/-! Plain data over the hand layer: values, store, the relation to the abstract heap. -/
namespace DL
open PySem PySem.Spec PyProof.Rows L2

/-- a plain value; ref n: the n-th mutable object of the store -/
inductive D where
  | non | bl (b : Bool) | int (i : Int) | str (x : Str) | tup (xs : List D) | lst (xs : List D) | ref (n : Nat) | scr (ns : List Int) | rng (lo hi : Int)
/-- a mutable object -/
inductive MO where
  | lst (xs : List D) | dct (kvs : List (D × D)) | lkd (kvs : List (D × D)) | ins (x : Str) (fs : List (Str × D)) | gone
abbrev Sto := List MO
abbrev EnvD := List (Option D)
/-- an exception: its class's name, its fields -/
structure Ex where
  cls : Str
  fs : List (Str × D)
/-- a run of an expression -/
inductive R (A : Type) where
  | ok (a : A) (S : Sto) | exc (x : Ex) (S : Sto) | stuck
def R.bind {A B : Type} (r : R A) (k : A → Sto → R B) : R B := match r with
  | .ok a S => k a S
  | .exc x S => .exc x S
  | .stuck => .stuck
/-- a run of a statement -/
inductive RS where
  | nx (rho : EnvD) (S : Sto) | rt (d : D) (S : Sto) | bk (rho : EnvD) (S : Sto) | ct (rho : EnvD) (S : Sto) | exc (x : Ex) (rho : EnvD) (S : Sto) | stuck

structure GC where
  K : PySem.W.Frag
  mg : Str → Option Value
/-- the mutable objects' places; places that are being built -/
structure Pl where
  mu : List Addr
  hid : Addr → Prop

/-- a list of the written part -/
def LkL (K : PySem.W.Frag) (a : Addr) (xs : List V) : Prop := ∃ (o : Obj) (its : Array Value) (n : Nat), K.lookup a = some o ∧ o.cls = .type "list" ∧ o.dict = none ∧ o.data = .seq its n ∧ its.size ≤ sizeLine ∧ Vals xs its.toList
/-- the object of a tuple: nothing hangs on it -/
def XT (o : Obj) : Prop := o.cls = .type "tuple" ∧ o.dict = none
/-- a tuple whose object is known -/
def SqX (K : PySem.W.Frag) (H : Hp) (a : Addr) (xs : List V) : Prop :=
  (∃ o, H a = some (.frz o (.tup xs)) ∧ XT o) ∨ ∃ (o : Obj) (its : Array Value) (n : Nat), K.lookup a = some o ∧ XT o ∧ o.data = .seq its n ∧ its.size ≤ sizeLine ∧ Vals xs its.toList
theorem SqX.t {K : PySem.W.Frag} {H : Hp} {a : Addr} {xs : List V} (h : SqX K H a xs) : SqT K H a xs := by
  rcases h with ⟨o, h, _⟩ | ⟨o, its, n, h, c, r⟩
  · exact .inl (.inr ⟨o, h⟩)
  · exact .inr ⟨o, its, n, h, c.1, r⟩
/-- its object in the heap -/
theorem SqX.obj {X : Cx} {pins : List (Addr × Obj)} {σ : L2.St} {H : Hp} {s : Shared} {a : Addr} {xs : List V} (I : Inv X pins σ H s) (h : SqX X.K H a xs) : ∃ o, s.heap.get? a = some o ∧ XT o := by
  rcases h with ⟨o, h, c⟩ | ⟨o, its, n, h, c, r⟩
  · obtain ⟨g, _⟩ := I.hok a _ h; exact ⟨o, g, c⟩
  · exact ⟨o, I.kIn a o h, c⟩
mutual
def RepV (K : PySem.W.Frag) (H : Hp) (p : Pl) : D → V → Prop
  | .non, v => v = .non
  | .bl b, v => v = .bl b
  | .int i, v => v = .int i
  | .str x, v => v = .str x
  | .tup ds, v => ∃ a xs, v = .ref a ∧ SqX K H a xs ∧ RepL K H p ds xs
  | .lst ds, v => ∃ a xs, v = .ref a ∧ H a = some (.lst xs) ∧ a ∉ p.mu ∧ ¬ p.hid a ∧ RepL K H p ds xs
  | .ref n, v => ∃ a, v = .ref a ∧ p.mu[n]? = some a
  | .scr ns, v => ∃ a, v = .ref a ∧ ((∃ o, H a = some (.frz o (.lst (ns.map V.int))) ∧ a ∉ p.mu) ∨ LkL K a (ns.map V.int))
  | .rng lo hi, v => ∃ a, v = .ref a ∧ H a = some (.rng lo hi) ∧ a ∉ p.mu ∧ ¬ p.hid a
def RepL (K : PySem.W.Frag) (H : Hp) (p : Pl) : List D → List V → Prop
  | [], vs => vs = []
  | d :: ds, vs => ∃ v vr, vs = v :: vr ∧ RepV K H p d v ∧ RepL K H p ds vr
end

/-! dicts -/
mutual
/-- a key as data, up to == -/
def nkD : D → Option NestedKey
  | .non => some .none
  | .bl b => some (.num (if b = true then 1 else 0))
  | .int i => some (.num i)
  | .str _ => none
  | .tup ds => match nkL ds with
    | some ks => some (.tup ks)
    | none => none
  | .lst _ => none
  | .ref _ => none
  | .scr _ => none
  | .rng _ _ => none
def nkL : List D → Option (List NestedKey)
  | [] => some []
  | d :: ds => match nkD d, nkL ds with
    | some k, some ks => some (k :: ks)
    | _, _ => none
end
/-- an entry of a dict's object -/
def entF (x : NestedKey × V × V) (e : DictEntry) : Prop := RelV x.2.1 e.key ∧ RelV x.2.2 e.val ∧ ∀ w, e.hash = x.1.hash w
/-- a dict, entry by entry -/
def rawO (a : Addr) (ws : List (NestedKey × V × V)) : HO := .ext fun h => ∃ o es ep, h.get? a = some o ∧ o.ExactDict ∧ o.data = .dict es ep ∧ Paired entF ws es.toList
structure DctR (K : PySem.W.Frag) (H : Hp) (p : Pl) (a : Addr) (kvs : List (D × D)) (ws : List (NestedKey × V × V)) : Prop where
  sm : (a == sysModules) = false
  ks : kvs.map (fun kv => nkD kv.1) = ws.map (fun x => some x.1)
  nd : (ws.map (·.1)).Nodup
  dp : ∀ x ∈ ws, x.1.depth ≤ 8
  rk : RepL K H p (kvs.map (·.1)) (ws.map (·.2.1))
  rv : RepL K H p (kvs.map (·.2)) (ws.map (·.2.2))
def MoRel (K : PySem.W.Frag) (H : Hp) (p : Pl) : MO → Addr → Prop
  | .lst ds, a => ∃ xs, H a = some (.lst xs) ∧ RepL K H p ds xs
  | .dct kvs, a => ∃ ws, H a = some (rawO a ws) ∧ DctR K H p a kvs ws
  | .lkd kvs, a => ∃ ws o, H a = some (.frz o (rawO a ws)) ∧ DctR K H p a kvs ws
  | .ins x fs, a => ∃ (C dx : Addr) (vs : List (Str × V)), PySem.W.nsIn K mainGlobals x = some (some (.ref C)) ∧ H a = some (.ins C dx vs) ∧ fs.map (·.1) = vs.map (·.1) ∧ RepL K H p (fs.map (·.2)) (vs.map (·.2))
  | .gone, a => ∃ o, H a = some o ∧ (∀ xs, o ≠ .tup xs) ∧ (∀ ob xs, o ≠ .frz ob (.tup xs))

structure StRel (K : PySem.W.Frag) (p : Pl) (S : Sto) (H : Hp) : Prop where
  len : p.mu.length = S.length
  nd : p.mu.Nodup
  dis : ∀ a ∈ p.mu, ¬ p.hid a
  hid : ∀ a, p.hid a → ∃ o, H a = some o
  obj : ∀ (n : Nat) (mo : MO), S[n]? = some mo → ∃ a, p.mu[n]? = some a ∧ MoRel K H p mo a

structure Ext (p : Pl) (H : Hp) (q : Pl) (H' : Hp) : Prop where
  hid1 : ∀ a, p.hid a → q.hid a
  hid2 : ∀ a, q.hid a → p.hid a ∨ H a = none
  pre : ∃ more, q.mu = p.mu ++ more ∧ ∀ a ∈ more, H a = none
  keep : ∀ b o, H b = some o → b ∉ p.mu → H' b = some o
  there : ∀ b o, H b = some o → ∃ o', H' b = some o'
  frz : ∀ b o u, H b = some (.frz o u) → H' b = some (.frz o u)

section
variable {K : PySem.W.Frag} {H H' H1 H2 : Hp} {p q r : Pl} {S S' : Sto}

theorem MoRel.has {mo : MO} {a : Addr} (h : MoRel K H p mo a) : ∃ o, H a = some o ∧ (∀ xs, o ≠ .tup xs) ∧ (∀ ob xs, o ≠ .frz ob (.tup xs)) := by
  cases mo with
  | lst ds => obtain ⟨xs, e, _⟩ := h; exact ⟨_, e, by simp, by simp⟩
  | dct ds => obtain ⟨xs, e, _⟩ := h; exact ⟨_, e, by simp [rawO], by simp [rawO]⟩
  | lkd ds => obtain ⟨xs, o, e, _⟩ := h; exact ⟨_, e, by simp, by simp [rawO]⟩
  | ins x fs => obtain ⟨C, dx, vs, _, e, _⟩ := h; exact ⟨_, e, by simp, by simp⟩
  | gone => exact h
theorem StRel.has (s : StRel K p S H) {a : Addr} (ha : a ∈ p.mu) : ∃ o, H a = some o ∧ (∀ xs, o ≠ .tup xs) ∧ (∀ ob xs, o ≠ .frz ob (.tup xs)) := by
  obtain ⟨n, hn, e⟩ := List.mem_iff_getElem.mp ha
  have hl : n < S.length := by rw [← s.len]; exact hn
  obtain ⟨b, hb, m⟩ := s.obj n S[n] (List.getElem?_eq_getElem hl)
  rw [List.getElem?_eq_getElem hn, e] at hb
  cases hb
  exact m.has
theorem StRel.free (s : StRel K p S H) {a : Addr} (ha : H a = none) : a ∉ p.mu ∧ ¬ p.hid a := by
  refine ⟨fun h => ?_, fun h => ?_⟩
  · obtain ⟨o, e, _⟩ := s.has h; rw [ha] at e; cases e
  · obtain ⟨o, e⟩ := s.hid a h; rw [ha] at e; cases e

theorem Ext.refl : Ext p H p H := ⟨fun _ h => h, fun _ h => .inl h, ⟨[], by simp, by simp⟩, fun _ _ e _ => e, fun _ o e => ⟨o, e⟩, fun _ _ _ e => e⟩
theorem Ext.trans (a : Ext p H q H1) (b : Ext q H1 r H2) : Ext p H r H2 := by
  obtain ⟨m1, e1, f1⟩ := a.pre
  obtain ⟨m2, e2, f2⟩ := b.pre
  refine ⟨fun c h => b.hid1 c (a.hid1 c h), fun c h => ?_, ⟨m1 ++ m2, by rw [e2, e1, List.append_assoc], fun x hx => ?_⟩, fun c o e n => ?_, fun c o e => ?_, fun c o u e => b.frz c o u (a.frz c o u e)⟩
  · rcases b.hid2 c h with h | h
    · exact a.hid2 c h
    · refine .inr ?_
      cases e : H c with
      | none => rfl
      | some o =>
        obtain ⟨o', e'⟩ := a.there c o e
        rw [h] at e'; cases e'
  · rcases List.mem_append.mp hx with h | h
    · exact f1 x h
    · cases e : H x with
      | none => rfl
      | some o =>
        obtain ⟨o', e'⟩ := a.there x o e
        rw [f2 x h] at e'; cases e'
  · refine b.keep c o (a.keep c o e n) fun h => ?_
    rw [e1] at h
    rcases List.mem_append.mp h with h | h
    · exact n h
    · rw [f1 c h] at e; cases e
  · obtain ⟨o', e'⟩ := a.there c o e
    exact b.there c o' e'

theorem sqT_ext {a : Addr} {xs : List V} (s : StRel K p S H) (x : Ext p H q H') (h : SqT K H a xs) : SqT K H' a xs := by
  rcases h with (h | ⟨o, h⟩) | h
  · refine .inl (.inl (x.keep a _ h fun m => ?_))
    obtain ⟨o, e, n, _⟩ := s.has m
    rw [h] at e; cases e; exact n xs rfl
  · refine .inl (.inr ⟨o, x.keep a _ h fun m => ?_⟩)
    obtain ⟨o', e, _, n⟩ := s.has m
    rw [h] at e; cases e; exact n o xs rfl
  · exact .inr h
theorem sqX_ext {a : Addr} {xs : List V} (s : StRel K p S H) (x : Ext p H q H') (h : SqX K H a xs) : SqX K H' a xs := by
  rcases h with ⟨o, h, c⟩ | h
  · exact .inl ⟨o, x.frz a _ _ h, c⟩
  · exact .inr h

mutual
theorem RepV.ext (s : StRel K p S H) (x : Ext p H q H') : ∀ (d : D) (v : V), RepV K H p d v → RepV K H' q d v
  | .non, _, h => h
  | .bl _, _, h => h
  | .int _, _, h => h
  | .str _, _, h => h
  | .tup ds, _, h => by
    obtain ⟨a, xs, e, ht, hl⟩ := h
    exact ⟨a, xs, e, sqX_ext s x ht, RepL.ext s x ds xs hl⟩
  | .lst ds, _, h => by
    obtain ⟨a, xs, e, ht, hm, hh, hl⟩ := h
    obtain ⟨more, e1, f1⟩ := x.pre
    refine ⟨a, xs, e, x.keep a _ ht hm, ?_, fun z => ?_, RepL.ext s x ds xs hl⟩
    · rw [e1]
      intro z
      rcases List.mem_append.mp z with z | z
      · exact hm z
      · rw [f1 a z] at ht; cases ht
    · rcases x.hid2 a z with z | z
      · exact hh z
      · rw [z] at ht; cases ht
  | .ref n, _, h => by
    obtain ⟨a, e, hn⟩ := h
    obtain ⟨more, e1, f1⟩ := x.pre
    refine ⟨a, e, ?_⟩
    rw [e1, List.getElem?_append_left (List.getElem?_eq_some_iff.mp hn).1]
    exact hn
  | .scr ns, _, h => by
    obtain ⟨a, e, ⟨o, ht, hm⟩ | h⟩ := h
    case inr => exact ⟨a, e, .inr h⟩
    obtain ⟨more, e1, f1⟩ := x.pre
    refine ⟨a, e, .inl ⟨o, x.keep a _ ht hm, ?_⟩⟩
    rw [e1]
    intro z
    rcases List.mem_append.mp z with z | z
    · exact hm z
    · rw [f1 a z] at ht; cases ht
  | .rng lo hi, _, h => by
    obtain ⟨a, e, ht, hm, hh⟩ := h
    obtain ⟨more, e1, f1⟩ := x.pre
    refine ⟨a, e, x.keep a _ ht hm, ?_, fun z => ?_⟩
    · rw [e1]
      intro z
      rcases List.mem_append.mp z with z | z
      · exact hm z
      · rw [f1 a z] at ht; cases ht
    · rcases x.hid2 a z with z | z
      · exact hh z
      · rw [z] at ht; cases ht
theorem RepL.ext (s : StRel K p S H) (x : Ext p H q H') : ∀ (ds : List D) (vs : List V), RepL K H p ds vs → RepL K H' q ds vs
  | [], _, h => h
  | d :: ds, _, h => by
    obtain ⟨v, vr, e, h1, h2⟩ := h
    exact ⟨v, vr, e, RepV.ext s x d v h1, RepL.ext s x ds vr h2⟩
end
theorem scr_sq {ns : List Int} {v : V} (h : RepV K H p (.scr ns) v) : ∃ a, v = .ref a ∧ SqL K H a (ns.map V.int) := by
  obtain ⟨a, e, ⟨o, ht, _⟩ | h⟩ := h
  · exact ⟨a, e, .inl (.inr ⟨o, ht⟩)⟩
  · exact ⟨a, e, .inr h⟩
theorem RepL.length : ∀ {ds : List D} {vs : List V}, RepL K H p ds vs → ds.length = vs.length
  | [], vs, h => by cases (show vs = [] from h); rfl
  | d :: ds, vs, h => by
    obtain ⟨v, vr, rfl, _, h2⟩ := h
    simp [RepL.length h2]
theorem RepL.nil : RepL K H p [] [] := rfl
theorem RepL.cons {d : D} {ds : List D} {v : V} {vs : List V} (h : RepV K H p d v) (t : RepL K H p ds vs) : RepL K H p (d :: ds) (v :: vs) := ⟨v, vs, rfl, h, t⟩
theorem RepL.get : ∀ {ds : List D} {vs : List V}, RepL K H p ds vs → ∀ (i : Nat) (d : D), ds[i]? = some d → ∃ v, vs[i]? = some v ∧ RepV K H p d v
  | [], _, _, i, d, e => by simp at e
  | d' :: ds, _, h, i, d, e => by
    obtain ⟨v, vr, rfl, h1, h2⟩ := h
    cases i with
    | zero => simp at e; subst e; exact ⟨v, rfl, h1⟩
    | succ i => simpa using RepL.get h2 i d (by simpa using e)
theorem RepL.append : ∀ {ds es : List D} {vs ws : List V}, RepL K H p ds vs → RepL K H p es ws → RepL K H p (ds ++ es) (vs ++ ws)
  | [], _, vs, _, h, t => by cases (show vs = [] from h); exact t
  | d :: ds, _, _, _, h, t => by
    obtain ⟨v, vr, rfl, h1, h2⟩ := h
    exact ⟨v, _, rfl, h1, RepL.append h2 t⟩
theorem RepL.drop : ∀ {ds : List D} {vs : List V} (n : Nat), RepL K H p ds vs → RepL K H p (ds.drop n) (vs.drop n)
  | _, _, 0, h => h
  | [], vs, n + 1, h => by cases (show vs = [] from h); exact h
  | d :: ds, _, n + 1, h => by
    obtain ⟨v, vr, rfl, h1, h2⟩ := h
    exact RepL.drop n h2
theorem RepL.take : ∀ {ds : List D} {vs : List V} (n : Nat), RepL K H p ds vs → RepL K H p (ds.take n) (vs.take n)
  | _, _, 0, h => RepL.nil
  | [], vs, n + 1, h => by cases (show vs = [] from h); exact h
  | d :: ds, _, n + 1, h => by
    obtain ⟨v, vr, rfl, h1, h2⟩ := h
    exact ⟨v, _, rfl, h1, RepL.take n h2⟩
theorem RepL.set : ∀ {ds : List D} {vs : List V} (n : Nat) {d : D} {v : V}, RepL K H p ds vs → RepV K H p d v → RepL K H p (ds.set n d) (vs.set n v)
  | [], vs, n, _, _, h, _ => by cases (show vs = [] from h); exact h
  | d' :: ds, _, 0, d, v, h, t => by
    obtain ⟨v', vr, rfl, h1, h2⟩ := h
    exact ⟨v, vr, rfl, t, h2⟩
  | d' :: ds, _, n + 1, d, v, h, t => by
    obtain ⟨v', vr, rfl, h1, h2⟩ := h
    exact ⟨v', _, rfl, h1, RepL.set n h2 t⟩
theorem RepL.rep {d : D} {v : V} (h : RepV K H p d v) : ∀ n, RepL K H p (List.replicate n d) (List.replicate n v)
  | 0 => RepL.nil
  | n + 1 => ⟨v, _, rfl, h, RepL.rep h n⟩
theorem RepL.ints : ∀ ns : List Int, RepL K H p (ns.map D.int) (ns.map V.int)
  | [] => RepL.nil
  | n :: ns => ⟨.int n, _, rfl, rfl, RepL.ints ns⟩
theorem DctR.ext (s : StRel K p S H) (x : Ext p H q H') {a : Addr} {kvs : List (D × D)} {ws : List (NestedKey × V × V)} (h : DctR K H p a kvs ws) : DctR K H' q a kvs ws := ⟨h.sm, h.ks, h.nd, h.dp, RepL.ext s x _ _ h.rk, RepL.ext s x _ _ h.rv⟩
theorem MoRel.ext (s : StRel K p S H) (x : Ext p H q H') {mo : MO} {a : Addr} (e : ∀ o, H a = some o → H' a = some o) (h : MoRel K H p mo a) : MoRel K H' q mo a := by
  cases mo with
  | lst ds => obtain ⟨xs, e1, l⟩ := h; exact ⟨xs, e _ e1, RepL.ext s x _ _ l⟩
  | dct ds => obtain ⟨xs, e1, l⟩ := h; exact ⟨xs, e _ e1, l.ext s x⟩
  | lkd ds => obtain ⟨xs, o, e1, l⟩ := h; exact ⟨xs, o, e _ e1, l.ext s x⟩
  | ins y fs => obtain ⟨C, dx, vs, g, e1, k, l⟩ := h; exact ⟨C, dx, vs, g, e _ e1, k, RepL.ext s x _ _ l⟩
  | gone => obtain ⟨o, e1, k⟩ := h; exact ⟨o, e _ e1, k⟩

/-- everything that is tracked stays -/
theorem Ext.of_same (h : ∀ b o, H b = some o → H' b = some o) : Ext p H p H' := ⟨fun _ h => h, fun _ h => .inl h, ⟨[], by simp, by simp⟩, fun b o e _ => h b o e, fun b o e => ⟨o, h b o e⟩, fun b o u e => h b _ e⟩
theorem StRel.same (s : StRel K p S H) (h : ∀ b o, H b = some o → H' b = some o) : StRel K p S H' :=
  ⟨s.len, s.nd, s.dis, fun a ha => let ⟨o, e⟩ := s.hid a ha; ⟨o, h a o e⟩, fun n mo e => let ⟨a, e1, m⟩ := s.obj n mo e; ⟨a, e1, m.ext s (Ext.of_same h) (h a)⟩⟩
theorem same_upd {a : Addr} {o : HO} (h : H a = none) : ∀ b u, H b = some u → upd H a o b = some u := fun b u e => by
  rw [upd_ne (ne_of_none e h)]; exact e

/-- a new tuple -/
theorem new_tup {a : Addr} {o : Obj} {ds : List D} {xs : List V} (s : StRel K p S H) (h : H a = none) (c : XT o) (r : RepL K H p ds xs) :
    Ext p H p (upd H a (.frz o (.tup xs))) ∧ StRel K p S (upd H a (.frz o (.tup xs))) ∧ RepV K (upd H a (.frz o (.tup xs))) p (.tup ds) (.ref a) :=
  ⟨Ext.of_same (same_upd h), s.same (same_upd h), a, xs, rfl, .inl ⟨o, upd_same, c⟩, RepL.ext s (Ext.of_same (same_upd h)) _ _ r⟩
/-- a new tuple is laid -/
abbrev NewT (H : Hp) (Q : VK) (xs : List V) : Prop := ∀ p, H p = none → ∀ o, XT o → Q (.ref p) (upd H p (.frz o (.tup xs)))
theorem tup_ok {P : Program} {w : World} {h : Heap} {a : Addr} {its : List Value} {o : Obj} {n : Nat} {xs : List V} (hz : xs.length ≤ sizeLine) (r : Vals xs its) (g : h.get? a = some o) (c : o.cls = .type "tuple") (d : o.data = .seq its.toArray n) :
    ObjOk P w H h a (.frz o (.tup xs)) := ⟨g, hz, its, r, ⟨o, g, c, n, d⟩⟩
theorem fin_tup {X : Cx} {pins : List (Addr × Obj)} {σ : L2.St} {s : Shared} {Q : VK} {xs : List V} {its : List Value} (I : Inv X pins σ H s) (hz : xs.length ≤ sizeLine) (r : Vals xs its) (q : NewT H Q xs) :
    EP X pins σ Q (.ref s.heap.objs.size) { s with heap := s.heap.push { cls := .type "tuple", data := .seq its.toArray } } :=
  ⟨.ref s.heap.objs.size, _, I.laid (t' := s.toks) (fun _ _ e => Heap.get?_push_of_some _ e) (Nat.le_refl _) (tup_ok hz r (Heap.get?_push_size _ rfl) rfl rfl), rfl, q _ (I.hok.fresh (Nat.le_refl _)) _ ⟨rfl, rfl⟩⟩
/-- a new list that nobody changes -/
theorem new_lst {a : Addr} {ds : List D} {xs : List V} (s : StRel K p S H) (h : H a = none) (r : RepL K H p ds xs) :
    Ext p H p (upd H a (.lst xs)) ∧ StRel K p S (upd H a (.lst xs)) ∧ RepV K (upd H a (.lst xs)) p (.lst ds) (.ref a) :=
  ⟨Ext.of_same (same_upd h), s.same (same_upd h), a, xs, rfl, upd_same, (s.free h).1, (s.free h).2, RepL.ext s (Ext.of_same (same_upd h)) _ _ r⟩

/-- a place is taken into the store -/
def Pl.add (p : Pl) (a : Addr) : Pl := ⟨p.mu ++ [a], p.hid⟩
theorem Ext.add {a : Addr} (h : H a = none) (k : ∀ b o, H b = some o → H' b = some o) : Ext p H (p.add a) H' :=
  ⟨fun _ h => h, fun _ h => .inl h, ⟨[a], rfl, by simpa using h⟩, fun b o e _ => k b o e, fun b o e => ⟨o, k b o e⟩, fun b o u e => k b _ e⟩
theorem new_mo {a : Addr} {mo : MO} {o : HO} (s : StRel K p S H) (h : H a = none) (m : MoRel K (upd H a o) (p.add a) mo a) :
    Ext p H (p.add a) (upd H a o) ∧ StRel K (p.add a) (S ++ [mo]) (upd H a o) ∧ RepV K (upd H a o) (p.add a) (.ref S.length) (.ref a) := by
  have x : Ext p H (p.add a) (upd H a o) := Ext.add h (same_upd h)
  have fr := s.free h
  refine ⟨x, ⟨?_, ?_, ?_, ?_, ?_⟩, a, rfl, ?_⟩
  · simp [Pl.add, s.len]
  · refine List.nodup_append.mpr ⟨s.nd, by simp, fun b hb c hc e => ?_⟩
    have : c = a := by simpa using hc
    subst this; subst e; exact fr.1 hb
  · intro b hb
    rcases List.mem_append.mp hb with hb | hb
    · exact s.dis b hb
    · have : b = a := by simpa using hb
      subst this; exact fr.2
  · intro b hb
    obtain ⟨u, e⟩ := s.hid b hb
    exact ⟨u, same_upd h b u e⟩
  · intro n mo' e
    by_cases hn : n < S.length
    · rw [List.getElem?_append_left hn] at e
      obtain ⟨b, e1, m1⟩ := s.obj n mo' e
      refine ⟨b, ?_, m1.ext s x (same_upd h b)⟩
      show (p.mu ++ [a])[n]? = some b
      rw [List.getElem?_append_left (by rw [s.len]; exact hn)]; exact e1
    · rw [List.getElem?_append_right (by omega)] at e
      have z : n - S.length = 0 := by
        by_cases z : n - S.length = 0
        · exact z
        · rw [List.getElem?_eq_none (by simp; omega)] at e; cases e
      have hn' : n = S.length := by omega
      subst hn'
      simp at e
      subst e
      refine ⟨a, ?_, m⟩
      show (p.mu ++ [a])[S.length]? = some a
      rw [← s.len]; simp
  · show (p.mu ++ [a])[S.length]? = some a
    rw [← s.len]; simp
/-- an object of the store is changed -/
theorem set_mo {n : Nat} {a : Addr} {mo : MO} {o : HO} (s : StRel K p S H) (hn : p.mu[n]? = some a) (hf : ∀ o u, H a ≠ some (.frz o u)) (ho : (∀ xs, o ≠ .tup xs) ∧ ∀ ob xs, o ≠ .frz ob (.tup xs)) (m : Ext p H p (upd H a o) → MoRel K (upd H a o) p mo a) :
    Ext p H p (upd H a o) ∧ StRel K p (S.set n mo) (upd H a o) := by
  have ha : a ∈ p.mu := List.mem_of_getElem? hn
  obtain ⟨o0, e0, _⟩ := s.has ha
  have x : Ext p H p (upd H a o) := by
    refine ⟨fun _ h => h, fun _ h => .inl h, ⟨[], by simp, by simp⟩, fun b u e hb => ?_, fun b u e => ?_, fun b o u e => by rw [upd_ne (fun z => by rw [z] at e; exact hf _ _ e)]; exact e⟩
    · rw [upd_ne (fun z => hb (by rw [z]; exact ha))]; exact e
    · by_cases hb : b = a
      · subst hb; exact ⟨o, upd_same⟩
      · exact ⟨u, by rw [upd_ne hb]; exact e⟩
  refine ⟨x, ⟨by simp [s.len], s.nd, s.dis, fun b hb => ?_, fun k mo' e => ?_⟩⟩
  · obtain ⟨u, e⟩ := s.hid b hb
    exact x.there b u e
  · by_cases hk : k = n
    · subst hk
      by_cases hl : k < S.length
      · rw [List.getElem?_set_self hl] at e
        cases e
        exact ⟨a, hn, m x⟩
      · rw [List.getElem?_eq_none (by simpa using hl)] at e; cases e
    · rw [List.getElem?_set_ne (Ne.symm hk)] at e
      obtain ⟨b, e1, m1⟩ := s.obj k mo' e
      refine ⟨b, e1, m1.ext s x fun u eu => ?_⟩
      have hb : b ≠ a := fun z => by
        subst z
        obtain ⟨h1, q1⟩ := List.getElem?_eq_some_iff.mp hn
        obtain ⟨h2, q2⟩ := List.getElem?_eq_some_iff.mp e1
        exact hk ((List.getElem_inj s.nd).mp (q2.trans q1.symm))
      rw [upd_ne hb]; exact eu
end

/-! ### the slots -/
def EnvRel (K : PySem.W.Frag) (H : Hp) (p : Pl) (rho : EnvD) (sig : L2.St) : Prop :=
  rho.length = sig.length ∧ ∀ (i : Nat) (d : D), rho[i]? = some (some d) → ∃ v, sig[i]? = some (some v) ∧ RepV K H p d v
theorem EnvRel.ext {K : PySem.W.Frag} {H H' : Hp} {p q : Pl} {S : Sto} {rho : EnvD} {sig : L2.St} (s : StRel K p S H) (x : Ext p H q H') (h : EnvRel K H p rho sig) : EnvRel K H' q rho sig :=
  ⟨h.1, fun i d e => let ⟨v, e1, r⟩ := h.2 i d e; ⟨v, e1, RepV.ext s x d v r⟩⟩
theorem EnvRel.set {K : PySem.W.Frag} {H : Hp} {p : Pl} {rho : EnvD} {sig : L2.St} (h : EnvRel K H p rho sig) (i : Nat) {d : D} {v : V} (r : RepV K H p d v) : EnvRel K H p (rho.set i (some d)) (sig.set i (some v)) := by
  refine ⟨by simp [h.1], fun j d' e => ?_⟩
  by_cases hj : i = j
  · subst hj
    by_cases hl : i < rho.length
    · rw [List.getElem?_set_self hl] at e
      cases e
      exact ⟨v, List.getElem?_set_self (by rw [← h.1]; exact hl), r⟩
    · rw [List.getElem?_eq_none (by simpa using hl)] at e; cases e
  · rw [List.getElem?_set_ne hj] at e ⊢
    exact h.2 j d' e
theorem EnvRel.unset {K : PySem.W.Frag} {H : Hp} {p : Pl} {rho : EnvD} {sig : L2.St} (h : EnvRel K H p rho sig) (i : Nat) {o : Option V} : EnvRel K H p (rho.set i none) (sig.set i o) := by
  refine ⟨by simp [h.1], fun j d' e => ?_⟩
  by_cases hj : i = j
  · subst hj
    by_cases hl : i < rho.length
    · rw [List.getElem?_set_self hl] at e; cases e
    · rw [List.getElem?_eq_none (by simpa using hl)] at e; cases e
  · rw [List.getElem?_set_ne hj] at e ⊢
    exact h.2 j d' e

/-! ### what is wanted behind a run -/
/-- an exception's record: the class at C, its own dict at dx -/
def ExR (G : GC) (H : Hp) (p : Pl) (x : Ex) (c : Value) (d : Option Addr) : Prop :=
  ∃ (C dx : Addr) (vs : List (Str × V)), G.mg x.cls = some (.ref C) ∧ c = .ref C ∧ d = some dx ∧ H dx = some (.xd vs) ∧ dx ∉ p.mu ∧ x.fs.map (·.1) = vs.map (·.1) ∧ RepL G.K H p (x.fs.map (·.2)) (vs.map (·.2))
def Post {A B : Type} (rel : Hp → Pl → A → B → Prop) (G : GC) (p : Pl) (H : Hp) (W : Value → Option Addr → Hp → Prop) (Q : B → Hp → Prop) : R A → Prop
  | .ok d S' => ∀ q H' v, Ext p H q H' → StRel G.K q S' H' → rel H' q d v → Q v H'
  | .exc x S' => ∀ q H' c d, Ext p H q H' → StRel G.K q S' H' → ExR G H' q x c d → W c d H'
  | .stuck => False
theorem Post.base {A B : Type} {rel : Hp → Pl → A → B → Prop} {G : GC} {p q : Pl} {H H' : Hp} {W : Value → Option Addr → Hp → Prop} {Q : B → Hp → Prop} {r : R A} (x : Ext p H q H') (h : Post rel G p H W Q r) : Post rel G q H' W Q r := by
  cases r with
  | ok d S' => exact fun q2 H2 v x2 s r => h q2 H2 v (x.trans x2) s r
  | exc e S' => exact fun q2 H2 c d x2 s r => h q2 H2 c d (x.trans x2) s r
  | stuck => exact h
theorem Post.imp {A B : Type} {rel : Hp → Pl → A → B → Prop} {G : GC} {p : Pl} {H : Hp} {W : Value → Option Addr → Hp → Prop} {Q Q' : B → Hp → Prop} {r : R A} (h : Post rel G p H W Q r) (k : ∀ v H', Q v H' → Q' v H') : Post rel G p H W Q' r := by
  cases r with
  | ok d S' => exact fun q2 H2 v x2 s r => k _ _ (h q2 H2 v x2 s r)
  | exc e S' => exact h
  | stuck => exact h
def PostS (G : GC) (p : Pl) (H : Hp) (W : WX) (Dn : Ends) : RS → Prop
  | .nx rho' S' => ∀ q H' sig', Ext p H q H' → StRel G.K q S' H' → EnvRel G.K H' q rho' sig' → Dn.nx sig' H'
  | .rt d S' => ∀ q H' v, Ext p H q H' → StRel G.K q S' H' → RepV G.K H' q d v → Dn.rt v H'
  | .bk rho' S' => ∀ q H' sig', Ext p H q H' → StRel G.K q S' H' → EnvRel G.K H' q rho' sig' → Dn.bk sig' H'
  | .ct rho' S' => ∀ q H' sig', Ext p H q H' → StRel G.K q S' H' → EnvRel G.K H' q rho' sig' → Dn.ct sig' H'
  | .exc x rho' S' => ∀ q H' sig' c d, Ext p H q H' → StRel G.K q S' H' → EnvRel G.K H' q rho' sig' → ExR G H' q x c d → W c d sig' H'
  | .stuck => False
theorem PostS.base {G : GC} {p q : Pl} {H H' : Hp} {W : WX} {Dn : Ends} {r : RS} (x : Ext p H q H') (h : PostS G p H W Dn r) : PostS G q H' W Dn r := by
  cases r with
  | nx rho' S' => exact fun q2 H2 v x2 s r => h q2 H2 v (x.trans x2) s r
  | rt d S' => exact fun q2 H2 v x2 s r => h q2 H2 v (x.trans x2) s r
  | bk rho' S' => exact fun q2 H2 v x2 s r => h q2 H2 v (x.trans x2) s r
  | ct rho' S' => exact fun q2 H2 v x2 s r => h q2 H2 v (x.trans x2) s r
  | exc e rho' S' => exact fun q2 H2 v c d x2 s r => h q2 H2 v c d (x.trans x2) s r
  | stuck => exact h

abbrev ME := EnvD → Sto → R D
abbrev MB := EnvD → Sto → R Bool
abbrev MA := EnvD → Sto → R (List D)
abbrev MS := EnvD → Sto → RS
abbrev MF := List D → Sto → R D
abbrev gOf (X : Cx) : GC := ⟨X.K, X.mg⟩
def relB (_ : Hp) (_ : Pl) (a b : Bool) : Prop := a = b
/-- the readings that say what a mirror computes -/
def rd {A B : Type} (rel : GC → Hp → Pl → A → B → Prop) (G : GC) (W : WX) (m : EnvD → Sto → R A) : L2.St → Hp → (B → Hp → Prop) → Prop := fun sig H Q =>
  ∃ p S rho, StRel G.K p S H ∧ EnvRel G.K H p rho sig ∧ Post (rel G) G p H (fun c d H' => W c d sig H') Q (m rho S)
def dE (G : GC) (W : WX) (m : ME) : TE := rd (fun G => RepV G.K) G W m
def dB (G : GC) (W : WX) (m : MB) : TT := rd (fun _ => relB) G W m
def dA (G : GC) (W : WX) (m : MA) : TA := rd (fun G => RepL G.K) G W m
def dS (G : GC) (W : WX) (m : MS) : TS := fun Dn sig H => ∃ p S rho, StRel G.K p S H ∧ EnvRel G.K H p rho sig ∧ PostS G p H W Dn (m rho S)
def DE (X : Cx) (W : WX) (e : Expr) (m : ME) : Prop := PE X e (dE (gOf X) W m)
def DT (X : Cx) (W : WX) (e : Expr) (m : MB) : Prop := PT X e (dB (gOf X) W m)
def DW (X : Cx) (W : WX) (e : Expr) (m : MB) : Prop := PW X e (dB (gOf X) W m)
def DA (X : Cx) (W : WX) (es : List Expr) (m : MA) : Prop := PA X es (dA (gOf X) W m)
def DS (X : Cx) (W : WX) (st : Stmt) (m : MS) : Prop := PS X st (dS (gOf X) W m)
def DSs (X : Cx) (W : WX) (st : List Stmt) (m : MS) : Prop := PSs X st (dS (gOf X) W m)
/-- what holds of a context throughout -/
structure Fit (X : Cx) (W : WX) (k : Nat) : Prop where
  calm : X.calm = true
  nd : X.N.Nodup
  tk : Takes X W
  room : Room k X.A

theorem pe_imp {X : Cx} {e : Expr} {t t' : TE} (h : PE X e t) (i : ∀ sig H Q, t' sig H Q → t sig H Q) : PE X e t' := ⟨fun pins s σ H Q I q => h.run pins s σ H Q I (i _ _ _ q)⟩
theorem pt_imp {X : Cx} {e : Expr} {t t' : TT} (h : PT X e t) (i : ∀ sig H Q, t' sig H Q → t sig H Q) : PT X e t' := ⟨fun pins s σ H Q I q => h.run pins s σ H Q I (i _ _ _ q)⟩
theorem pw_imp {X : Cx} {e : Expr} {t t' : TT} (h : PW X e t) (i : ∀ sig H Q, t' sig H Q → t sig H Q) : PW X e t' := ⟨fun w pins s σ H Q I q => h.run w pins s σ H Q I (i _ _ _ q)⟩
theorem pa_imp {X : Cx} {e : List Expr} {t t' : TA} (h : PA X e t) (i : ∀ sig H Q, t' sig H Q → t sig H Q) : PA X e t' := ⟨fun pos pins s σ H Q I q => h.run pos pins s σ H Q I (i _ _ _ q)⟩
theorem ps_imp {X : Cx} {e : Stmt} {t t' : TS} (h : PS X e t) (i : ∀ Dn sig H, t' Dn sig H → t Dn sig H) : PS X e t' := ⟨fun pins s σ H Q I q => h.run pins s σ H Q I (i _ _ _ q)⟩
theorem pss_imp {X : Cx} {e : List Stmt} {t t' : TS} (h : PSs X e t) (i : ∀ Dn sig H, t' Dn sig H → t Dn sig H) : PSs X e t' := ⟨fun pins s σ H Q I q => h.run pins s σ H Q I (i _ _ _ q)⟩

/-- THE STEP: a part is run, then what follows -/
theorem rd_use {A B A' B' : Type} {rel : GC → Hp → Pl → A → B → Prop} {rel' : GC → Hp → Pl → A' → B' → Prop} {G : GC} {W : WX} {m : EnvD → Sto → R A} {k : A → Sto → R A'} {p : Pl} {S : Sto} {rho : EnvD} {sig : L2.St} {H : Hp} {Q : B' → Hp → Prop} {Q1 : B → Hp → Prop}
    (hs : StRel G.K p S H) (he : EnvRel G.K H p rho sig) (h : Post (rel' G) G p H (fun c d H' => W c d sig H') Q ((m rho S).bind k))
    (hk : ∀ d S1 q H1 v, Ext p H q H1 → StRel G.K q S1 H1 → EnvRel G.K H1 q rho sig → rel G H1 q d v → Post (rel' G) G q H1 (fun c d H' => W c d sig H') Q (k d S1) → Q1 v H1) : rd rel G W m sig H Q1 := by
  refine ⟨p, S, rho, hs, he, ?_⟩
  cases hm : m rho S with
  | ok d S1 =>
    rw [hm] at h
    intro q H1 v x s r
    exact hk d S1 q H1 v x s (EnvRel.ext hs x he) r (Post.base x h)
  | exc e S1 => rw [hm] at h; exact h
  | stuck => rw [hm] at h; exact h
theorem dE_use {A' B' : Type} {rel' : GC → Hp → Pl → A' → B' → Prop} {G : GC} {W : WX} {m : ME} {k : D → Sto → R A'} {p : Pl} {S : Sto} {rho : EnvD} {sig : L2.St} {H : Hp} {Q : B' → Hp → Prop} {Q1 : V → Hp → Prop}
    (hs : StRel G.K p S H) (he : EnvRel G.K H p rho sig) (h : Post (rel' G) G p H (fun c d H' => W c d sig H') Q ((m rho S).bind k))
    (hk : ∀ d S1 q H1 v, Ext p H q H1 → StRel G.K q S1 H1 → EnvRel G.K H1 q rho sig → RepV G.K H1 q d v → Post (rel' G) G q H1 (fun c d H' => W c d sig H') Q (k d S1) → Q1 v H1) : dE G W m sig H Q1 :=
  rd_use (rel := fun G => RepV G.K) hs he h hk
theorem dB_use {A' B' : Type} {rel' : GC → Hp → Pl → A' → B' → Prop} {G : GC} {W : WX} {m : MB} {k : Bool → Sto → R A'} {p : Pl} {S : Sto} {rho : EnvD} {sig : L2.St} {H : Hp} {Q : B' → Hp → Prop} {Q1 : Bool → Hp → Prop}
    (hs : StRel G.K p S H) (he : EnvRel G.K H p rho sig) (h : Post (rel' G) G p H (fun c d H' => W c d sig H') Q ((m rho S).bind k))
    (hk : ∀ d S1 q H1, Ext p H q H1 → StRel G.K q S1 H1 → EnvRel G.K H1 q rho sig → Post (rel' G) G q H1 (fun c d H' => W c d sig H') Q (k d S1) → Q1 d H1) : dB G W m sig H Q1 :=
  rd_use (rel := fun _ => relB) hs he h fun d S1 q H1 v x s e r h => by
    have r' : d = v := r
    subst r'
    exact hk d S1 q H1 x s e h
theorem dA_use {A' B' : Type} {rel' : GC → Hp → Pl → A' → B' → Prop} {G : GC} {W : WX} {m : MA} {k : List D → Sto → R A'} {p : Pl} {S : Sto} {rho : EnvD} {sig : L2.St} {H : Hp} {Q : B' → Hp → Prop} {Q1 : List V → Hp → Prop}
    (hs : StRel G.K p S H) (he : EnvRel G.K H p rho sig) (h : Post (rel' G) G p H (fun c d H' => W c d sig H') Q ((m rho S).bind k))
    (hk : ∀ d S1 q H1 v, Ext p H q H1 → StRel G.K q S1 H1 → EnvRel G.K H1 q rho sig → RepL G.K H1 q d v → Post (rel' G) G q H1 (fun c d H' => W c d sig H') Q (k d S1) → Q1 v H1) : dA G W m sig H Q1 :=
  rd_use (rel := fun G => RepL G.K) hs he h hk
theorem rd_useS {A B : Type} {rel : GC → Hp → Pl → A → B → Prop} {G : GC} {W : WX} {m : EnvD → Sto → R A} {k : A → Sto → RS} {p : Pl} {S : Sto} {rho : EnvD} {sig : L2.St} {H : Hp} {Dn : Ends} {Q1 : B → Hp → Prop}
    (hs : StRel G.K p S H) (he : EnvRel G.K H p rho sig) (h : PostS G p H W Dn (match m rho S with | .ok d S1 => k d S1 | .exc x S1 => .exc x rho S1 | .stuck => .stuck))
    (hk : ∀ d S1 q H1 v, Ext p H q H1 → StRel G.K q S1 H1 → EnvRel G.K H1 q rho sig → rel G H1 q d v → PostS G q H1 W Dn (k d S1) → Q1 v H1) : rd rel G W m sig H Q1 := by
  refine ⟨p, S, rho, hs, he, ?_⟩
  cases hm : m rho S with
  | ok d S1 =>
    rw [hm] at h
    intro q H1 v x s r
    exact hk d S1 q H1 v x s (EnvRel.ext hs x he) r (PostS.base x h)
  | exc e S1 =>
    rw [hm] at h
    intro q H1 c d x s r
    exact h q H1 sig c d x s (EnvRel.ext hs x he) r
  | stuck => rw [hm] at h; exact h
end DL

namespace DL
open PySem PySem.Spec PyProof.Rows L2

/-! ### names, constants -/
section
variable {X : Cx} {W : WX} {pos : Pos}
def mVar (i : Nat) : ME := fun rho S => match rho[i]? with
  | some (some d) => .ok d S
  | _ => .stuck
theorem de_var (i : Nat) {x : Str} (hN : X.N[i]? = some x := by rfl) (hv : Vis X.env.scope x := by first | exact Or.inl rfl | exact Or.inr (Or.inl rfl) | exact Or.inr (Or.inr rfl)) (hd : (x == ("__debug__" : Str)) = false := by decide)
    (hcd : (x == ("__classdict__" : Str)) = false := by decide) : DE X W (.Name x pos) (mVar i) :=
  pe_imp (pe_var hN hv hd hcd) fun sig H Q ⟨p, S, rho, hs, he, h⟩ => by
    unfold mVar at h
    split at h
    · rename_i d e
      obtain ⟨v, e1, r⟩ := he.2 i d e
      exact ⟨v, e1, h p H v Ext.refl hs r⟩
    · exact h.elim
def mC (d : D) : ME := fun _ S => .ok d S
theorem de_c {e : Expr} {v : V} {d : D} (h : PE X e (tC v)) (r : ∀ K H p, RepV K H p d v) : DE X W e (mC d) :=
  pe_imp h fun sig H Q ⟨p, S, rho, hs, he, h⟩ => h p H v Ext.refl hs (r _ _ _)
theorem de_int {i j} : DE X W (.Constant (.int i) j pos) (mC (.int i)) := de_c pe_int fun _ _ _ => rfl
theorem de_bl {b j} : DE X W (.Constant (.bool b) j pos) (mC (.bl b)) := de_c pe_bl fun _ _ _ => rfl
theorem de_non {j} : DE X W (.Constant .none j pos) (mC .non) := de_c pe_non fun _ _ _ => rfl
theorem de_str {x j} : DE X W (.Constant (.str x) j pos) (mC (.str x)) := de_c pe_str fun _ _ _ => rfl
theorem de_glob {x : Str} {i : Int} (hm : ∃ t, X.mg x = some (.int i t)) (hg : Gl X x := by rfl) (hd : (x == ("__debug__" : Str)) = false := by decide) : DE X W (.Name x pos) (mC (.int i)) := by
  obtain ⟨t, e⟩ := hm
  exact de_c (pe_glob hg e (v := .int i) ⟨t, rfl⟩ hd) fun _ _ _ => rfl
end

/-! ### two operands -/
def mOp2 (g : D → D → Sto → R D) (a b : ME) : ME := fun rho S => (a rho S).bind fun x S1 => (b rho S1).bind fun y S2 => g x y S2
def OpD (G : GC) (r : R2) (g : D → D → Sto → R D) : Prop :=
  ∀ (p : Pl) (S : Sto) (H : Hp) (x y : V) (dx dy : D) (W : Value → Option Addr → Hp → Prop) (Q : VK), StRel G.K p S H → RepV G.K H p dx x → RepV G.K H p dy y → Post (RepV G.K) G p H W Q (g dx dy S) → r x y H Q
theorem rd_op2 {G : GC} {W : WX} {r : R2} {g : D → D → Sto → R D} {ma mb : ME} {sig : L2.St} {H : Hp} {Q : VK} (hd : OpD G r g) (h : dE G W (mOp2 g ma mb) sig H Q) : tOp r (dE G W ma) (dE G W mb) sig H Q := by
  obtain ⟨p, S, rho, hs, he, h⟩ := h
  refine dE_use (rel' := fun G => RepV G.K) hs he h fun d S1 q H1 v x s1 e1 r1 h1 => ?_
  refine dE_use (rel' := fun G => RepV G.K) s1 e1 h1 fun d2 S2 q2 H2 v2 x2 s2 e2 r2 h2 => ?_
  exact hd q2 S2 H2 v v2 d d2 _ Q s2 (RepV.ext s1 x2 d v r1) r2 h2
section
variable {X : Cx} {W : WX} {pos : Pos} {a b c e : Expr} {ma mb mc : ME} {g g' : D → D → Sto → R D} {r r' : R2}
theorem de_op {op : Operator} (ho : OpR X (binaryOp op) r) (hd : OpD (gOf X) r g) (ha : DE X W a ma) (hb : DE X W b mb) : DE X W (.BinOp a op b pos) (mOp2 g ma mb) :=
  pe_imp (pe_op ho ha hb) fun _ _ _ h => rd_op2 hd h
theorem de_cmp {op : CmpOp} (ho : OpR X (compareOp op) r) (hd : OpD (gOf X) r g) (ha : DE X W a ma) (hb : DE X W b mb) (hm : behindInMarks op b = false := by first | exact nomark _ | rfl) : DE X W (.Compare a [op] [b] pos) (mOp2 g ma mb) :=
  pe_imp (pe_cmpR ho ha hb hm) fun _ _ _ h => rd_op2 hd h
/-- a truth value as a test -/
def mT (m : ME) : MB := fun rho S => (m rho S).bind fun d S1 => match d with
  | .bl k => .ok k S1
  | _ => .stuck
theorem rd_bool {G : GC} {W : WX} {m : ME} {sig : L2.St} {H : Hp} {Q : Bool → Hp → Prop} (h : dB G W (mT m) sig H Q) : dE G W m sig H fun x H' => ∃ k, x = .bl k ∧ Q k H' := by
  obtain ⟨p, S, rho, hs, he, h⟩ := h
  refine dE_use (rel' := fun _ => relB) hs he h fun d S1 q H1 v x s1 e1 r1 h1 => ?_
  cases d with
  | bl k => exact ⟨k, r1, h1 q H1 k Ext.refl s1 rfl⟩
  | _ => exact h1.elim
theorem dt_cmp {op : CmpOp} (ho : OpR X (compareOp op) r) (hd : OpD (gOf X) r g) (ha : DE X W a ma) (hb : DE X W b mb) (hm : behindInMarks op b = false := by first | exact nomark _ | rfl) : DT X W (.Compare a [op] [b] pos) (mT (mOp2 g ma mb)) :=
  pt_imp (pt_cmpR ho ha hb hm) fun _ _ Q h => by
    have q := rd_bool h
    exact rd_op2 hd q
def mChain (g g' : D → D → Sto → R D) (a b c : ME) : ME := fun rho S => (a rho S).bind fun x S1 => (b rho S1).bind fun y S2 => (g x y S2).bind fun z S3 => match z with
  | .bl true => (c rho S3).bind fun w S4 => g' y w S4
  | .bl false => .ok (.bl false) S3
  | _ => .stuck
theorem rd_chain {G : GC} {W : WX} {sig : L2.St} {H : Hp} {Q : VK} (hd : OpD G r g) (hd' : OpD G r' g') (h : dE G W (mChain g g' ma mb mc) sig H Q) : tChain r r' (dE G W ma) (dE G W mb) (dE G W mc) sig H Q := by
  obtain ⟨p, S, rho, hs, he, h⟩ := h
  refine dE_use (rel' := fun G => RepV G.K) hs he h fun d S1 q H1 v x s1 e1 r1 h1 => ?_
  refine dE_use (rel' := fun G => RepV G.K) s1 e1 h1 fun d2 S2 q2 H2 v2 x2 s2 e2 r2 h2 => ?_
  refine hd q2 S2 H2 v v2 d d2 (fun c d H' => W c d sig H') _ s2 (RepV.ext s1 x2 d v r1) r2 ?_
  cases hg : g d d2 S2 with
  | ok z S3 =>
    rw [hg] at h2
    intro q3 H3 v3 x3 s3 r3
    have h3 := Post.base x3 h2
    cases z with
    | bl k =>
      refine ⟨k, r3, ?_⟩
      cases k with
      | true =>
        rw [if_pos rfl]
        refine dE_use (rel' := fun G => RepV G.K) s3 (EnvRel.ext s2 x3 e2) h3 fun d4 S4 q4 H4 v4 x4 s4 e4 r4 h4 => ?_
        exact hd' q4 S4 H4 v2 v4 d2 d4 _ Q s4 (RepV.ext s3 x4 _ _ (RepV.ext s2 x3 _ _ r2)) r4 h4
      | false =>
        rw [if_neg Bool.false_ne_true]
        exact h3 q3 H3 _ Ext.refl s3 rfl
    | _ => exact h3.elim
  | exc x S3 => rw [hg] at h2; exact h2
  | stuck => rw [hg] at h2; exact h2
theorem de_chain {op op' : CmpOp} (ho : OpR X (compareOp op) r) (ho' : OpR X (compareOp op') r') (hd : OpD (gOf X) r g) (hd' : OpD (gOf X) r' g') (ha : DE X W a ma) (hb : DE X W b mb) (hc : DE X W c mc)
    (hm : lastMarks [op, op'] [b, c] = false := by with_unfolding_all rfl) : DE X W (.Compare a [op, op'] [b, c] pos) (mChain g g' ma mb mc) :=
  pe_imp (pe_chain ho ho' ha hb hc hm) fun _ _ _ h => rd_chain hd hd' h
theorem dt_chain {op op' : CmpOp} (ho : OpR X (compareOp op) r) (ho' : OpR X (compareOp op') r') (hd : OpD (gOf X) r g) (hd' : OpD (gOf X) r' g') (ha : DE X W a ma) (hb : DE X W b mb) (hc : DE X W c mc)
    (hm : lastMarks [op, op'] [b, c] = false := by with_unfolding_all rfl) : DT X W (.Compare a [op, op'] [b, c] pos) (mT (mChain g g' ma mb mc)) :=
  pt_imp (pt_chain ho ho' ha hb hc hm) fun _ _ Q h => by
    have q := rd_bool h
    exact rd_chain hd hd' q
end
end DL

namespace DL
open PySem PySem.Spec PyProof.Rows L2

theorem lineN {n : Nat} (h : n ≤ 16777216) : n ≤ sizeLine := by rw [sizeLine_eq]; exact h
theorem lineL {n : Nat} (h : n < 16777216) : n < sizeLine := by rw [sizeLine_eq]; exact h

/-! ### lists and tuples as items -/
def lstOf (S : Sto) : D → Option (List D)
  | .lst ds => some ds
  | .ref n => match S[n]? with
    | some (.lst ds) => some ds
    | _ => none
  | _ => none
def seqOf (S : Sto) : D → Option (List D)
  | .tup ds => some ds
  | d => lstOf S d
section
variable {K : PySem.W.Frag} {H : Hp} {p : Pl} {S : Sto} {d : D} {v : V} {ds : List D}
theorem lst_rep (s : StRel K p S H) (r : RepV K H p d v) (e : lstOf S d = some ds) : ∃ a xs, v = .ref a ∧ H a = some (.lst xs) ∧ RepL K H p ds xs := by
  unfold lstOf at e
  split at e
  · cases e
    obtain ⟨a, xs, e1, e2, _, _, l⟩ := r
    exact ⟨a, xs, e1, e2, l⟩
  · rename_i n
    split at e
    · rename_i ds' e'
      cases e
      obtain ⟨a, e1, hn⟩ := r
      obtain ⟨b, hb, xs, e2, l⟩ := s.obj n _ e'
      rw [hn] at hb; cases hb
      exact ⟨a, xs, e1, e2, l⟩
    · cases e
  · cases e
theorem seq_rep (s : StRel K p S H) (r : RepV K H p d v) (e : seqOf S d = some ds) : ∃ a xs, v = .ref a ∧ (SqL K H a xs ∨ SqT K H a xs) ∧ RepL K H p ds xs := by
  unfold seqOf at e
  split at e
  · cases e
    obtain ⟨a, xs, e1, e2, l⟩ := r
    exact ⟨a, xs, e1, .inr e2.t, l⟩
  · obtain ⟨a, xs, e1, e2, l⟩ := lst_rep s r e
    exact ⟨a, xs, e1, .inl (.inl (.inl e2)), l⟩
end
section
variable {G : GC} {H : Hp} {p : Pl} {S : Sto} {W : Value → Option Addr → Hp → Prop} {Q : VK} {ds : List D} {xs : List V}
theorem post_v {d : D} {v : V} (h : Post (RepV G.K) G p H W Q (.ok d S)) (s : StRel G.K p S H) (r : RepV G.K H p d v) : Q v H := h p H v Ext.refl s r
theorem post_lst (h : Post (RepV G.K) G p H W Q (.ok (.lst ds) S)) (s : StRel G.K p S H) (r : RepL G.K H p ds xs) : ∀ q, H q = none → Q (.ref q) (upd H q (.lst xs)) := fun q hq => by
  obtain ⟨x, s', r'⟩ := new_lst s hq r
  exact h p _ _ x s' r'
theorem post_tup (h : Post (RepV G.K) G p H W Q (.ok (.tup ds) S)) (s : StRel G.K p S H) (r : RepL G.K H p ds xs) : NewT H Q xs := fun q hq o c => by
  obtain ⟨x, s', r'⟩ := new_tup s hq c r
  exact h p _ _ x s' r'
theorem post_new (h : Post (RepV G.K) G p H W Q (.ok (.ref S.length) (S ++ [.lst ds]))) (s : StRel G.K p S H) (r : RepL G.K H p ds xs) : ∀ q, H q = none → Q (.ref q) (upd H q (.lst xs)) := fun q hq => by
  obtain ⟨x, s', r'⟩ := new_mo (mo := .lst ds) (o := .lst xs) s hq ⟨xs, upd_same, RepL.ext s (Ext.add hq (same_upd hq)) _ _ r⟩
  exact h _ _ _ x s' r'
end

/-! ### operators on ints, texts, tuples, lists -/
def opAdd (x y : D) (S : Sto) : R D := match x, y with
  | .int i, .int j => .ok (.int (i + j)) S
  | .str a, .str b => if a.length + b.length ≤ 16777216 then .ok (.str (a ++ b)) S else .stuck
  | .tup xs, .tup ys => if xs.length + ys.length ≤ 16777216 then .ok (.tup (xs ++ ys)) S else .stuck
  | x, y => match lstOf S x, lstOf S y with
    | some xs, some ys => if xs.length + ys.length ≤ 16777216 then .ok (.lst (xs ++ ys)) S else .stuck
    | _, _ => .stuck
/-- t + u as a known object -/
def rCatX (K : PySem.W.Frag) : R2 := fun x y H Q => ∃ a b xs ys, x = .ref a ∧ y = .ref b ∧ SqT K H a xs ∧ SqT K H b ys ∧ xs.length + ys.length ≤ sizeLine ∧
  (xs = [] → Q (.ref b) H) ∧ (xs ≠ [] → ys = [] → Q (.ref a) H) ∧ (xs ≠ [] → ys ≠ [] → NewT H Q (xs ++ ys))
theorem op_catX {X : Cx} : OpR X (binaryOp .Add) (rCatX X.K) := by
  intro pins s σ H x y v u Q I rx ry h
  obtain ⟨a, b, xs, ys, rfl, rfl, ha, hb, hz, q0, q1, q2⟩ := h
  by_cases hx : xs = []
  · exact op_catA pins s σ H _ _ v u Q I rx ry ⟨a, b, xs, ys, rfl, rfl, ha, hb, hz, q0, q1, fun n => absurd hx n⟩
  · by_cases hy : ys = []
    · exact op_catA pins s σ H _ _ v u Q I rx ry ⟨a, b, xs, ys, rfl, rfl, ha, hb, hz, q0, q1, fun _ n => absurd hy n⟩
    · cases rx
      cases ry
      obtain ⟨is, r1, p1, _⟩ := I.tuple ha
      obtain ⟨js, r2, p2, _⟩ := I.tuple hb
      have n1 : is ≠ [] := fun e => hx (r1.nil_iff.mp e)
      have n2 : js ≠ [] := fun e => hy (r2.nil_iff.mp e)
      exact HT.cat_tup p1 p2 n1 (fun e => absurd e n2) (fun _ => fin_tup I (by rw [List.length_append]; exact hz) (r1.append r2) (q2 hx hy)) (by rw [← r1.length, ← r2.length]; exact hz)
def rAddA (K : PySem.W.Frag) : R2 := fun x y H Q => rI0 (fun i j => .int (i + j)) x y H Q ∨ (∃ i j, x = .str i ∧ y = .str j ∧ i.length + j.length ≤ sizeLine ∧ Q (.str (i ++ j)) H) ∨ rCatX K x y H Q ∨ rCat x y H Q
theorem ho_add {X : Cx} : OpR X (binaryOp .Add) (rAddA X.K) := op_add.or (op_add_str.or (op_catX.or op_cat))
theorem hd_add {G : GC} : OpD G (rAddA G.K) opAdd := by
  intro p S H x y dx dy W Q s rx ry h
  unfold opAdd at h
  split at h
  · exact .inl ⟨_, _, rx, ry, post_v h s rfl⟩
  · split at h
    · rename_i hz
      exact .inr (.inl ⟨_, _, rx, ry, lineN hz, post_v h s rfl⟩)
    · exact h.elim
  · split at h
    · rename_i xs ys hz
      obtain ⟨a, us, rfl, ha, la⟩ := rx
      obtain ⟨b, ws, rfl, hb, lb⟩ := ry
      have z : us.length + ws.length ≤ sizeLine := by rw [← la.length, ← lb.length]; exact lineN hz
      refine .inr (.inr (.inl ⟨a, b, us, ws, rfl, rfl, ha.t, hb.t, z, fun e => ?_, fun e1 e2 => ?_, fun e1 e2 => ?_⟩))
      · subst e
        cases xs with
        | nil => exact post_v h s ⟨b, ws, rfl, hb, lb⟩
        | cons c cs => obtain ⟨v, vr, e, _⟩ := la; cases e
      · subst e2
        cases ys with
        | nil => rw [List.append_nil] at h; exact post_v h s ⟨a, us, rfl, ha, la⟩
        | cons c cs => obtain ⟨v, vr, e, _⟩ := lb; cases e
      · exact post_tup h s (la.append lb)
    · exact h.elim
  · split at h
    · rename_i us ws ea eb
      split at h
      · rename_i hz
        obtain ⟨a, xs, rfl, ha, la⟩ := lst_rep s rx ea
        obtain ⟨b, ys, rfl, hb, lb⟩ := lst_rep s ry eb
        exact .inr (.inr (.inr ⟨a, b, xs, ys, rfl, rfl, ha, hb, by rw [← la.length, ← lb.length]; exact lineN hz, post_lst h s (la.append lb)⟩))
      · exact h.elim
    · exact h.elim
/-- an operator on ints alone, under a condition -/
def opI (C : Int → Int → Bool) (g : Int → Int → Int) (x y : D) (S : Sto) : R D := match x, y with
  | .int i, .int j => if C i j = true then .ok (.int (g i j)) S else .stuck
  | _, _ => .stuck
theorem hd_I {G : GC} {C : Int → Int → Bool} {P : Int → Int → Prop} {g : Int → Int → Int} (hc : ∀ i j, C i j = true → P i j) : OpD G (rI P fun i j => .int (g i j)) (opI C g) := by
  intro p S H x y dx dy W Q s rx ry h
  unfold opI at h
  split at h
  · split at h
    · rename_i i j c
      exact ⟨i, j, rx, ry, hc i j c, post_v h s rfl⟩
    · exact h.elim
  · exact h.elim
def opSub (x y : D) (S : Sto) : R D := match x, y with
  | .int i, .int j => .ok (.int (i - j)) S
  | _, _ => .stuck
theorem hd_sub {G : GC} : OpD G (rI0 fun i j => .int (i - j)) opSub := by
  intro p S H x y dx dy W Q s rx ry h
  unfold opSub at h
  split at h
  · exact ⟨_, _, rx, ry, post_v h s rfl⟩
  · exact h.elim
def cMul (i j : Int) : Bool := decide (i.natAbs < 2 ^ 64) || decide (j.natAbs < 2 ^ 64)
def opMul (x y : D) (S : Sto) : R D := match x, y with
  | .int i, .int j => if cMul i j = true then .ok (.int (i * j)) S else .stuck
  | .tup xs, .int k => if 0 < xs.length ∧ xs.length ≤ 1000 ∧ 2 ≤ k ∧ k ≤ 1000 then .ok (.tup (List.replicate k.toNat xs).flatten) S else .stuck
  | x, .int k => match lstOf S x with
    | some xs => if xs.length * k.toNat ≤ 16777216 ∧ -1000000 ≤ k ∧ k ≤ 1000000 then .ok (.lst (List.replicate k.toNat xs).flatten) S else .stuck
    | none => .stuck
  | _, _ => .stuck
/-- t * k as a known object -/
def rRepX (K : PySem.W.Frag) : R2 := fun x y H Q => ∃ l k xs, x = .ref l ∧ y = .int k ∧ SqT K H l xs ∧ xs ≠ [] ∧ 2 ≤ k ∧ k ≤ 1000 ∧ xs.length ≤ 1000 ∧ NewT H Q (List.replicate k.toNat xs).flatten
theorem op_repX {X : Cx} : OpR X (binaryOp .Mult) (rRepX X.K) := by
  intro pins s σ H x y v u Q I rx ry h
  obtain ⟨l, k, xs, rfl, rfl, ht, hne, k2, k3, hl, q⟩ := h
  cases rx
  obtain ⟨t, rfl⟩ := ry
  obtain ⟨is, r, ⟨⟨cls, dd, data, sl⟩, ho, hc, n, hd⟩, _⟩ := I.tuple ht
  simp only at hc hd
  subst hc hd
  have en : is.length = xs.length := r.length.symm
  have ne : is ≠ [] := fun e => hne (r.nil_iff.mp e)
  have em : is.toArray.isEmpty = false := by cases is with
    | nil => exact absurd rfl ne
    | cons => rfl
  have hm : k.toNat * xs.length ≤ 1000 * 1000 := Nat.mul_le_mul (by omega) hl
  have hi : ((is.toArray.size : Nat) : Int) * k ≤ 1000000 := by
    rw [List.size_toArray, en]
    have : ((xs.length : Nat) : Int) * k ≤ 1000 * k := Int.mul_le_mul_of_nonneg_right (by omega) (by omega)
    omega
  have hf : (List.replicate k.toNat is).flatten.length ≤ sizeLine := by rw [PyProof.Rows.lm_len_rep_flat, en, sizeLine_eq]; omega
  refine wpAny_binaryOp_repeat_ref (T := "tuple") (U := "int") (by decide) ⟨_, ho, rfl⟩ (fun s' => typeIs_int s' k t) noFill_tuple_mul F.fills_int_mul F.slot_int_rmul repeat_tuple F.slot_int_index.lookup
    (call_meets F.slot_int_rmul (typeIs_int s k t) F.entry_int_rmul (F.args_int_rmul_2 _ _) (int_rmul_tuple k t l is.toArray n dd sl) ⟨ho, rfl, ⟨_, ho, rfl⟩,
      call_meets F.slot_tuple_mul ⟨_, ho, rfl⟩ F.entry_tuple_mul (F.args_tuple_mul_2 _ _) (tuple_mulW l is.toArray n dd sl k t ?_ ?_ ?_ (by omega) ?_ (by rw [size_rep, List.size_toArray]; exact hf)) ⟨ho, ?_⟩⟩)
  · rw [decide_eq_false (by omega), decide_eq_false (by omega)] <;> rfl
  · rw [em, Bool.false_or]; exact beq_eq_false_iff_ne.mpr (by omega)
  · rw [em, Bool.or_false]; exact decide_eq_false (by omega)
  · unfold Builtin.Tuple.tupleTooMany; rw [sizeLine_eq]; exact decide_eq_false (by omega)
  · rw [size_rep]
    exact fin_tup I (by rw [PyProof.Rows.lm_len_rep_flat, sizeLine_eq]; omega) (r.rep k.toNat) q
def rMulA (K : PySem.W.Frag) : R2 := fun x y H Q => rI CMul (fun i j => .int (i * j)) x y H Q ∨ rRepX K x y H Q ∨ rRep x y H Q
theorem ho_mul {X : Cx} : OpR X (binaryOp .Mult) (rMulA X.K) := op_mul.or (op_repX.or op_rep)
theorem RepL.flat {K : PySem.W.Frag} {H : Hp} {p : Pl} {ds : List D} {xs : List V} (r : RepL K H p ds xs) : ∀ n, RepL K H p (List.replicate n ds).flatten (List.replicate n xs).flatten
  | 0 => RepL.nil
  | n + 1 => by
    rw [List.replicate_succ, List.replicate_succ, List.flatten_cons, List.flatten_cons]
    exact r.append (RepL.flat r n)
theorem hd_mul {G : GC} : OpD G (rMulA G.K) opMul := by
  intro p S H x y dx dy W Q s rx ry h
  unfold opMul at h
  split at h
  · split at h
    · rename_i i j c
      refine .inl ⟨i, j, rx, ry, ?_, post_v h s rfl⟩
      unfold cMul at c
      rw [Bool.or_eq_true, decide_eq_true_eq, decide_eq_true_eq] at c
      rcases c with c | c
      · exact .inl (by constructor <;> omega)
      · exact .inr (by constructor <;> omega)
    · exact h.elim
  · split at h
    · rename_i ds k c
      obtain ⟨a, us, rfl, ha, la⟩ := rx
      refine .inr (.inl ⟨a, k, us, rfl, ry, ha.t, fun e => ?_, c.2.2.1, c.2.2.2, by rw [← la.length]; exact c.2.1, post_tup h s (la.flat _)⟩)
      subst e
      have z := la.length
      rw [List.length_nil] at z
      omega
    · exact h.elim
  · rename_i k h1 h2
    split at h
    · rename_i xs e
      split at h
      · rename_i c
        obtain ⟨a, us, rfl, ha, la⟩ := lst_rep s rx e
        exact .inr (.inr ⟨a, k, us, rfl, ry, ha, by omega, by omega, by rw [← la.length]; exact lineN c.1, post_lst h s (la.flat _)⟩)
      · exact h.elim
    · exact h.elim
  · exact h.elim
def cMod (_ j : Int) : Bool := decide (0 < j)
abbrev opMod := opI cMod fun i j => i % j
theorem hd_mod {G : GC} : OpD G (rI (fun _ j => 0 < j) fun i j => .int (i % j)) opMod := hd_I fun i j c => of_decide_eq_true c
def cDiv (_ j : Int) : Bool := decide (0 < j) && decide (j < 1073741824)
abbrev opDiv := opI cDiv fun i j => i / j
theorem hd_div {G : GC} : OpD G (rI CDiv fun i j => .int (i / j)) opDiv := hd_I fun i j c => by
  unfold cDiv at c
  rw [Bool.and_eq_true, decide_eq_true_eq, decide_eq_true_eq] at c
  exact c
def cPow (i j : Int) : Bool := decide (0 ≤ j) && decide (j ≤ 1000000) && decide (i.natAbs < 2 ^ 64)
theorem cPow_ok {i j : Int} (c : cPow i j = true) : CPow i j := by
  unfold cPow at c
  rw [Bool.and_eq_true, Bool.and_eq_true, decide_eq_true_eq, decide_eq_true_eq, decide_eq_true_eq] at c
  exact ⟨c.1.1, c.1.2, c.2⟩
abbrev opPow := opI cPow fun i j => i ^ j.toNat
theorem hd_pow {G : GC} : OpD G (rI CPow fun i j => .int (i ^ j.toNat)) opPow := hd_I fun i j c => cPow_ok c
abbrev opShl := opI cPow fun i j => i * 2 ^ j.toNat
def cNon (_ j : Int) : Bool := decide (0 ≤ j)
abbrev opShr := opI cNon fun i j => i / 2 ^ j.toNat
def opB (g : Int → Int → Int) (x y : D) (S : Sto) : R D := match x, y with
  | .int i, .int j => .ok (.int (g i j)) S
  | _, _ => .stuck
/-- comparisons of ints -/
def opC (g : Int → Int → Bool) (x y : D) (S : Sto) : R D := match x, y with
  | .int i, .int j => .ok (.bl (g i j)) S
  | _, _ => .stuck
theorem hd_C {G : GC} {g : Int → Int → Bool} : OpD G (rI0 fun i j => .bl (g i j)) (opC g) := by
  intro p S H x y dx dy W Q s rx ry h
  unfold opC at h
  split at h
  · exact ⟨_, _, rx, ry, post_v h s rfl⟩
  · exact h.elim
abbrev opLt := opC fun i j => decide (i < j)
abbrev opLe := opC fun i j => decide (i ≤ j)
abbrev opGt := opC fun i j => decide (j < i)
abbrev opGe := opC fun i j => decide (j ≤ i)
/-- is None -/
def isNon : D → Bool
  | .non => true
  | _ => false
theorem isNon_rep {K : PySem.W.Frag} {H : Hp} {p : Pl} {d : D} {v : V} (r : RepV K H p d v) : decide (v = .non) = isNon d := by
  cases d with
  | non => cases (show v = .non from r); rfl
  | bl b => cases (show v = .bl b from r); rfl
  | int b => cases (show v = .int b from r); rfl
  | str b => cases (show v = .str b from r); rfl
  | tup ds => obtain ⟨a, xs, rfl, _⟩ := r; rfl
  | lst ds => obtain ⟨a, xs, rfl, _⟩ := r; rfl
  | ref n => obtain ⟨a, rfl, _⟩ := r; rfl
  | scr n => obtain ⟨a, rfl, _⟩ := r; rfl
  | rng _ _ => obtain ⟨a, rfl, _⟩ := r; rfl
def opIs (neg : Bool) (x y : D) (S : Sto) : R D := match y with
  | .non => .ok (.bl (if neg = true then !isNon x else isNon x)) S
  | _ => .stuck
theorem hd_is {G : GC} : OpD G (fun x y H Q => y = .non ∧ Q (.bl (decide (x = .non))) H) (opIs false) := by
  intro p S H x y dx dy W Q s rx ry h
  unfold opIs at h
  split at h
  · refine ⟨ry, post_v h s ?_⟩
    rw [isNon_rep rx]; rfl
  · exact h.elim
theorem hd_isnot {G : GC} : OpD G (fun x y H Q => y = .non ∧ Q (.bl (!decide (x = .non))) H) (opIs true) := by
  intro p S H x y dx dy W Q s rx ry h
  unfold opIs at h
  split at h
  · refine ⟨ry, post_v h s ?_⟩
    rw [isNon_rep rx]; rfl
  · exact h.elim

/-! ### equality of data -/
mutual
def pd0 : D → Option PyData
  | .non => some .none
  | .bl b => some (.bool b)
  | .int i => some (.int i)
  | .str x => some (.str x)
  | .tup ds => match pdL ds with
    | some es => some (.tuple es)
    | none => none
  | .lst ds => match pdL ds with
    | some es => some (.list es)
    | none => none
  | .ref _ => none
  | .scr _ => none
  | .rng _ _ => none
def pdL : List D → Option (List PyData)
  | [] => some []
  | d :: ds => match pd0 d, pdL ds with
    | some a, some b => some (a :: b)
    | _, _ => none
end
mutual
def eqD : D → D → Bool
  | .non, .non => true
  | .bl a, .bl b => a == b
  | .bl a, .int j => (if a then 1 else 0) == j
  | .int i, .bl b => i == (if b then 1 else 0)
  | .int i, .int j => i == j
  | .str x, .str y => x == y
  | .lst xs, .lst ys => eqL xs ys
  | .tup xs, .tup ys => eqL xs ys
  | _, _ => false
def eqL : List D → List D → Bool
  | [], [] => true
  | x :: xs, y :: ys => eqD x y && eqL xs ys
  | _, _ => false
end
mutual
/-- plain data through and through -/
def okD : D → Bool
  | .non => true
  | .bl _ => true
  | .int _ => true
  | .str x => PyData.strOk x
  | .tup ds => okL ds
  | .lst ds => okL ds
  | .ref _ => false
  | .scr _ => false
  | .rng _ _ => false
def okL : List D → Bool
  | [] => true
  | d :: ds => okD d && okL ds
end
mutual
def dpD : D → Nat
  | .tup ds => dpL ds + 1
  | .lst ds => dpL ds + 1
  | _ => 0
def dpL : List D → Nat
  | [] => 0
  | d :: ds => max (dpD d) (dpL ds)
end
mutual
theorem pd_ok : ∀ d : D, okD d = true → ∃ e, pd0 d = some e ∧ e.canLay0 = true ∧ e.depth = dpD d
  | .non, _ => ⟨_, rfl, rfl, rfl⟩
  | .bl b, _ => ⟨_, rfl, rfl, rfl⟩
  | .int b, _ => ⟨_, rfl, rfl, rfl⟩
  | .str b, h => ⟨_, rfl, h, rfl⟩
  | .tup ds, h => by
    obtain ⟨es, e1, e2, e3⟩ := pdL_ok ds h
    exact ⟨.tuple es, by unfold pd0; rw [e1], e2, by show PyData.depthAll es + 1 = _; rw [e3]; rfl⟩
  | .lst ds, h => by
    obtain ⟨es, e1, e2, e3⟩ := pdL_ok ds h
    exact ⟨.list es, by unfold pd0; rw [e1], e2, by show PyData.depthAll es + 1 = _; rw [e3]; rfl⟩
  | .ref _, h => by cases h
  | .scr _, h => by cases h
  | .rng _ _, h => by cases h
theorem pdL_ok : ∀ ds : List D, okL ds = true → ∃ es, pdL ds = some es ∧ PyData.canLayAll0 es = true ∧ PyData.depthAll es = dpL ds
  | [], _ => ⟨[], rfl, rfl, rfl⟩
  | d :: ds, h => by
    unfold okL at h
    rw [Bool.and_eq_true] at h
    obtain ⟨e, a1, a2, a3⟩ := pd_ok d h.1
    obtain ⟨es, b1, b2, b3⟩ := pdL_ok ds h.2
    refine ⟨e :: es, by unfold pdL; rw [a1, b1], ?_, ?_⟩
    · show (e.canLay0 && PyData.canLayAll0 es) = true
      rw [a2, b2]; rfl
    · show max e.depth (PyData.depthAll es) = _
      rw [a3, b3]; rfl
end
mutual
theorem eqv_D : ∀ (x y : D) (a b : PyData), pd0 x = some a → pd0 y = some b → PyData.eqv a b = eqD x y
  | .ref _, _, _, _, h, _ => by cases h
  | .scr _, _, _, _, h, _ => by cases h
  | .rng _ _, _, _, _, h, _ => by cases h
  | .non, y, a, b, h, k => by
    cases h
    cases y <;> simp only [pd0] at k <;> first | (cases k; done) | (cases k; rfl) | (split at k <;> cases k <;> rfl)
  | .bl u, y, a, b, h, k => by
    cases h
    cases y <;> simp only [pd0] at k <;> first | (cases k; done) | (cases k; rfl) | (split at k <;> cases k <;> rfl)
  | .int u, y, a, b, h, k => by
    cases h
    cases y <;> simp only [pd0] at k <;> first | (cases k; done) | (cases k; rfl) | (split at k <;> cases k <;> rfl)
  | .str u, y, a, b, h, k => by
    cases h
    cases y <;> simp only [pd0] at k <;> first | (cases k; done) | (cases k; rfl) | (split at k <;> cases k <;> rfl)
  | .tup ds, y, a, b, h, k => by
    unfold pd0 at h
    split at h
    · rename_i es e
      cases h
      cases y with
      | tup fs =>
        unfold pd0 at k
        split at k
        · rename_i gs g
          cases k
          exact eqv_L ds fs es gs e g
        · cases k
      | _ => simp only [pd0] at k <;> first | (cases k; done) | (cases k; rfl) | (split at k <;> cases k <;> rfl)
    · cases h
  | .lst ds, y, a, b, h, k => by
    unfold pd0 at h
    split at h
    · rename_i es e
      cases h
      cases y with
      | lst fs =>
        unfold pd0 at k
        split at k
        · rename_i gs g
          cases k
          exact eqv_L ds fs es gs e g
        · cases k
      | _ => simp only [pd0] at k <;> first | (cases k; done) | (cases k; rfl) | (split at k <;> cases k <;> rfl)
    · cases h
theorem eqv_L : ∀ (xs ys : List D) (as bs : List PyData), pdL xs = some as → pdL ys = some bs → PyData.eqvAll as bs = eqL xs ys
  | [], [], _, _, h, k => by cases h; cases k; rfl
  | [], y :: ys, _, _, h, k => by
    cases h
    unfold pdL at k
    split at k
    · cases k; rfl
    · cases k
  | x :: xs, [], _, _, h, k => by
    cases k
    unfold pdL at h
    split at h
    · cases h; rfl
    · cases h
  | x :: xs, y :: ys, _, _, h, k => by
    unfold pdL at h k
    split at h
    · rename_i a as e1 e2
      split at k
      · rename_i b bs f1 f2
        cases h; cases k
        show (PyData.eqv a b && PyData.eqvAll as bs) = (eqD x y && eqL xs ys)
        rw [eqv_D x y a b e1 f1, eqv_L xs ys as bs e2 f2]
      · cases k
    · cases h
end
section
variable {K : PySem.W.Frag} {H : Hp} {p : Pl} {S : Sto}
mutual
theorem dp_rep : ∀ (d : D) (v : V) (e : PyData), RepV K H p d v → pd0 d = some e → Dp K H v e
  | .non, v, _, r, h => by cases h; cases (show v = .non from r); exact .non
  | .bl b, v, _, r, h => by cases h; cases (show v = .bl b from r); exact .bl b
  | .int b, v, _, r, h => by cases h; cases (show v = .int b from r); exact .int b
  | .str b, v, _, r, h => by cases h; cases (show v = .str b from r); exact .str b
  | .tup ds, v, _, r, h => by
    obtain ⟨a, xs, rfl, ht, l⟩ := r
    unfold pd0 at h
    split at h
    · rename_i es e
      cases h
      exact .tup ht.t (dpL_rep ds xs es l e)
    · cases h
  | .lst ds, v, _, r, h => by
    obtain ⟨a, xs, rfl, ht, _, _, l⟩ := r
    unfold pd0 at h
    split at h
    · rename_i es e
      cases h
      exact .lst (SqL.of ht) (dpL_rep ds xs es l e)
    · cases h
  | .ref _, _, _, _, h => by cases h
  | .scr _, _, _, _, h => by cases h
  | .rng _ _, _, _, _, h => by cases h
theorem dpL_rep : ∀ (ds : List D) (vs : List V) (es : List PyData), RepL K H p ds vs → pdL ds = some es → DpAll K H vs es
  | [], vs, _, r, h => by cases h; cases (show vs = [] from r); exact .nil
  | d :: ds, vs, _, r, h => by
    obtain ⟨v, vr, rfl, r1, r2⟩ := r
    unfold pdL at h
    split at h
    · rename_i a as e1 e2
      cases h
      exact .cons (dp_rep d v a r1 e1) (dpL_rep ds vr as r2 e2)
    · cases h
end
/-- a mutable list is looked through -/
def seen (S : Sto) : D → D
  | .ref n => match S[n]? with
    | some (.lst ds) => .lst ds
    | _ => .ref n
  | d => d
theorem dp_seen (s : StRel K p S H) {d : D} {v : V} {e : PyData} (r : RepV K H p d v) (h : pd0 (seen S d) = some e) : Dp K H v e := by
  unfold seen at h
  split at h
  · rename_i n
    split at h
    · rename_i ds e'
      obtain ⟨a, rfl, hn⟩ := r
      obtain ⟨b, hb, xs, e2, l⟩ := s.obj n _ e'
      rw [hn] at hb; cases hb
      unfold pd0 at h
      split at h
      · rename_i es e
        cases h
        exact .lst (SqL.of e2) (dpL_rep ds xs es l e)
      · cases h
    · cases h
  · exact dp_rep _ _ _ r h
end
def opEq (neg : Bool) (x y : D) (S : Sto) : R D :=
  let a := seen S x
  let b := seen S y
  if okD a = true ∧ okD b = true ∧ dpD a ≤ 64 ∧ dpD b ≤ 64 then .ok (.bl (if neg = true then !eqD a b else eqD a b)) S else .stuck
theorem shaped_of {e : PyData} {d : D} (h1 : e.canLay0 = true) (h2 : e.depth = dpD d) (h3 : dpD d ≤ 64) : SeqAt.shaped e = true := by
  unfold SeqAt.shaped
  rw [h1, h2, decide_eq_true h3]; rfl
theorem eq_get {G : GC} {p : Pl} {S : Sto} {H : Hp} {x y : V} {dx dy : D} {W : Value → Option Addr → Hp → Prop} {Q : VK} {neg : Bool} (s : StRel G.K p S H) (rx : RepV G.K H p dx x) (ry : RepV G.K H p dy y) (h : Post (RepV G.K) G p H W Q (opEq neg dx dy S)) :
    ∃ a b, Dp G.K H x a ∧ Dp G.K H y b ∧ SeqAt.shaped a = true ∧ SeqAt.shaped b = true ∧ Q (.bl (if neg = true then !PyData.eqv a b else PyData.eqv a b)) H := by
  unfold opEq at h
  simp only at h
  split at h
  · rename_i c
    obtain ⟨a, a1, a2, a3⟩ := pd_ok _ c.1
    obtain ⟨b, b1, b2, b3⟩ := pd_ok _ c.2.1
    refine ⟨a, b, dp_seen s rx a1, dp_seen s ry b1, shaped_of a2 a3 c.2.2.1, shaped_of b2 b3 c.2.2.2, ?_⟩
    rw [eqv_D _ _ _ _ a1 b1]
    exact post_v h s rfl
  · exact h.elim
theorem hd_eq {G : GC} : OpD G (rEqD G.K) (opEq false) := by
  intro p S H x y dx dy W Q s rx ry h
  obtain ⟨a, b, h1, h2, h3, h4, h5⟩ := eq_get s rx ry h
  exact ⟨a, b, h1, h2, h3, h4, h5⟩
theorem hd_ne {G : GC} : OpD G (rNeD G.K) (opEq true) := by
  intro p S H x y dx dy W Q s rx ry h
  obtain ⟨a, b, h1, h2, h3, h4, h5⟩ := eq_get s rx ry h
  exact ⟨a, b, h1, h2, h3, h4, h5⟩
/-! ### in -/
def flatD : D → Bool
  | .non => true
  | .bl _ => true
  | .int _ => true
  | .str _ => true
  | _ => false
def inD (x : D) (ds : List D) : Bool := ds.any fun z => eqD z x
def opIn (neg : Bool) (x y : D) (S : Sto) : R D := match y with
  | .tup ds => if flatD x = true ∧ ds.all flatD = true then .ok (.bl (if neg = true then !inD x ds else inD x ds)) S else .stuck
  | y => match lstOf S y with
    | some ds => if okD x = true ∧ okL ds = true ∧ dpD x ≤ 64 ∧ dpL ds < 64 then .ok (.bl (if neg = true then !inD x ds else inD x ds)) S else .stuck
    | none => .stuck
theorem flat_rep {K : PySem.W.Frag} {H : Hp} {p : Pl} {d : D} {v : V} (r : RepV K H p d v) (f : flatD d = true) : flatV v = true := by
  cases d with
  | non => cases (show v = .non from r); rfl
  | bl b => cases (show v = .bl b from r); rfl
  | int b => cases (show v = .int b from r); rfl
  | str b => cases (show v = .str b from r); rfl
  | _ => cases f
theorem eqV_rep {K : PySem.W.Frag} {H : Hp} {p : Pl} {d e : D} {v u : V} (r : RepV K H p d v) (f : flatD d = true) (r' : RepV K H p e u) (f' : flatD e = true) : eqV v u = eqD d e := by
  cases d with
  | non => cases (show v = .non from r); cases e with
    | non => cases (show u = .non from r'); simp only [eqV, eqD]
    | bl b => cases (show u = .bl b from r'); simp only [eqV, eqD]
    | int b => cases (show u = .int b from r'); simp only [eqV, eqD]
    | str b => cases (show u = .str b from r'); simp only [eqV, eqD]
    | _ => cases f'
  | bl a => cases (show v = .bl a from r); cases e with
    | non => cases (show u = .non from r'); simp only [eqV, eqD]
    | bl b => cases (show u = .bl b from r'); simp only [eqV, eqD]
    | int b => cases (show u = .int b from r'); simp only [eqV, eqD]
    | str b => cases (show u = .str b from r'); simp only [eqV, eqD]
    | _ => cases f'
  | int a => cases (show v = .int a from r); cases e with
    | non => cases (show u = .non from r'); simp only [eqV, eqD]
    | bl b => cases (show u = .bl b from r'); simp only [eqV, eqD]
    | int b => cases (show u = .int b from r'); simp only [eqV, eqD]
    | str b => cases (show u = .str b from r'); simp only [eqV, eqD]
    | _ => cases f'
  | str a => cases (show v = .str a from r); cases e with
    | non => cases (show u = .non from r'); simp only [eqV, eqD]
    | bl b => cases (show u = .bl b from r'); simp only [eqV, eqD]
    | int b => cases (show u = .int b from r'); simp only [eqV, eqD]
    | str b => cases (show u = .str b from r'); simp only [eqV, eqD]
    | _ => cases f'
  | _ => cases f
theorem inV_rep {K : PySem.W.Frag} {H : Hp} {p : Pl} {d : D} {v : V} (r : RepV K H p d v) (f : flatD d = true) : ∀ {ds : List D} {xs : List V}, RepL K H p ds xs → ds.all flatD = true → xs.all flatV = true ∧ inV v xs = inD d ds
  | [], xs, l, _ => by cases (show xs = [] from l); exact ⟨rfl, rfl⟩
  | e :: ds, xs, l, g => by
    obtain ⟨u, ur, rfl, r1, r2⟩ := l
    rw [List.all_cons, Bool.and_eq_true] at g
    obtain ⟨h1, h2⟩ := inV_rep r f r2 g.2
    refine ⟨by rw [List.all_cons, flat_rep r1 g.1, h1]; rfl, ?_⟩
    unfold inV inD at h2 ⊢
    rw [List.any_cons, List.any_cons, h2, eqV_rep r1 g.1 r f]
theorem any_pd {x : D} {a : PyData} (hx : pd0 x = some a) : ∀ {ds : List D} {es : List PyData}, pdL ds = some es → (es.any fun z => PyData.eqv z a) = inD x ds
  | [], _, h => by cases h; rfl
  | d :: ds, _, h => by
    unfold pdL at h
    split at h
    · rename_i b bs e1 e2
      cases h
      have q := any_pd hx e2
      unfold inD at q ⊢
      rw [List.any_cons, List.any_cons, q, eqv_D _ _ _ _ e1 hx]
    · cases h
def rInA (K : PySem.W.Frag) : R2 := fun x y H Q => rIn K false x y H Q ∨ rInD K x y H Q
def rNotInA (K : PySem.W.Frag) : R2 := fun x y H Q => rIn K true x y H Q ∨ rNotInD K x y H Q
theorem in_get {G : GC} {p : Pl} {S : Sto} {H : Hp} {x y : V} {dx dy : D} {W : Value → Option Addr → Hp → Prop} {Q : VK} {neg : Bool} (s : StRel G.K p S H) (rx : RepV G.K H p dx x) (ry : RepV G.K H p dy y) (h : Post (RepV G.K) G p H W Q (opIn neg dx dy S)) :
    rIn G.K neg x y H Q ∨ ∃ d ds, Dp G.K H x d ∧ Dp G.K H y (.list ds) ∧ SeqAt.shaped d = true ∧ SeqAt.shaped (.list ds) = true ∧ Q (.bl (if neg = true then !(ds.any fun z => PyData.eqv z d) else ds.any fun z => PyData.eqv z d)) H := by
  unfold opIn at h
  split at h
  · split at h
    · rename_i ds c
      obtain ⟨a, xs, rfl, ht, l⟩ := ry
      obtain ⟨h1, h2⟩ := inV_rep rx c.1 l c.2
      refine .inl ⟨a, xs, rfl, .inr ht.t, flat_rep rx c.1, h1, ?_⟩
      rw [h2]
      exact post_v h s rfl
    · exact h.elim
  · split at h
    · rename_i ds e
      split at h
      · rename_i c
        obtain ⟨a, xs, rfl, ht, l⟩ := lst_rep s ry e
        obtain ⟨b, b1, b2, b3⟩ := pd_ok _ c.1
        obtain ⟨es, c1, c2, c3⟩ := pdL_ok _ c.2.1
        refine .inr ⟨b, es, dp_rep _ _ _ rx b1, .lst (SqL.of ht) (dpL_rep _ _ _ l c1), shaped_of b2 b3 c.2.2.1, ?_, ?_⟩
        · unfold SeqAt.shaped
          rw [Bool.and_eq_true]
          refine ⟨c2, decide_eq_true ?_⟩
          show PyData.depthAll es + 1 ≤ 64
          rw [c3]; exact c.2.2.2
        · rw [any_pd b1 c1]
          exact post_v h s rfl
      · exact h.elim
    · exact h.elim
theorem hd_in {G : GC} : OpD G (rInA G.K) (opIn false) := by
  intro p S H x y dx dy W Q s rx ry h
  rcases in_get s rx ry h with h | ⟨d, ds, h1, h2, h3, h4, h5⟩
  · exact .inl h
  · exact .inr ⟨d, ds, h1, h2, h3, h4, h5⟩
theorem hd_notin {G : GC} : OpD G (rNotInA G.K) (opIn true) := by
  intro p S H x y dx dy W Q s rx ry h
  rcases in_get s rx ry h with h | ⟨d, ds, h1, h2, h3, h4, h5⟩
  · exact .inl h
  · exact .inr ⟨d, ds, h1, h2, h3, h4, h5⟩
section
variable {X : Cx} {W : WX} {k : Nat}
theorem Fit.u64 (f : Fit X W k) : X.A.units + 64 < cLine := f.room.units
theorem Fit.u65 (f : Fit X W k) : X.A.units + 65 < cLine := by have := f.room.un; omega
end
end DL

namespace DL
open PySem PySem.Spec PyProof.Rows L2

/-! ### truth -/
def truD (S : Sto) : D → Option Bool
  | .non => some false
  | .bl b => some b
  | .int i => some (i != 0)
  | .str y => if y.length ≤ 16777216 then some ((y.length : Int) != 0) else none
  | .tup ds => some (!ds.isEmpty)
  | .lst ds => some (!ds.isEmpty)
  | .ref n => match S[n]? with
    | some (.lst ds) => some (!ds.isEmpty)
    | _ => none
  | .scr _ => none
  | .rng _ _ => none
theorem RepL.emp {K : PySem.W.Frag} {H : Hp} {p : Pl} {ds : List D} {xs : List V} (r : RepL K H p ds xs) : xs.isEmpty = ds.isEmpty := by
  cases ds with
  | nil => cases (show xs = [] from r); rfl
  | cons d ds => obtain ⟨v, vr, rfl, _⟩ := r; rfl
theorem tru_rep {K : PySem.W.Frag} {H : Hp} {p : Pl} {S : Sto} {d : D} {v : V} {k : Bool} (s : StRel K p S H) (r : RepV K H p d v) (h : truD S d = some k) : TruV K v H k := by
  cases d with
  | non => cases (show v = .non from r); cases h; rfl
  | bl b => cases (show v = .bl b from r); cases h; rfl
  | int b => cases (show v = .int b from r); cases h; rfl
  | str b =>
    cases (show v = .str b from r)
    simp only [truD] at h
    split at h
    · rename_i c; cases h; exact ⟨lineN c, rfl⟩
    · cases h
  | tup ds => obtain ⟨a, xs, rfl, ht, l⟩ := r; cases h; exact .inr (.inl ⟨xs, ht.t, by rw [l.emp]⟩)
  | lst ds => obtain ⟨a, xs, rfl, ht, _, _, l⟩ := r; cases h; exact .inl ⟨xs, SqL.of ht, by rw [l.emp]⟩
  | ref n =>
    obtain ⟨a, rfl, hn⟩ := r
    simp only [truD] at h
    split at h
    · rename_i ds e
      obtain ⟨b, hb, xs, e2, l⟩ := s.obj n _ e
      rw [hn] at hb; cases hb; cases h
      exact .inl ⟨xs, SqL.of e2, by rw [l.emp]⟩
    · cases h
  | scr n => cases h
  | rng _ _ => cases h

def mTr (m : ME) : MB := fun rho S => (m rho S).bind fun d S1 => match truD S1 d with
  | some k => .ok k S1
  | none => .stuck
def mNot (m : MB) : MB := fun rho S => (m rho S).bind fun b S1 => .ok (!b) S1
def mAnd (a b : MB) : MB := fun rho S => (a rho S).bind fun x S1 => if x = true then b rho S1 else .ok false S1
def mOr (a b : MB) : MB := fun rho S => (a rho S).bind fun x S1 => if x = true then .ok true S1 else b rho S1
def mIte (c : MB) (a b : ME) : ME := fun rho S => (c rho S).bind fun x S1 => if x = true then a rho S1 else b rho S1
def mAndV (a b : ME) : ME := fun rho S => (a rho S).bind fun x S1 => match truD S1 x with
  | some true => b rho S1
  | some false => .ok x S1
  | none => .stuck
def mOrV (a b : ME) : ME := fun rho S => (a rho S).bind fun x S1 => match truD S1 x with
  | some true => .ok x S1
  | some false => b rho S1
  | none => .stuck
def mNotV (a : ME) : ME := fun rho S => (a rho S).bind fun x S1 => match truD S1 x with
  | some k => .ok (.bl (!k)) S1
  | none => .stuck
section
variable {X : Cx} {W : WX} {pos : Pos} {a b c e : Expr} {es : List Expr} {ma mb mc : ME} {m n : MB} {rest : List Expr}
theorem dt_truth (ha : DE X W a ma) (he : ∀ whole, isTrue a X.env whole = (do let v ← whole; standAt a.pos; holding [v] (truthy v)) := by intro _; rfl) : DT X W a (mTr ma) :=
  pt_imp (pt_truth ha he) fun sig H Q ⟨p, S, rho, hs, hr, h⟩ => by
    refine dE_use (rel' := fun _ => relB) hs hr h fun d S1 q H1 v x s1 e1 r1 h1 => ?_
    split at h1
    · rename_i k ek
      exact ⟨k, tru_rep s1 r1 ek, h1 q H1 k Ext.refl s1 rfl⟩
    · exact h1.elim
theorem dt_not (ha : DT X W a m) : DT X W (.UnaryOp .Not a pos) (mNot m) :=
  pt_imp (pt_not ha) fun sig H Q ⟨p, S, rho, hs, hr, h⟩ => by
    refine dB_use (rel' := fun _ => relB) hs hr h fun d S1 q H1 x s1 e1 h1 => ?_
    exact h1 q H1 _ Ext.refl s1 rfl
theorem dt_w (h : DW X W a m) : DT X W a m := PW.pt h
theorem dw_and1 (ha : DT X W a m) : DW X W (.BoolOp .And [a] pos) m := pw_and1 ha
theorem dw_or1 (ha : DT X W a m) : DW X W (.BoolOp .Or [a] pos) m := pw_or1 ha
theorem dw_and (ha : DT X W a m) (hb : DW X W (.BoolOp .And (b :: rest) pos) n) : DW X W (.BoolOp .And (a :: b :: rest) pos) (mAnd m n) :=
  pw_imp (pw_and ha hb) fun sig H Q ⟨p, S, rho, hs, hr, h⟩ => by
    refine dB_use (rel' := fun _ => relB) hs hr h fun d S1 q H1 x s1 e1 h1 => ?_
    cases d with
    | true => exact ⟨q, S1, rho, s1, e1, h1⟩
    | false => exact h1 q H1 _ Ext.refl s1 rfl
theorem dw_or (ha : DT X W a m) (hb : DW X W (.BoolOp .Or (b :: rest) pos) n) : DW X W (.BoolOp .Or (a :: b :: rest) pos) (mOr m n) :=
  pw_imp (pw_or ha hb) fun sig H Q ⟨p, S, rho, hs, hr, h⟩ => by
    refine dB_use (rel' := fun _ => relB) hs hr h fun d S1 q H1 x s1 e1 h1 => ?_
    cases d with
    | true => exact h1 q H1 _ Ext.refl s1 rfl
    | false => exact ⟨q, S1, rho, s1, e1, h1⟩
theorem de_ifExp (hc : DT X W c m) (ha : DE X W a ma) (hb : DE X W b mb) : DE X W (.IfExp c a b pos) (mIte m ma mb) :=
  pe_imp (pe_ifExp hc ha hb) fun sig H Q ⟨p, S, rho, hs, hr, h⟩ => by
    refine dB_use (rel' := fun G => RepV G.K) hs hr h fun d S1 q H1 x s1 e1 h1 => ?_
    cases d with
    | true => exact ⟨q, S1, rho, s1, e1, h1⟩
    | false => exact ⟨q, S1, rho, s1, e1, h1⟩
theorem de_one {op : BoolOp} (h : DE X W a ma) : DE X W (.BoolOp op [a] pos) ma := pe_one h
theorem de_and (ha : DE X W a ma) (hb : DE X W (.BoolOp .And (b :: rest) pos) mb) : DE X W (.BoolOp .And (a :: b :: rest) pos) (mAndV ma mb) :=
  pe_imp (pe_andT ha hb) fun sig H Q ⟨p, S, rho, hs, hr, h⟩ => by
    refine dE_use (rel' := fun G => RepV G.K) hs hr h fun d S1 q H1 v x s1 e1 r1 h1 => ?_
    split at h1
    · rename_i ek
      exact ⟨true, tru_rep s1 r1 ek, q, S1, rho, s1, e1, h1⟩
    · rename_i ek
      exact ⟨false, tru_rep s1 r1 ek, h1 q H1 _ Ext.refl s1 r1⟩
    · exact h1.elim
theorem de_not (ha : DE X W a ma) : DE X W (.UnaryOp .Not a pos) (mNotV ma) :=
  pe_imp (pe_notT ha) fun sig H Q ⟨p, S, rho, hs, hr, h⟩ => by
    refine dE_use (rel' := fun G => RepV G.K) hs hr h fun d S1 q H1 v x s1 e1 r1 h1 => ?_
    split at h1
    · rename_i k ek
      exact ⟨k, tru_rep s1 r1 ek, h1 q H1 _ Ext.refl s1 rfl⟩
    · exact h1.elim
def mNeg (a : ME) : ME := fun rho S => (a rho S).bind fun x S1 => match x with
  | .int i => .ok (.int (-i)) S1
  | _ => .stuck
/-! ### arguments, displays -/
def mNil : MA := fun _ S => .ok [] S
def mCons (a : ME) (t : MA) : MA := fun rho S => (a rho S).bind fun x S1 => (t rho S1).bind fun xs S2 => .ok (x :: xs) S2
theorem da_nil : DA X W [] mNil := pa_imp pa_nil fun sig H Q ⟨p, S, rho, hs, hr, h⟩ => h p H [] Ext.refl hs RepL.nil
theorem da_cons {t : MA} (ha : DE X W a ma) (ht : DA X W es t) (hs : starEach (a :: es) X.env = (false, eval a X.env) :: starEach es X.env := by rfl) : DA X W (a :: es) (mCons ma t) :=
  pa_imp (pa_cons ha ht hs) fun sig H Q ⟨p, S, rho, hs, hr, h⟩ => by
    refine dE_use (rel' := fun G => RepL G.K) hs hr h fun d S1 q H1 v x s1 e1 r1 h1 => ?_
    refine dA_use (rel' := fun G => RepL G.K) s1 e1 h1 fun ds S2 q2 H2 vs x2 s2 e2 r2 h2 => ?_
    exact h2 q2 H2 _ Ext.refl s2 (RepL.cons (RepV.ext s1 x2 _ _ r1) r2)
def mTup (t : MA) : ME := fun rho S => (t rho S).bind fun ds S1 => if ds.length ≤ 16777216 then .ok (.tup ds) S1 else .stuck
def mLst (t : MA) : ME := fun rho S => (t rho S).bind fun ds S1 => if ds.length ≤ 16777216 then .ok (.lst ds) S1 else .stuck
def mLstM (t : MA) : ME := fun rho S => (t rho S).bind fun ds S1 => if ds.length ≤ 16777216 then .ok (.ref S1.length) (S1 ++ [.lst ds]) else .stuck
/-- a tuple display as a known object -/
def tTupX (t : TA) : TE := fun σ H Q => t σ H fun xs H1 => xs.length ≤ sizeLine ∧ NewT H1 Q xs
theorem pe_tupX {x1} {t : TA} (h : PA X es t) : PE X (.Tuple es x1 pos) (tTupX t) := by
  refine ⟨fun pins s σ H Q I hq => ?_⟩
  refine wpAny_Tuple_spliced (thn (h.run pos pins s σ H _ I hq) fun us s1 ⟨xs, H1, I1, r, z, q⟩ => ⟨by rw [← r.length]; exact z, fin_tup I1 z r q⟩)
theorem de_tup {t : MA} {x1} (ht : DA X W es t) : DE X W (.Tuple es x1 pos) (mTup t) :=
  pe_imp (pe_tupX ht) fun sig H Q ⟨p, S, rho, hs, hr, h⟩ => by
    refine dA_use (rel' := fun G => RepV G.K) hs hr h fun ds S1 q H1 vs x s1 e1 r1 h1 => ?_
    split at h1
    · rename_i c
      exact ⟨by rw [← r1.length]; exact lineN c, post_tup h1 s1 r1⟩
    · exact h1.elim
/-- a list that was made is put into the store -/
def mAlloc (m : ME) : ME := fun rho S => (m rho S).bind fun d S1 => match d with
  | .lst ds => .ok (.ref S1.length) (S1 ++ [.lst ds])
  | _ => .stuck

/-! ### subscripts, slices -/
def opIx (x y : D) (S : Sto) : R D := match y with
  | .int i => match x with
    | .str z => match atI z.cps.toList i with
      | some c => if z.length ≤ 16777216 then .ok (.str ⟨#[c]⟩) S else .stuck
      | none => .stuck
    | x => match seqOf S x with
      | some ds => match atI ds i with
        | some d => .ok d S
        | none => .stuck
      | none => .stuck
  | _ => .stuck
theorem atI_rep {K : PySem.W.Frag} {H : Hp} {p : Pl} {ds : List D} {xs : List V} {i : Int} {d : D} (l : RepL K H p ds xs) (h : atI ds i = some d) : ∃ v, atI xs i = some v ∧ RepV K H p d v := by
  unfold atI at h ⊢
  rw [l.length] at h
  cases e : ixN xs.length i with
  | none => rw [e] at h; cases h
  | some j =>
    rw [e] at h
    obtain ⟨v, e1, r⟩ := l.get j d h
    exact ⟨v, e1, r⟩
theorem hd_ix {G : GC} : OpD G (rIx G.K) opIx := by
  intro p S H x y dx dy W Q s rx ry h
  unfold opIx at h
  split at h
  · rename_i i
    split at h
    · rename_i z
      split at h
      · rename_i c e
        split at h
        · rename_i hz
          exact .inr (.inr ⟨z, i, c, rx, ry, lineN hz, e, post_v h s rfl⟩)
        · exact h.elim
      · exact h.elim
    · split at h
      · rename_i ds e
        split at h
        · rename_i d e1
          obtain ⟨a, xs, rfl, ht, l⟩ := seq_rep s rx e
          obtain ⟨v, e2, r⟩ := atI_rep l e1
          rcases ht with ht | ht
          · exact .inl ⟨a, xs, i, v, rfl, ry, ht, e2, post_v h s r⟩
          · exact .inr (.inl ⟨a, xs, i, v, rfl, ry, ht, e2, post_v h s r⟩)
        · exact h.elim
      · exact h.elim
  · exact h.elim
theorem de_ix (ha : DE X W a ma) (hb : DE X W b mb) (hs : PlainIx b := by exact fun _ _ => rfl) : DE X W (.Subscript a b pos) (mOp2 opIx ma mb) :=
  pe_imp (pe_ix ix_seq ha hb hs) fun _ _ _ h => rd_op2 hd_ix h
abbrev MP := EnvD → Sto → R (Option Int)
def mNoP : MP := fun _ S => .ok none S
def mPart (m : ME) : MP := fun rho S => (m rho S).bind fun d S1 => match d with
  | .int i => .ok (some i) S1
  | _ => .stuck
def relP (_ : Hp) (_ : Pl) (a b : Option Int) : Prop := a = b
def DP (X : Cx) (W : WX) (e : Option Expr) (m : MP) : Prop := PO X e (rd (fun _ => relP) (gOf X) W m)
theorem po_imp {o : Option Expr} {t t' : TO} (h : PO X o t) (i : ∀ sig H Q, t' sig H Q → t sig H Q) : PO X o t' := ⟨fun pins s σ H Q I q => h.run pins s σ H Q I (i _ _ _ q)⟩
theorem dp_no : DP X W none mNoP := po_imp po_none fun sig H Q ⟨p, S, rho, hs, hr, h⟩ => h p H none Ext.refl hs rfl
theorem dp_some (ha : DE X W a ma) : DP X W (some a) (mPart ma) := po_imp (po_some ha) fun sig H Q ⟨p, S, rho, hs, hr, h⟩ => by
  refine dE_use (rel' := fun _ => relP) hs hr h fun d S1 q H1 v x s1 e1 r1 h1 => ?_
  cases d with
  | int i => exact ⟨i, r1, h1 q H1 _ Ext.refl s1 rfl⟩
  | _ => exact h1.elim
def cutD (ds : List D) (lo hi : Option Int) : List D := (ds.drop (HT.sIx ds.length 0 lo)).take (HT.sIx ds.length ds.length hi - HT.sIx ds.length 0 lo)
def opSl (x : D) (lo hi : Option Int) (S : Sto) : R D := match x with
  | .tup ds => .ok (.tup (cutD ds lo hi)) S
  | x => match lstOf S x with
    | some ds => .ok (.lst (cutD ds lo hi)) S
    | none => .stuck
def mSl (a : ME) (lo hi : MP) : ME := fun rho S => (a rho S).bind fun x S1 => (lo rho S1).bind fun l S2 => (hi rho S2).bind fun u S3 => opSl x l u S3
theorem cut_rep {K : PySem.W.Frag} {H : Hp} {p : Pl} {ds : List D} {xs : List V} (l : RepL K H p ds xs) (lo hi : Option Int) : RepL K H p (cutD ds lo hi) (cutV xs lo hi) := by
  unfold cutD cutV
  rw [l.length]
  exact (l.drop _).take _
theorem cut_whole {ds : List D} {lo hi : Option Int} (h : HT.sIx ds.length 0 lo = 0 ∧ HT.sIx ds.length ds.length hi = ds.length) : cutD ds lo hi = ds := by
  unfold cutD
  rw [h.1, h.2, List.drop_zero, Nat.sub_zero, List.take_length]
/-- t[lo:hi] as a known object -/
def rSlX (K : PySem.W.Frag) : V → Option Int → Option Int → Hp → VK → Prop := fun x lo hi H Q => ∃ a xs, x = .ref a ∧ SqT K H a xs ∧
  (HT.sIx xs.length 0 lo = 0 ∧ HT.sIx xs.length xs.length hi = xs.length → Q (.ref a) H) ∧ (¬ (HT.sIx xs.length 0 lo = 0 ∧ HT.sIx xs.length xs.length hi = xs.length) → NewT H Q (cutV xs lo hi))
theorem sl_tupX : SlR X (rSlX X.K) := by
  intro pins s σ H x v vl vu lo hi sl Q I rx hs pl pu h
  obtain ⟨a, xs, rfl, hx, q1, q2⟩ := h
  by_cases hw : HT.sIx xs.length 0 lo = 0 ∧ HT.sIx xs.length xs.length hi = xs.length
  · exact sl_tupA pins s σ H _ v vl vu lo hi sl Q I rx hs pl pu ⟨a, xs, rfl, hx, q1, fun n => absurd hw n⟩
  · cases rx
    obtain ⟨is, r, ht, hz⟩ := I.tuple hx
    have en : is.toArray.size = xs.length := by rw [List.size_toArray]; exact r.length.symm
    refine ⟨"tuple", _, PyProof.Rows.slot_tuple_getitem.lookup, ht.typeIs, HT.getItem_tuple_cut ht hs pl pu (by rw [en]; exact hw) ?_ (by rw [en]; exact hz)⟩
    rw [en]
    exact fin_tup I (Nat.le_trans (cutV_length xs lo hi) hz) ((r.drop (HT.sIx xs.length 0 lo)).take (HT.sIx xs.length xs.length hi - HT.sIx xs.length 0 lo)) (q2 hw)
theorem de_sl {lo hi : Option Expr} {l u : MP} {p2 : Pos} (ha : DE X W a ma) (hl : DP X W lo l) (hu : DP X W hi u) : DE X W (.Subscript a (.Slice lo hi none p2) pos) (mSl ma l u) :=
  pe_imp (pe_slice (sl_tupX.or sl_list) ha hl hu) fun sig H Q ⟨p, S, rho, hs, hr, h⟩ => by
    refine dE_use (rel' := fun G => RepV G.K) hs hr h fun d S1 q H1 v x s1 e1 r1 h1 => ?_
    refine rd_use (rel := fun _ => relP) (rel' := fun G => RepV G.K) s1 e1 h1 fun l1 S2 q2 H2 v2 x2 s2 e2 r2 h2 => ?_
    refine rd_use (rel := fun _ => relP) (rel' := fun G => RepV G.K) s2 e2 h2 fun u1 S3 q3 H3 v3 x3 s3 e3 r3 h3 => ?_
    have r2' : l1 = v2 := r2
    have r3' : u1 = v3 := r3
    subst r2' r3'
    have r1' := RepV.ext s2 x3 _ _ (RepV.ext s1 x2 _ _ r1)
    unfold opSl at h3
    split at h3
    · rename_i ds
      obtain ⟨b, xs, rfl, ht, l⟩ := r1'
      refine .inl ⟨b, xs, rfl, ht.t, fun w => ?_, fun w => post_tup h3 s3 (cut_rep l _ _)⟩
      rw [← l.length] at w
      rw [cut_whole w] at h3
      exact post_v h3 s3 ⟨b, xs, rfl, ht, l⟩
    · split at h3
      · rename_i ds e
        obtain ⟨b, xs, rfl, ht, l⟩ := lst_rep s3 r1' e
        exact .inr ⟨b, xs, rfl, SqL.of ht, post_lst h3 s3 (cut_rep l _ _)⟩
      · exact h3.elim
end

/-! ### calls of built-ins -/
def CallD (G : GC) (r : List V → Hp → VK → Prop) (g : List D → Sto → R D) : Prop :=
  ∀ (p : Pl) (S : Sto) (H : Hp) (vs : List V) (ds : List D) (W : Value → Option Addr → Hp → Prop) (Q : VK), StRel G.K p S H → RepL G.K H p ds vs → Post (RepV G.K) G p H W Q (g ds S) → r vs H Q
def mCall (g : List D → Sto → R D) (t : MA) : ME := fun rho S => (t rho S).bind fun ds S1 => g ds S1
theorem rd_call {G : GC} {W : WX} {r : List V → Hp → VK → Prop} {g : List D → Sto → R D} {t : MA} {sig : L2.St} {H : Hp} {Q : VK} (hd : CallD G r g) (h : dE G W (mCall g t) sig H Q) : tCB r (dA G W t) sig H Q := by
  obtain ⟨p, S, rho, hs, he, h⟩ := h
  refine dA_use (rel' := fun G => RepV G.K) hs he h fun ds S1 q H1 vs x s1 e1 r1 h1 => ?_
  exact hd q S1 H1 vs ds _ Q s1 r1 h1
section
variable {X : Cx} {W : WX} {pos q : Pos} {x : Str} {e : Expr} {es : List Expr} {t : MA} {r : List V → Hp → VK → Prop} {g : List D → Sto → R D}
theorem de_callB {id : String} (hc : CallR X (.builtin id) r) (hd : CallD (gOf X) r g) (hm : X.mg x = none) (hv : bootBuiltins x = some (.builtin id)) (ha : DA X W (e :: es) t) (hg : Gl X x := by rfl) (hn : x ≠ "__name__" := by decide) (hdb : (x == ("__debug__" : Str)) = false := by decide)
    (he : starEach (e :: es) X.env = (false, eval e X.env) :: starEach es X.env := by rfl) (hpl : (backTo pos (starEach es X.env)).any (·.1) = false := by rfl) : DE X W (.Call (.Name x q) (e :: es) [] pos) (mCall g t) :=
  pe_imp (pe_callB hc hg hm hv ha hn hdb he hpl) fun _ _ _ h => rd_call hd h
theorem de_callTy {T : String} (hc : CallR X (.type T) r) (hd : CallD (gOf X) r g) (hm : X.mg x = none) (hv : bootBuiltins x = some (.type T)) (ha : DA X W (e :: es) t) (hg : Gl X x := by rfl) (hn : x ≠ "__name__" := by decide) (hdb : (x == ("__debug__" : Str)) = false := by decide)
    (he : starEach (e :: es) X.env = (false, eval e X.env) :: starEach es X.env := by rfl) (hpl : (backTo pos (starEach es X.env)).any (·.1) = false := by rfl) : DE X W (.Call (.Name x q) (e :: es) [] pos) (mCall g t) :=
  pe_imp (pe_callTy hc hg hm hv ha hn hdb he hpl) fun _ _ _ h => rd_call hd h
end
section
variable {K : PySem.W.Frag} {H : Hp} {p : Pl}
theorem RepL.one {d : D} {vs : List V} (h : RepL K H p [d] vs) : ∃ v, vs = [v] ∧ RepV K H p d v := by
  obtain ⟨v, vr, rfl, r, t⟩ := h
  cases (show vr = [] from t)
  exact ⟨v, rfl, r⟩
theorem RepL.two {d e : D} {vs : List V} (h : RepL K H p [d, e] vs) : ∃ v u, vs = [v, u] ∧ RepV K H p d v ∧ RepV K H p e u := by
  obtain ⟨v, vr, rfl, r, t⟩ := h
  obtain ⟨u, rfl, r2⟩ := RepL.one t
  exact ⟨v, u, rfl, r, r2⟩
end
def lenD (S : Sto) : D → Option Nat
  | .str z => if z.length ≤ 16777216 then some z.length else none
  | .scr ns => some ns.length
  | .ref n => match S[n]? with
    | some (.lst ds) => some ds.length
    | _ => none
  | d => (seqOf S d).map (·.length)
def fLen (ds : List D) (S : Sto) : R D := match ds with
  | [d] => match lenD S d with
    | some n => .ok (.int n) S
    | none => .stuck
  | _ => .stuck
def rLenA (K : PySem.W.Frag) : List V → Hp → VK → Prop := fun xs H Q => (∃ x n, xs = [x] ∧ LenV K x H n ∧ Q (.int n) H) ∨ ∃ a kvs, xs = [V.ref a] ∧ H a = some (.dK kvs) ∧ Q (.int kvs.length) H
theorem hc_len {X : Cx} : CallR X (.builtin "len") (rLenA X.K) := call_len.or call_lenD
theorem hd_len {G : GC} : CallD G (rLenA G.K) fLen := by
  intro p S H vs ds W Q s r h
  unfold fLen at h
  split at h
  · rename_i d
    split at h
    · rename_i n e
      obtain ⟨v, rfl, r1⟩ := r.one
      have q := post_v h s (v := .int n) rfl
      cases d with
      | str z =>
        simp only [lenD] at e
        split at e
        · rename_i c
          cases e
          cases (show v = .str z from r1)
          exact .inl ⟨_, _, rfl, ⟨lineN c, rfl⟩, q⟩
        · cases e
      | scr ns =>
        simp only [lenD] at e
        cases e
        obtain ⟨a, rfl, e1⟩ := scr_sq r1
        exact .inl ⟨_, _, rfl, .inl ⟨_, e1, by simp⟩, q⟩
      | ref k =>
        simp only [lenD] at e
        split at e
        · rename_i us e'
          cases e
          obtain ⟨a, rfl, hn⟩ := r1
          obtain ⟨b, hb, xs, e2, l⟩ := s.obj k _ e'
          rw [hn] at hb; cases hb
          exact .inl ⟨_, _, rfl, .inl ⟨xs, SqL.of e2, l.length⟩, q⟩
        · cases e
      | tup us =>
        simp only [lenD, seqOf, Option.map_some] at e
        cases e
        obtain ⟨a, xs, rfl, ht, l⟩ := r1
        exact .inl ⟨_, _, rfl, .inr ⟨xs, ht.t, l.length⟩, q⟩
      | lst us =>
        simp only [lenD, seqOf, lstOf, Option.map_some] at e
        cases e
        obtain ⟨a, xs, rfl, ht, _, _, l⟩ := r1
        exact .inl ⟨_, _, rfl, .inl ⟨xs, SqL.of ht, l.length⟩, q⟩
      | _ => simp [lenD, seqOf, lstOf] at e
    · exact h.elim
  · exact h.elim
def fAbs (ds : List D) (S : Sto) : R D := match ds with
  | [.int i] => .ok (.int (if i < 0 then -i else i)) S
  | _ => .stuck
theorem hd_abs {G : GC} : CallD G (fun xs H Q => ∃ i, xs = [.int i] ∧ Q (.int (if i < 0 then -i else i)) H) fAbs := by
  intro p S H vs ds W Q s r h
  unfold fAbs at h
  split at h
  · obtain ⟨v, rfl, r1⟩ := r.one
    cases (show v = .int _ from r1)
    exact ⟨_, rfl, post_v h s rfl⟩
  · exact h.elim
def fInt (ds : List D) (S : Sto) : R D := match ds with
  | [.int i] => .ok (.int i) S
  | [.bl b] => .ok (.int (if b then 1 else 0)) S
  | _ => .stuck
theorem hd_int {G : GC} : CallD G (fun xs H Q => (∃ i, xs = [.int i] ∧ Q (.int i) H) ∨ ∃ k, xs = [.bl k] ∧ Q (.int (if k then 1 else 0)) H) fInt := by
  intro p S H vs ds W Q s r h
  unfold fInt at h
  split at h
  · obtain ⟨v, rfl, r1⟩ := r.one
    cases (show v = .int _ from r1)
    exact .inl ⟨_, rfl, post_v h s rfl⟩
  · obtain ⟨v, rfl, r1⟩ := r.one
    cases (show v = .bl _ from r1)
    exact .inr ⟨_, rfl, post_v h s rfl⟩
  · exact h.elim
def fMax (ds : List D) (S : Sto) : R D := match ds with
  | [.int i, .int j] => .ok (.int (if j > i then j else i)) S
  | _ => .stuck
def fMin (ds : List D) (S : Sto) : R D := match ds with
  | [.int i, .int j] => .ok (.int (if j < i then j else i)) S
  | _ => .stuck
/-! lists of truth values, of intsD -/
def blsD : List D → Option (List Bool)
  | [] => some []
  | .bl b :: ds => (blsD ds).map (b :: ·)
  | _ => none
def intsD : List D → Option (List Int)
  | [] => some []
  | .int b :: ds => (intsD ds).map (b :: ·)
  | _ => none
theorem blsD_rep {K : PySem.W.Frag} {H : Hp} {p : Pl} : ∀ {ds : List D} {xs : List V} {bs : List Bool}, RepL K H p ds xs → blsD ds = some bs → xs = bs.map V.bl
  | [], xs, bs, r, h => by cases h; exact r
  | .bl b :: ds, xs, bs, r, h => by
    obtain ⟨v, vr, rfl, r1, r2⟩ := r
    unfold blsD at h
    rw [Option.map_eq_some_iff] at h
    obtain ⟨cs, e, rfl⟩ := h
    cases (show v = .bl b from r1)
    rw [blsD_rep r2 e]; rfl
  | .non :: _, _, _, _, h => by cases h
  | .int _ :: _, _, _, _, h => by cases h
  | .str _ :: _, _, _, _, h => by cases h
  | .tup _ :: _, _, _, _, h => by cases h
  | .lst _ :: _, _, _, _, h => by cases h
  | .ref _ :: _, _, _, _, h => by cases h
  | .scr _ :: _, _, _, _, h => by cases h
  | .rng _ _ :: _, _, _, _, h => by cases h
def fAll (ds : List D) (S : Sto) : R D := match ds with
  | [d] => match (lstOf S d).bind blsD with
    | some bs => .ok (.bl (bs.all id)) S
    | none => .stuck
  | _ => .stuck
def fAny (ds : List D) (S : Sto) : R D := match ds with
  | [d] => match (lstOf S d).bind blsD with
    | some bs => .ok (.bl (bs.any id)) S
    | none => .stuck
  | _ => .stuck
def fSum (ds : List D) (S : Sto) : R D := match ds with
  | [d] => match (lstOf S d).bind intsD with
    | some bs => .ok (.int bs.sum) S
    | none => .stuck
  | _ => .stuck
theorem hd_all {G : GC} : CallD G (rAll G.K) fAll := by
  intro p S H vs ds W Q s r h
  unfold fAll at h
  split at h
  · split at h
    · rename_i bs e
      rw [Option.bind_eq_some_iff] at e
      obtain ⟨us, e1, e2⟩ := e
      obtain ⟨v, rfl, r1⟩ := r.one
      obtain ⟨a, xs, rfl, ht, l⟩ := lst_rep s r1 e1
      rw [blsD_rep l e2] at ht
      exact ⟨a, bs, rfl, SqL.of ht, post_v h s rfl⟩
    · exact h.elim
  · exact h.elim
theorem hd_any {G : GC} : CallD G (rAny G.K) fAny := by
  intro p S H vs ds W Q s r h
  unfold fAny at h
  split at h
  · split at h
    · rename_i bs e
      rw [Option.bind_eq_some_iff] at e
      obtain ⟨us, e1, e2⟩ := e
      obtain ⟨v, rfl, r1⟩ := r.one
      obtain ⟨a, xs, rfl, ht, l⟩ := lst_rep s r1 e1
      rw [blsD_rep l e2] at ht
      exact ⟨a, bs, rfl, SqL.of ht, post_v h s rfl⟩
    · exact h.elim
  · exact h.elim
def fTuple (ds : List D) (S : Sto) : R D := match ds with
  | [.tup xs] => .ok (.tup xs) S
  | [d] => match lstOf S d with
    | some xs => .ok (.tup xs) S
    | none => .stuck
  | _ => .stuck
/-- tuple(x) as a known object -/
def rTupleX (K : PySem.W.Frag) : List V → Hp → VK → Prop := fun xs H Q => ∃ p ys, xs = [.ref p] ∧ ((SqL K H p ys ∧ NewT H Q ys) ∨ (SqT K H p ys ∧ Q (.ref p) H))
theorem call_tupleX {X : Cx} : CallR X (.type "tuple") (rTupleX X.K) := by
  intro pins s σ H xs us Q I r h
  obtain ⟨p, ys, rfl, ⟨hq, q⟩ | h⟩ := h
  · obtain ⟨u, rfl, rx⟩ := vals1 r
    cases rx
    obtain ⟨is, r', pl, hz⟩ := I.list hq
    have en := r'.length
    refine call_tuple_list pl.isList (fun h' kp => fin_tup (I.kept (t' := s.toks) kp) hz r' q) (by simp only [List.size_toArray] <;> omega)
  · exact call_tuple_of pins s σ H _ us Q I r ⟨p, ys, rfl, .inr h⟩
theorem hd_tuple {G : GC} : CallD G (rTupleX G.K) fTuple := by
  intro p S H vs ds W Q s r h
  unfold fTuple at h
  split at h
  · obtain ⟨v, rfl, r1⟩ := r.one
    obtain ⟨a, xs, rfl, ht, l⟩ := r1
    exact ⟨a, xs, rfl, .inr ⟨ht.t, post_v h s ⟨a, xs, rfl, ht, l⟩⟩⟩
  · split at h
    · rename_i us e
      obtain ⟨v, rfl, r1⟩ := r.one
      obtain ⟨a, xs, rfl, ht, l⟩ := lst_rep s r1 e
      exact ⟨a, xs, rfl, .inl ⟨SqL.of ht, post_tup h s l⟩⟩
    · exact h.elim
  · exact h.elim
def fList (ds : List D) (S : Sto) : R D := match ds with
  | [.scr ns] => .ok (.lst (ns.map .int)) S
  | [d] => match seqOf S d with
    | some xs => .ok (.lst xs) S
    | none => .stuck
  | _ => .stuck
end DL

namespace DL
open PySem PySem.Spec PyProof.Rows L2

/-! ### expressions that make a new list -/
abbrev ML := EnvD → Sto → R (List D)
def dF (G : GC) (W : WX) (m : ML) : TE := fun sig H Q => ∃ p S rho, StRel G.K p S H ∧ EnvRel G.K H p rho sig ∧
  Post (RepL G.K) G p H (fun c d H' => W c d sig H') (fun xs H' => ∀ a, H' a = none → Q (.ref a) (upd H' a (.lst xs))) (m rho S)
def DF (X : Cx) (W : WX) (e : Expr) (m : ML) : Prop := PE X e (dF (gOf X) W m)
def mFz (m : ML) : ME := fun rho S => (m rho S).bind fun ds S1 => .ok (.lst ds) S1
def mAl (m : ML) : ME := fun rho S => (m rho S).bind fun ds S1 => .ok (.ref S1.length) (S1 ++ [.lst ds])
theorem rd_fz {G : GC} {W : WX} {m : ML} {sig : L2.St} {H : Hp} {Q : VK} (h : dE G W (mFz m) sig H Q) : dF G W m sig H Q := by
  obtain ⟨p, S, rho, hs, hr, h⟩ := h
  refine ⟨p, S, rho, hs, hr, ?_⟩
  unfold mFz at h
  cases hm : m rho S with
  | ok ds S1 =>
    rw [hm] at h
    intro q H1 xs x s1 r a ha
    exact post_lst (Post.base x h) s1 r a ha
  | exc e S1 => rw [hm] at h; exact h
  | stuck => rw [hm] at h; exact h
theorem rd_al {G : GC} {W : WX} {m : ML} {sig : L2.St} {H : Hp} {Q : VK} (h : dE G W (mAl m) sig H Q) : dF G W m sig H Q := by
  obtain ⟨p, S, rho, hs, hr, h⟩ := h
  refine ⟨p, S, rho, hs, hr, ?_⟩
  unfold mAl at h
  cases hm : m rho S with
  | ok ds S1 =>
    rw [hm] at h
    intro q H1 xs x s1 r a ha
    exact post_new (Post.base x h) s1 r a ha
  | exc e S1 => rw [hm] at h; exact h
  | stuck => rw [hm] at h; exact h
section
variable {X : Cx} {W : WX} {pos : Pos} {e : Expr} {es : List Expr} {m : ML}
theorem de_fz (h : DF X W e m) : DE X W e (mFz m) := pe_imp h fun _ _ _ => rd_fz
theorem de_al (h : DF X W e m) : DE X W e (mAl m) := pe_imp h fun _ _ _ => rd_al
def mDisp (t : MA) : ML := fun rho S => (t rho S).bind fun ds S1 => if ds.length ≤ 16777216 then .ok ds S1 else .stuck
theorem df_lst {t : MA} (ht : DA X W es t) : DF X W (.List es pos) (mDisp t) :=
  pe_imp (pe_lst ht) fun sig H Q ⟨p, S, rho, hs, hr, h⟩ => by
    refine dA_use (rel' := fun G => RepL G.K) hs hr h fun ds S1 q H1 vs x s1 e1 r1 h1 => ?_
    split at h1
    · rename_i c
      exact ⟨by rw [← r1.length]; exact lineN c, h1 q H1 vs Ext.refl s1 r1⟩
    · exact h1.elim
def gList (ds : List D) (S : Sto) : R (List D) := match ds with
  | [.scr ns] => .ok (ns.map .int) S
  | [d] => match seqOf S d with
    | some xs => .ok xs S
    | none => .stuck
  | _ => .stuck
def mCallL (g : List D → Sto → R (List D)) (t : MA) : ML := fun rho S => (t rho S).bind fun ds S1 => g ds S1
theorem df_list {t : MA} {q : Pos} (hm : X.mg "list" = none) (ha : DA X W (e :: es) t) (hg : Gl X "list" := by rfl)
    (he : starEach (e :: es) X.env = (false, eval e X.env) :: starEach es X.env := by rfl) (hpl : (backTo pos (starEach es X.env)).any (·.1) = false := by rfl) : DF X W (.Call (.Name "list" q) (e :: es) [] pos) (mCallL gList t) :=
  pe_imp (pe_callTy call_list_of hg hm (by decide +kernel) ha (by decide) (by decide) he hpl) fun sig H Q ⟨p, S, rho, hs, hr, h⟩ => by
    refine dA_use (rel' := fun G => RepL G.K) hs hr h fun ds S1 q H1 vs x s1 e1 r1 h1 => ?_
    unfold gList at h1
    split at h1
    · rename_i ns
      obtain ⟨v, rfl, r2⟩ := r1.one
      obtain ⟨a, rfl, e2⟩ := scr_sq r2
      exact ⟨a, _, rfl, .inl e2, h1 q H1 _ Ext.refl s1 (RepL.ints ns)⟩
    · split at h1
      · rename_i us e2
        obtain ⟨v, rfl, r2⟩ := r1.one
        obtain ⟨a, xs, rfl, ht, l⟩ := seq_rep s1 r2 e2
        exact ⟨a, xs, rfl, ht, h1 q H1 _ Ext.refl s1 l⟩
      · exact h1.elim
    · exact h1.elim
/-! ranges as values -/
def rgD (a b : Int) : List D := (List.range (b - a).toNat).map fun i => D.int (a + (i : Nat))
theorem rg_rep {K : PySem.W.Frag} {H : Hp} {p : Pl} (a b : Int) : RepL K H p (rgD a b) (rgV a b) := by
  unfold rgD rgV
  rw [show (fun i : Nat => D.int (a + (i : Nat))) = D.int ∘ fun i : Nat => a + (i : Int) from rfl, show (fun i : Nat => V.int (a + (i : Nat))) = V.int ∘ fun i : Nat => a + (i : Int) from rfl, ← List.map_map, ← List.map_map]
  exact RepL.ints _
abbrev MR := EnvD → Sto → R (Int × Int)
def relR (_ : Hp) (_ : Pl) (a b : Int × Int) : Prop := a = b
def dR (G : GC) (W : WX) (m : MR) : L2.St → Hp → (Int → Int → Hp → Prop) → Prop := fun sig H Q => rd (fun _ => relR) G W m sig H fun ab H' => Q ab.1 ab.2 H'
def DR (X : Cx) (W : WX) (e : Expr) (m : MR) : Prop := PRg X e (dR (gOf X) W m)
theorem prg_imp {t t' : L2.St → Hp → (Int → Int → Hp → Prop) → Prop} (h : PRg X e t) (i : ∀ sig H Q, t' sig H Q → t sig H Q) : PRg X e t' := fun pins s σ H Q I q => h pins s σ H Q I (i _ _ _ q)
def mR1 (a : ME) : MR := fun rho S => (a rho S).bind fun x S1 => match x with
  | .int n => .ok (0, n) S1
  | _ => .stuck
def mR2 (a b : ME) : MR := fun rho S => (a rho S).bind fun x S1 => (b rho S1).bind fun y S2 => match x, y with
  | .int n, .int k => .ok (n, k) S2
  | _, _ => .stuck
theorem dr_1 {a : Expr} {ma : ME} {p : Pos} (hm : X.mg "range" = none) (ha : DE X W a ma) (hg : Gl X "range" := by rfl) (na : starEach [a] X.env = (false, eval a X.env) :: starEach [] X.env := by rfl) : DR X W (.Call (.Name "range" p) [a] [] pos) (mR1 ma) :=
  prg_imp (prg_1 hg hm ha na) fun sig H Q ⟨p, S, rho, hs, hr, h⟩ => by
    refine dE_use (rel' := fun _ => relR) hs hr h fun d S1 q H1 v x s1 e1 r1 h1 => ?_
    cases d with
    | int n => exact ⟨n, r1, h1 q H1 (0, n) Ext.refl s1 rfl⟩
    | _ => exact h1.elim
def mRgL (m : MR) : ML := fun rho S => (m rho S).bind fun ab S1 => if -16777216 ≤ ab.1 ∧ ab.1 ≤ 16777216 ∧ -16777216 ≤ ab.2 ∧ ab.2 ≤ 16777216 ∧ ab.2 - ab.1 ≤ 16777216 then .ok (rgD ab.1 ab.2) S1 else .stuck
def mRgT (m : MR) : ME := fun rho S => (m rho S).bind fun ab S1 => if -16777216 ≤ ab.1 ∧ ab.1 ≤ 16777216 ∧ -16777216 ≤ ab.2 ∧ ab.2 ≤ 16777216 ∧ ab.2 - ab.1 ≤ 16777216 then .ok (.tup (rgD ab.1 ab.2)) S1 else .stuck
/-- tuple(range(a, b)) as a known object -/
def tTupRgX (te : L2.St → Hp → (Int → Int → Hp → Prop) → Prop) : TE := fun σ H Q => te σ H fun a b H1 => RgOk a b ∧ NewT H1 Q (rgV a b)
theorem pe_tupRgX {te : L2.St → Hp → (Int → Int → Hp → Prop) → Prop} {p pos : Pos} (hc : X.calm = true) (hg : Gl X "tuple") (hm : X.mg "tuple" = none) (he : PRg X e te) (na : starEach [e] X.env = (false, eval e X.env) :: starEach [] X.env := by rfl) : PE X (.Call (.Name "tuple" p) [e] [] pos) (tTupRgX te) := by
  refine ⟨fun pins s σ H Q I h => ?_⟩
  refine Call_ (ld_blt I hg hm boot_tuple (PyProof.Rows.callWith_type1 (args_cons (thn (he pins s σ H _ I h) fun x s1 ⟨r, a, b, t, u, v, H1, ex, hr, I1, ok, q⟩ => args_nil ?_) na) na))
  subst ex
  refine call_tuple_range (n := (b - a).toNat) (I1.ok.hd hc) hr (small_one ok.1 ok.2.1 ok.2.2.1 ok.2.2.2.1) (rangeSize_nat a b) ok.2.2.2.2 fun h' tk acc hk hi => ?_
  have z : (rgV a b).length ≤ sizeLine := by have := ok.2.2.2.2; rw [rgV_length, sizeLine_eq]; omega
  have f := fin_tup (I1.kept (t' := tk) hk) z (vals_rg hi) q
  rw [Array.toArray_toList] at f
  exact f
theorem de_tupRg {m : MR} {p : Pos} (hc : X.calm = true) (hm : X.mg "tuple" = none) (he : DR X W e m) (hg : Gl X "tuple" := by rfl) (na : starEach [e] X.env = (false, eval e X.env) :: starEach [] X.env := by rfl) : DE X W (.Call (.Name "tuple" p) [e] [] pos) (mRgT m) :=
  pe_imp (pe_tupRgX hc hg hm he na) fun sig H Q ⟨p, S, rho, hs, hr, h⟩ => by
    refine rd_use (rel := fun _ => relR) (rel' := fun G => RepV G.K) hs hr h fun d S1 q H1 v x s1 e1 r1 h1 => ?_
    have r' : d = v := r1
    subst r'
    split at h1
    · rename_i c
      exact ⟨⟨by omega, by omega, by omega, by omega, by omega⟩, post_tup h1 s1 (rg_rep _ _)⟩
    · exact h1.elim
/-! [e] * n as a new list -/
def mRepL (t : MA) (b : ME) : ML := fun rho S => (t rho S).bind fun ds S1 => if ds.length ≤ 16777216 then (b rho S1).bind fun y S2 => match y with
  | .int k => if ds.length * k.toNat ≤ 16777216 ∧ -1000000 ≤ k ∧ k ≤ 1000000 then .ok (List.replicate k.toNat ds).flatten S2 else .stuck
  | _ => .stuck
  else .stuck
end
end DL

namespace DL
open PySem PySem.Spec PyProof.Rows L2

/-! ### targets that are names, or tuples of such -/
inductive Tg where
  | name (i : Nat) | tup (ts : List Tg)
mutual
def tgSet : Tg → D → EnvD → Option EnvD
  | .name i, d, rho => some (rho.set i (some d))
  | .tup ts, .tup ds, rho => tgSetL ts ds rho
  | .tup _, _, _ => none
def tgSetL : List Tg → List D → EnvD → Option EnvD
  | [], [], rho => some rho
  | t :: ts, d :: ds, rho => match tgSet t d rho with
    | some r => tgSetL ts ds r
    | none => none
  | _, _, _ => none
end
mutual
def gOfT (K : PySem.W.Frag) : Tg → TG
  | .name i => gName i
  | .tup ts => gTup K ts.length (gOfL K ts)
def gOfL (K : PySem.W.Frag) : List Tg → TGs
  | [] => gNil
  | t :: ts => gCons (gOfT K t) (gOfL K ts)
end
mutual
def Tg.all (q : Nat → Bool) : Tg → Bool
  | .name i => q i
  | .tup ts => Tg.allL q ts
def Tg.allL (q : Nat → Bool) : List Tg → Bool
  | [] => true
  | t :: ts => t.all q && Tg.allL q ts
end
theorem wipe_at {sig : L2.St} {i : Nat} : ∀ {vs : List Nat}, (wipe sig vs)[i]? = if i ∈ vs ∧ i < sig.length then some none else sig[i]?
  | [] => by simp [wipe]
  | v :: vs => by
    unfold wipe
    by_cases e : v = i
    · subst e
      by_cases hl : v < sig.length
      · rw [List.getElem?_set_self (by rw [wipe_length]; exact hl), if_pos ⟨List.mem_cons_self, hl⟩]
      · rw [if_neg (fun z => hl z.2), List.getElem?_eq_none (by rw [List.length_set, wipe_length]; omega), List.getElem?_eq_none (by omega)]
    · rw [List.getElem?_set_ne e, wipe_at]
      by_cases h : i ∈ vs ∧ i < sig.length
      · rw [if_pos h, if_pos ⟨List.mem_cons_of_mem _ h.1, h.2⟩]
      · rw [if_neg h, if_neg]
        rintro ⟨h1, h2⟩
        rcases List.mem_cons.mp h1 with h1 | h1
        · exact e h1.symm
        · exact h ⟨h1, h2⟩
theorem wipe_set {sig : L2.St} {vs : List Nat} {i : Nat} {v : Option V} (h : i ∈ vs) : wipe (sig.set i v) vs = wipe sig vs := by
  apply List.ext_getElem?
  intro j
  rw [wipe_at, wipe_at, List.length_set]
  by_cases c : j ∈ vs ∧ j < sig.length
  · rw [if_pos c, if_pos c]
  · rw [if_neg c, if_neg c]
    by_cases e : i = j
    · subst e
      have hl : ¬ i < sig.length := fun z => c ⟨h, z⟩
      rw [List.getElem?_eq_none (by rw [List.length_set]; omega), List.getElem?_eq_none (by omega)]
    · rw [List.getElem?_set_ne e]
theorem wipe_wipe {sig : L2.St} {vs : List Nat} : wipe (wipe sig vs) vs = wipe sig vs := by
  apply List.ext_getElem?
  intro j
  rw [wipe_at, wipe_at, wipe_length]
  split <;> rfl
section
variable {K : PySem.W.Frag} {H : Hp} {p : Pl}
mutual
theorem tg_rep : ∀ (T : Tg) (d : D) (v : V) (rho rho' : EnvD) (sig : L2.St), EnvRel K H p rho sig → RepV K H p d v → tgSet T d rho = some rho' →
    ∃ sig', EnvRel K H p rho' sig' ∧ (∀ vs : List Nat, T.all (fun i => vs.contains i) = true → wipe sig' vs = wipe sig vs) ∧ ∀ Q : L2.St → Hp → Prop, Q sig' H → gOfT K T v sig H Q
  | .name i, d, v, rho, rho', sig, he, r, h => by
    cases h
    exact ⟨sig.set i (some v), he.set i r, fun vs c => wipe_set (by simpa [Tg.all] using c), fun Q q => q⟩
  | .tup ts, .tup ds, v, rho, rho', sig, he, r, h => by
    obtain ⟨a, xs, rfl, ht, l⟩ := r
    obtain ⟨sig', h1, h2, h3, h4⟩ := tgL_rep ts ds xs rho rho' sig he l h
    exact ⟨sig', h1, h2, fun Q q => ⟨a, xs, rfl, ht.t, by rw [← l.length]; exact h4, h3 Q q⟩⟩
  | .tup _, .non, _, _, _, _, _, _, h => by cases h
  | .tup _, .bl _, _, _, _, _, _, _, h => by cases h
  | .tup _, .int _, _, _, _, _, _, _, h => by cases h
  | .tup _, .str _, _, _, _, _, _, _, h => by cases h
  | .tup _, .lst _, _, _, _, _, _, _, h => by cases h
  | .tup _, .ref _, _, _, _, _, _, _, h => by cases h
  | .tup _, .scr _, _, _, _, _, _, _, h => by cases h
  | .tup _, .rng _ _, _, _, _, _, _, _, h => by cases h
theorem tgL_rep : ∀ (ts : List Tg) (ds : List D) (xs : List V) (rho rho' : EnvD) (sig : L2.St), EnvRel K H p rho sig → RepL K H p ds xs → tgSetL ts ds rho = some rho' →
    ∃ sig', EnvRel K H p rho' sig' ∧ (∀ vs : List Nat, Tg.allL (fun i => vs.contains i) ts = true → wipe sig' vs = wipe sig vs) ∧ (∀ Q : L2.St → Hp → Prop, Q sig' H → gOfL K ts xs sig H Q) ∧ ds.length = ts.length
  | [], [], xs, rho, rho', sig, he, r, h => by
    cases h
    cases (show xs = [] from r)
    exact ⟨sig, he, fun _ _ => rfl, fun Q q => ⟨rfl, q⟩, rfl⟩
  | [], _ :: _, _, _, _, _, _, _, h => by cases h
  | _ :: _, [], _, _, _, _, _, _, h => by cases h
  | t :: ts, d :: ds, xs, rho, rho', sig, he, r, h => by
    obtain ⟨v, vr, rfl, r1, r2⟩ := r
    unfold tgSetL at h
    split at h
    · rename_i r' e
      obtain ⟨sig1, a1, a2, a3⟩ := tg_rep t d v rho r' sig he r1 e
      obtain ⟨sig2, b1, b2, b3, b4⟩ := tgL_rep ts ds vr r' rho' sig1 a1 r2 h
      refine ⟨sig2, b1, fun vs c => ?_, fun Q q => ⟨v, vr, rfl, a3 _ (b3 Q q)⟩, by simp [b4]⟩
      unfold Tg.allL at c
      rw [Bool.and_eq_true] at c
      rw [b2 vs c.2, a2 vs c.1]
    · cases h
end
end
section
variable {X : Cx} {pos : Pos}
def DG (X : Cx) (e : Expr) (T : Tg) : Prop := PG X e (gOfT X.K T)
def DGs (X : Cx) (es : List Expr) (Ts : List Tg) : Prop := PGs X es (gOfL X.K Ts)
theorem dg_name (i : Nat) {x : Str} (hN : X.N.Nodup) (hi : X.N[i]? = some x := by rfl) (hx : Loc X.env.scope x := by first | exact Or.inl rfl | exact Or.inr rfl) (hf : X.fn x = true ∨ X.env.scope.names.lookup x = some .local := by first | exact .inl rfl | exact .inr rfl) : DG X (.Name x pos) (.name i) := pg_name hN hi hx hf
theorem dgs_nil : DGs X [] [] := pgs_nil
theorem dgs_cons {e : Expr} {es : List Expr} {T : Tg} {Ts : List Tg} (h1 : DG X e T) (h2 : DGs X es Ts)
    (hs : (assignEach (e :: es) X.env).map (·.2) = assign e X.env :: (assignEach es X.env).map (·.2) := by rfl) : DGs X (e :: es) (T :: Ts) := pgs_cons h1 h2 hs
theorem dg_tup {es : List Expr} {k : Nat} {Ts : List Tg} (hc : X.calm = true) (h : DGs X es Ts) (hn : (assignEach es X.env).length = Ts.length := by rfl) (hst : (assignEach es X.env).findIdx? (·.1) = none := by rfl) : DG X (.Tuple es k pos) (.tup Ts) := pg_tup hc h hn hst
end

/-! ### what is walked -/
abbrev It0 := Option (Nat × List D) × List D
abbrev MI := EnvD → Sto → R It0
/-- the list that is walked, if it is a mutable one, stands as it did -/
def Grd (g : Option (Nat × List D)) (S : Sto) : Prop := match g with
  | none => True
  | some n => S[n.1]? = some (.lst n.2)
structure Turns (K : PySem.W.Frag) (q : Pl) (H' : Hp) (ds : List D) (J : It) : Prop where
  go : ∀ (i : Nat) (d : D), ds[i]? = some d → J.go i H'
  yld : ∀ (i : Nat) (d : D) (x : V) (H2 : Hp), ds[i]? = some d → J.yld i H' x H2 → (∀ b o, H' b = some o → H2 b = some o) ∧ RepV K H2 q d x
  stop : J.stop ds.length H'
def relI (G : GC) (H : Hp) (p : Pl) (a : It0) (J : It) : Prop := ∀ q H' S', Ext p H q H' → StRel G.K q S' H' → Grd a.1 S' → Turns G.K q H' a.2 J
def dI (G : GC) (W : WX) (m : MI) : TI := rd relI G W m
def DI (X : Cx) (W : WX) (tg e : Expr) (m : MI) : Prop := PI X tg e (dI (gOf X) W m)
theorem pi_imp {X : Cx} {tg e : Expr} {t t' : TI} (h : PI X tg e t) (i : ∀ sig H Q, t' sig H Q → t sig H Q) : PI X tg e t' := ⟨fun pins s σ H Q I q => h.run pins s σ H Q I (i _ _ _ q)⟩
theorem pi_or {X : Cx} {tg e : Expr} {t t' : TI} (h : PI X tg e t) (h' : PI X tg e t') : PI X tg e (fun sig H Q => t sig H Q ∨ t' sig H Q) :=
  ⟨fun pins s σ H Q I q => q.elim (h.run pins s σ H Q I) (h'.run pins s σ H Q I)⟩
theorem turns_tup {K : PySem.W.Frag} {q : Pl} {H' : Hp} {ds : List D} {a : Addr} {xs : List V} (ht : SqT K H' a xs) (l : RepL K H' q ds xs) : Turns K q H' ds (Itt K a) where
  go := fun i d e => let ⟨v, e1, _⟩ := l.get i d e; ⟨xs, v, ht, e1⟩
  yld := fun i d x H2 e y => by
    obtain ⟨rfl, y⟩ := y
    obtain ⟨v, e1, r⟩ := l.get i d e
    have := (y xs ht).symm.trans e1
    cases this
    exact ⟨fun _ _ z => z, r⟩
  stop := ⟨xs, ht, by rw [← l.length]; exact Nat.le_refl _⟩
theorem turns_lst {K : PySem.W.Frag} {q : Pl} {H' : Hp} {ds : List D} {a : Addr} {xs : List V} (ht : H' a = some (.lst xs)) (l : RepL K H' q ds xs) : Turns K q H' ds (Itl K a) where
  go := fun i d e => let ⟨v, e1, _⟩ := l.get i d e; ⟨xs, v, SqL.of ht, e1⟩
  yld := fun i d x H2 e y => by
    obtain ⟨rfl, y⟩ := y
    obtain ⟨v, e1, r⟩ := l.get i d e
    have := (y xs (SqL.of ht)).symm.trans e1
    cases this
    exact ⟨fun _ _ z => z, r⟩
  stop := ⟨xs, SqL.of ht, by rw [← l.length]; exact Nat.le_refl _⟩
end DL

/-! enumerate over a tuple -/
namespace PySem
open AutoSeq1 (wpAny_loadPart')
theorem dl_meets_enumT (tp : Addr) (its : Array Value) :
    Meets (Builtin.«enumerate.__new__» ⟨[.type "enumerate", .ref tp], []⟩) (fun _ R st => st.heap.IsTuple tp its ∧
      R (.ok (.ret (.ref (st.heap.push { cls := .type "tuple_iterator", data := .fields #[.ref tp, .int 0 0] }).objs.size))) { st with heap := (st.heap.push { cls := .type "tuple_iterator", data := .fields #[.ref tp, .int 0 0] }).push { cls := .type "enumerate", data := .fields #[.none, .bool false, .ref st.heap.objs.size, rawInt 0, .none, .none] } }) :=
  .of_wp fun prog w A R st hh => by
    obtain ⟨hp, gn, dw, tk, os⟩ := st
    obtain ⟨ht, hh⟩ := hh
    have hsub := sub_enumerate
    have hT : Heap.IsTuple (Shared.heap ⟨hp, gn, dw, tk, os⟩) tp its := ht
    wp_walk using wpAny_pyIter_tuple hT
    refine wpAny_stack_any fun stk => wpAny_pure ?_
    split
    · rename_i cc _ _ _ _ _
      cases (cc == Value.type "enumerate") <;> (wp_walk using wpAny_pyIter_tuple hT; exact ⟨_, rfl, hh⟩)
    · wp_walk using wpAny_pyIter_tuple hT
      exact ⟨_, rfl, hh⟩
theorem dl_call_enumT {prog : Program} {w : World} {A : Around} {E : Value → Shared → Prop} {st : Shared} {tp : Addr} {its : Array Value} {Q : Value → Shared → Prop} (ht : st.heap.IsTuple tp its)
    (hq : ∀ h', IsEnum h' (st.heap.objs.size + 1) st.heap.objs.size 0 .none → h'.IsTupleIter st.heap.objs.size tp 0 → h'.objs.size = st.heap.objs.size + 2 → (∀ b o, st.heap.get? b = some o → h'.get? b = some o) → Q (.ref (st.heap.objs.size + 1)) { st with heap := h' }) :
    wpAny (model prog w) A (call (.type "enumerate") [.ref tp]) Q E st := by
  refine callType_new F.called_enumerate (by decide) (F.typeCall_enumerate_1 _) (F.newCall_enumerate_1 _) (fun ob => F.args_object_init_2 ob _) F.entry_enumerate_new (dl_meets_enumT tp its) ⟨ht, ?_⟩
  have hz : (st.heap.push { cls := .type "tuple_iterator", data := .fields #[.ref tp, .int 0 0] }).objs.size = st.heap.objs.size + 1 := Heap.size_push ..
  show _ ∧ _
  rw [hz]
  have he : IsEnum ((st.heap.push { cls := .type "tuple_iterator", data := .fields #[.ref tp, .int 0 0] }).push { cls := .type "enumerate", data := .fields #[.none, .bool false, .ref st.heap.objs.size, rawInt 0, .none, .none] }) (st.heap.objs.size + 1) st.heap.objs.size 0 .none := by
    have z := Heap.get?_push_size (st.heap.push { cls := .type "tuple_iterator", data := .fields #[.ref tp, .int 0 0] }) (o := { cls := .type "enumerate", data := .fields #[.none, .bool false, .ref st.heap.objs.size, rawInt 0, .none, .none] }) rfl
    rw [hz] at z
    exact z
  exact ⟨⟨_, he, rfl⟩, hq _ he ⟨_, Heap.get?_push_of_some _ (Heap.get?_push_size _ rfl), rfl, rfl⟩ (by rw [Heap.size_push, hz]) fun b o z => Heap.get?_push_of_some _ (Heap.get?_push_of_some _ z)⟩
end PySem
namespace DL
open PySem PySem.Spec PyProof.Rows L2
/-- a pair that an iterator gives is a known object -/
theorem pair_inv {X : Cx} {pins : List (Addr × Obj)} {σ : L2.St} {H : Hp} {s : Shared} {h : Heap} {tk : Nat} {ch : List Addr} {x y : V} {u v : Value} (I : Inv X pins σ H s) (hf : ∀ b ∈ ch, FpOk X pins H b) (k : ∀ b o, b ∉ ch → s.heap.get? b = some o → h.get? b = some o)
    (g : h.get? s.heap.objs.size = some { cls := .type "tuple", data := .seq #[u, v] }) (r : RelV x u) (r2 : RelV y v) :
    Inv X pins σ (upd H s.heap.objs.size (.frz { cls := .type "tuple", data := .seq #[u, v] } (.tup [x, y]))) { s with heap := h, toks := tk } :=
  I.turnedNew (ch := ch) k hf (Nat.le_refl _) (tup_ok (its := [u, v]) (by show 2 ≤ sizeLine; decide) (.cons r (.cons r2 .nil)) g rfl rfl)
/-- what such a turn gives -/
def PairY (H : Hp) (v : V) (H' : Hp) (x y : V) : Prop := ∃ T o, v = .ref T ∧ H T = none ∧ XT o ∧ H' = upd H T (.frz o (.tup [x, y]))
theorem pairY {X : Cx} {pins : List (Addr × Obj)} {σ : L2.St} {H : Hp} {s : Shared} {x y : V} {u v : Value} (I : Inv X pins σ H s) : PairY H (.ref s.heap.objs.size) (upd H s.heap.objs.size (.frz { cls := .type "tuple", data := .seq #[u, v] } (.tup [x, y]))) x y :=
  ⟨_, _, rfl, I.hok.fresh (Nat.le_refl _), ⟨rfl, rfl⟩, rfl⟩
theorem off_pair {X : Cx} {pins : List (Addr × Obj)} {H : Hp} {s : Shared} {u : HO} {b : Addr} (f : FpOk X pins H b) (l : b < s.heap.objs.size) : upd H s.heap.objs.size u b = none := by
  rw [upd_ne (Nat.ne_of_lt l)]; exact f.1
/-- enumerate(l), l a list -/
def IteX (K : PySem.W.Frag) (a : Addr) : It :=
  ⟨(Ite K a).go, fun i H v H' => ∃ x, PairY H v H' (.int (i : Nat)) x ∧ ∀ xs, SqL K H a xs → xs[i]? = some x, (Ite K a).stop⟩
theorem turn_enumX {P : Program} {w : World} {K : PySem.W.Frag} {elts : List Expr} {kk : Nat} {tpos : Pos} (a e it : Addr) :
    Turn P w K (.Tuple elts kk tpos) (IteX K a) [e, it] e (fun i h => (∃ old, IsEnum h e it ((i : Nat) : Int) old) ∧ h.IsListIter it a i ∧ e ≠ it) where
  mem := (turn_enum (P := P) (w := w) (K := K) (elts := elts) (kk := kk) (tpos := tpos) a e it).mem
  obj := (turn_enum (P := P) (w := w) (K := K) (elts := elts) (kk := kk) (tpos := tpos) a e it).obj
  keep := (turn_enum (P := P) (w := w) (K := K) (elts := elts) (kk := kk) (tpos := tpos) a e it).keep
  done := (turn_enum (P := P) (w := w) (K := K) (elts := elts) (kk := kk) (tpos := tpos) a e it).done
  self := (turn_enum (P := P) (w := w) (K := K) (elts := elts) (kk := kk) (tpos := tpos) a e it).self
  item := by
    intro X hP hw hK hc i pins s sg H E I hf st hg
    subst hP hw hK
    obtain ⟨⟨old, he⟩, hit, hne⟩ := st
    obtain ⟨xs, x, hq, hx⟩ := hg
    obtain ⟨is, rv, pl, _⟩ := I.list hq
    obtain ⟨u, hu, ru⟩ := rv.get hx
    have le : e < s.heap.objs.size := Heap.lt_size he
    have li : it < s.heap.objs.size := let ⟨_, q, _⟩ := hit; Heap.lt_size q
    refine wpAny_pyNext_enum_item he hit pl.isList (x := u) (by simpa using hu) hne fun h' ho hit' hT hsz hk => ?_
    refine ⟨_, rfl, wpAny_letOwnedTupleGo_enum (s := { s with heap := h', toks := s.toks + 1 }) ho fun h2 he' sb => ?_⟩
    have I1 := pair_inv (s := s) (h := h2) (tk := s.toks + 1) (ch := [e, it]) (x := .int (i : Nat)) (y := x) (u := .int i s.toks) (v := u) I hf (fun b o hb q => (sb.2 b fun z => hb (by simp [z])).trans (hk b o (fun z => hb (by simp [z])) (fun z => hb (by simp [z])) q)) ((sb.2 _ (Nat.ne_of_gt le)).trans hT) ⟨_, rfl⟩ ru
    refine ⟨.ref s.heap.objs.size, _, I1, rfl, ⟨x, pairY I, fun ys hy => by rw [I.list_inj hy hq]; exact hx⟩, ⟨⟨u, ?_⟩, hit'.at fun o q => (sb.2 it (Ne.symm hne)).trans q, hne⟩, fun b hb => off_pair (hf b hb) ?_⟩
    · rw [show ((i + 1 : Nat) : Int) = (i : Int) + 1 by omega]; exact he'
    · rcases (show b = e ∨ b = it by simpa using hb) with rfl | rfl
      · exact le
      · exact li
/-- enumerate(t), t a tuple: each item in a new pair -/
def IteT (K : PySem.W.Frag) (a : Addr) : It :=
  ⟨fun i H => ∃ (xs : List V) (x : V), SqT K H a xs ∧ xs[i]? = some x, fun i H v H' => ∃ x, PairY H v H' (.int (i : Nat)) x ∧ ∀ xs, SqT K H a xs → xs[i]? = some x, fun i H => ∃ xs : List V, SqT K H a xs ∧ xs.length = i⟩
theorem turn_enumT {P : Program} {w : World} {K : PySem.W.Frag} {elts : List Expr} {kk : Nat} {tpos : Pos} (a e it : Addr) :
    Turn P w K (.Tuple elts kk tpos) (IteT K a) [e, it] e (fun i h => (∃ old, IsEnum h e it ((i : Nat) : Int) old) ∧ h.IsTupleIter it a i ∧ e ≠ it) where
  mem := by simp
  obj := fun i h st b hb => by
    obtain ⟨⟨old, he⟩, ⟨o, ho, hc, hd⟩, _⟩ := st
    have eb : b = e ∨ b = it := by simpa using hb
    rcases eb with rfl | rfl
    · exact ⟨_, he, fun v q => nomatch q⟩
    · exact ⟨o, ho, fun v q => by rw [hd] at q; cases q⟩
  keep := fun i h h' st k => by
    obtain ⟨⟨old, he⟩, hi, hne⟩ := st
    exact ⟨⟨old, k e (by simp) _ he⟩, hi.at fun o q => k it (by simp) o q, hne⟩
  item := by
    intro X hP hw hK hc i pins s sg H E I hf st hg
    subst hP hw hK
    obtain ⟨⟨old, he⟩, hit, hne⟩ := st
    obtain ⟨xs, x, hq, hx⟩ := hg
    obtain ⟨its, rv, pt, hz⟩ := I.tuple hq
    obtain ⟨u, hu, ru⟩ := rv.get hx
    have hel : e < s.heap.objs.size := Heap.lt_size he
    have hil : it < s.heap.objs.size := by obtain ⟨_, q, _⟩ := hit; exact Heap.lt_size q
    have hT : s.heap.IsTuple a its.toArray := pt
    have hai : a ≠ it := fun z => by
      subst z
      obtain ⟨o1, e1, c1, d1⟩ := id hit
      obtain ⟨o2, e2, c2, n2, d2⟩ := id hT
      rw [e1] at e2; cases e2
      rw [d1] at d2; cases d2
    have hae : e ≠ a := fun z => by
      subst z
      obtain ⟨o2, e2, c2, n2, d2⟩ := id hT
      have he' : s.heap.get? e = some _ := he
      rw [he'] at e2; cases e2
      cases d2
    have hh : X.A.in1.handled = none := I.ok.hd hc
    have hlt : i < its.toArray.size := by
      have := (List.getElem?_eq_some_iff.mp hu).1
      simpa using this
    refine wpAny_pyNext_enum_itemC (Draws.tuple hh it a hai its.toArray) he ⟨hit, hT⟩ hlt hne (by simpa using ⟨hne, hae⟩) fun x2 h' tk hPx ho hst' hT2 hsz hk => ?_
    have ex : x2 = u := by
      have h1 : its.toArray[i]? = some x2 := hPx
      have h2 : its.toArray[i]? = some u := by simpa using hu
      rw [h1] at h2; exact Option.some.inj h2
    subst ex
    refine ⟨_, rfl, wpAny_letOwnedTupleGo_enum (s := { s with heap := h', toks := tk + 1 }) ho fun h'' he'' sb => ?_⟩
    have hT3 : h''.get? s.heap.objs.size = some { cls := .type "tuple", data := .seq #[.int i tk, x2] } := (sb.2 _ (Nat.ne_of_gt hel)).trans hT2
    have I1 := pair_inv (s := s) (h := h'') (tk := tk + 1) (ch := [e, it]) (x := .int (i : Nat)) (y := x) (u := .int i tk) (v := x2) I hf (fun b ob hb q => (sb.2 b (fun z => hb (by simp [z]))).trans (hk b ob (fun z => hb (by simp [z])) (fun z => hb (by simp [z])) q)) hT3 ⟨_, rfl⟩ ru
    refine ⟨.ref s.heap.objs.size, _, I1, rfl, ⟨x, pairY I, fun ys hy => by rw [I.tuple_inj hy hq]; exact hx⟩, ⟨⟨x2, ?_⟩, hst'.1.at fun o q => (sb.2 it (Ne.symm hne)).trans q, hne⟩, fun b hb => ?_⟩
    · have e1 : ((i + 1 : Nat) : Int) = (i : Int) + 1 := by omega
      rw [e1]; exact he''
    · have hb' : b < s.heap.objs.size := by
        have eb : b = e ∨ b = it := by simpa using hb
        rcases eb with rfl | rfl
        · exact hel
        · exact hil
      rw [upd_ne (Nat.ne_of_lt hb')]
      exact (hf b hb).1
  done := by
    intro X hP hw hK hc i pins s sg H E I hf st hg
    subst hP hw hK
    obtain ⟨⟨old, he⟩, hit, hne⟩ := st
    obtain ⟨xs, hq, hx⟩ := hg
    obtain ⟨its, rv, pt, hz⟩ := I.tuple hq
    have hT : s.heap.IsTuple a its.toArray := pt
    have hai : a ≠ it := fun z => by
      subst z
      obtain ⟨o1, e1, c1, d1⟩ := id hit
      obtain ⟨o2, e2, c2, n2, d2⟩ := id hT
      rw [e1] at e2; cases e2
      rw [d1] at d2; cases d2
    have hh : X.A.in1.handled = none := I.ok.hd hc
    have el : i = its.toArray.size := by
      have := rv.length
      simp only [List.size_toArray]
      omega
    subst el
    obtain ⟨f0, f1, f2, f3, f4, f5⟩ := hf it (by simp)
    exact wpAny_pyNext_enum_endD (Draws.tuple hh it a hai its.toArray) he ⟨hit, hT⟩ fun h' eb => ⟨rfl, I.turned (t' := s.toks) (fun b o hb q => eb b o hb q) f0 f1 f3 f4 f5⟩
  self := fun A i s Q E st h => by
    obtain ⟨⟨_, he⟩, _⟩ := st
    exact wpAny_pyIter_enum he h
def iEnumA (K : PySem.W.Frag) (ta : TA) : TI := fun sg H R => ta sg H fun vs H1 => ∃ a xs, vs = [.ref a] ∧ ((SqL K H1 a xs ∧ R (IteX K a) H1) ∨ (SqT K H1 a xs ∧ R (IteT K a) H1))
theorem pi_enumA {X : Cx} {e : Expr} {ta : TA} {p pos tpos : Pos} {elts : List Expr} {kk : Nat} (hg : Gl X "enumerate") (hm : X.mg "enumerate" = none) (ha : PA X [e] ta) (hs : starEach [e] X.env = [(false, eval e X.env)] := by rfl) :
    PI X (.Tuple elts kk tpos) (.Call (.Name "enumerate" p) [e] [] pos) (iEnumA X.K ta) := by
  refine ⟨fun pins s sg H R I h => ?_⟩
  refine Call_ (ld_blt I hg hm boot_enumerate (PyProof.Rows.callWith_type1 (thn (ha.run pos pins s sg H _ I h) fun us s1 ⟨vs, H1, I1, r1, q1⟩ => ?_) hs rfl))
  obtain ⟨a, xs, ex, hq⟩ := q1
  subst ex
  have nw : ∀ b ∈ [s1.heap.objs.size + 1, s1.heap.objs.size], FpOk X pins H1 b := fun b hb => by
    have eb : b = s1.heap.objs.size + 1 ∨ b = s1.heap.objs.size := by simpa using hb
    have hle : s1.heap.objs.size ≤ b := by
      rcases eb with rfl | rfl
      · exact Nat.le_add_right _ _
      · exact Nat.le_refl _
    exact I1.fpOk hle (I1.hok.fresh hle)
  cases r1 with
  | cons r rr =>
    cases rr
    cases r
    rcases hq with ⟨hq, q⟩ | ⟨hq, q⟩
    · obtain ⟨its, rv, pl, hz⟩ := I1.list hq
      refine call_enumerate_list pl.isList fun h' he hit hsz hk => wpAny_pyIter_enum he ?_
      have I2 : Inv X pins sg H1 { s1 with heap := h' } := I1.kept (t' := s1.toks) hk
      exact ⟨s1.heap.objs.size + 1, [s1.heap.objs.size + 1, s1.heap.objs.size], _, _, H1, rfl, I2, turn_enumX a _ _, ⟨⟨.none, he⟩, hit, Nat.succ_ne_self _⟩, nw, q⟩
    · obtain ⟨its, rv, pt, hz⟩ := I1.tuple hq
      refine dl_call_enumT (show s1.heap.IsTuple a its.toArray from pt) fun h' he hit hsz hk => wpAny_pyIter_enum he ?_
      have I2 : Inv X pins sg H1 { s1 with heap := h' } := I1.kept (t' := s1.toks) hk
      exact ⟨s1.heap.objs.size + 1, [s1.heap.objs.size + 1, s1.heap.objs.size], _, _, H1, rfl, I2, turn_enumT a _ _, ⟨⟨.none, he⟩, hit, Nat.succ_ne_self _⟩, nw, q⟩
/-! zip: each pair a known object -/
def ItzX (K : PySem.W.Frag) (a b : Addr) : It :=
  ⟨(Itz K a b).go, fun i H v H' => ∃ x y, PairY H v H' x y ∧ (∀ xs, SqL K H a xs → xs[i]? = some x) ∧ ∀ ys, SqL K H b ys → ys[i]? = some y, (Itz K a b).stop⟩
def ItzTX (K : PySem.W.Frag) (a b : Addr) : It :=
  ⟨(RZ.ItzT K a b).go, fun i H v H' => ∃ x y, PairY H v H' x y ∧ (∀ xs, SqT K H a xs → xs[i]? = some x) ∧ ∀ ys, SqT K H b ys → ys[i]? = some y, (RZ.ItzT K a b).stop⟩
def iZipX (K : PySem.W.Frag) (ta : TA) : TI := fun σ H R => ta σ H fun vs H1 => ∃ a b xs ys, vs = [.ref a, .ref b] ∧ ((SqL K H1 a xs ∧ SqL K H1 b ys ∧ R (ItzX K a b) H1) ∨ (SqT K H1 a xs ∧ SqT K H1 b ys ∧ R (ItzTX K a b) H1))
end DL

namespace DL
open PySem PySem.Spec PyProof.Rows L2

/-! ### sources of a walk -/
def mItV (m : ME) : MI := fun rho S => (m rho S).bind fun d S1 => match d with
  | .tup ds => .ok (none, ds) S1
  | .lst ds => .ok (none, ds) S1
  | .ref n => match S1[n]? with
    | some (.lst ds) => .ok (some (n, ds), ds) S1
    | _ => .stuck
  | _ => .stuck
theorem ref_at {K : PySem.W.Frag} {H : Hp} {p : Pl} {S : Sto} {n : Nat} {v : V} {ds : List D} (s : StRel K p S H) (r : RepV K H p (.ref n) v) (e : S[n]? = some (.lst ds)) : ∃ a xs, v = .ref a ∧ p.mu[n]? = some a ∧ H a = some (.lst xs) ∧ RepL K H p ds xs := by
  obtain ⟨a, rfl, hn⟩ := r
  obtain ⟨b, hb, xs, e2, l⟩ := s.obj n _ e
  rw [hn] at hb; cases hb
  exact ⟨a, xs, rfl, hn, e2, l⟩
theorem mu_ext {p q : Pl} {H H' : Hp} (x : Ext p H q H') {n : Nat} {a : Addr} (h : p.mu[n]? = some a) : q.mu[n]? = some a := by
  obtain ⟨more, e1, _⟩ := x.pre
  rw [e1, List.getElem?_append_left (List.getElem?_eq_some_iff.mp h).1]
  exact h
theorem relI_tup {G : GC} {H : Hp} {p : Pl} {S : Sto} {ds : List D} {a : Addr} {xs : List V} (s : StRel G.K p S H) (ht : SqT G.K H a xs) (l : RepL G.K H p ds xs) : relI G H p (none, ds) (Itt G.K a) :=
  fun q H' S' x s' _ => turns_tup (sqT_ext s x ht) (RepL.ext s x _ _ l)
theorem relI_lst {G : GC} {H : Hp} {p : Pl} {S : Sto} {ds : List D} {a : Addr} {xs : List V} (s : StRel G.K p S H) (ht : H a = some (.lst xs)) (hm : a ∉ p.mu) (l : RepL G.K H p ds xs) : relI G H p (none, ds) (Itl G.K a) :=
  fun q H' S' x s' _ => turns_lst (x.keep _ _ ht hm) (RepL.ext s x _ _ l)
theorem relI_ref {G : GC} {H : Hp} {p : Pl} {n : Nat} {ds : List D} {a : Addr} (hn : p.mu[n]? = some a) : relI G H p (some (n, ds), ds) (Itl G.K a) :=
  fun q H' S' x s' g => by
    obtain ⟨b, hb, xs, e2, l⟩ := s'.obj n _ g
    rw [mu_ext x hn] at hb; cases hb
    exact turns_lst e2 l
section
variable {X : Cx} {W : WX} {pos p0 : Pos} {tg e e2 : Expr} {m m2 : ME}
theorem di_val (h : DE X W e m) : DI X W tg e (mItV m) :=
  pi_imp (pi_or (pi_tup h) (pi_list h)) fun sig H Rr ⟨p, S, rho, hs, hr, h⟩ => by
    unfold mItV at h
    cases hm : m rho S with
    | ok d S1 =>
      rw [hm] at h
      cases d with
      | tup ds =>
        refine .inl ⟨p, S, rho, hs, hr, ?_⟩
        rw [hm]
        intro q H1 v x s r
        obtain ⟨a, xs, rfl, ht, l⟩ := r
        exact ⟨a, rfl, ⟨xs, ht.t⟩, h q H1 _ x s (relI_tup s ht.t l)⟩
      | lst ds =>
        refine .inr ⟨p, S, rho, hs, hr, ?_⟩
        rw [hm]
        intro q H1 v x s r
        obtain ⟨a, xs, rfl, ht, hmu, _, l⟩ := r
        exact ⟨a, rfl, ⟨xs, SqL.of ht⟩, h q H1 _ x s (relI_lst s ht hmu l)⟩
      | ref n =>
        refine .inr ⟨p, S, rho, hs, hr, ?_⟩
        rw [hm]
        have h : Post (relI (gOf X)) (gOf X) p H _ Rr (match S1[n]? with
          | some (.lst ds) => R.ok (some (n, ds), ds) S1
          | _ => .stuck) := h
        split at h
        · rename_i ds en
          intro q H1 v x s r
          obtain ⟨a, xs, rfl, hn, e2, l⟩ := ref_at s r en
          exact ⟨a, rfl, ⟨xs, SqL.of e2⟩, h q H1 _ x s (relI_ref hn)⟩
        · exact h.elim
      | _ => exact h.elim
    | exc x S1 =>
      rw [hm] at h
      refine .inl ⟨p, S, rho, hs, hr, ?_⟩
      rw [hm]; exact h
    | stuck => rw [hm] at h; exact h.elim
/-! range -/
def mItR (m : MR) : MI := fun rho S => (m rho S).bind fun ab S1 => if -4611686018427387904 ≤ ab.1 ∧ ab.1 < 4611686018427387904 ∧ -4611686018427387904 ≤ ab.2 ∧ ab.2 < 4611686018427387904 then .ok (none, rgD ab.1 ab.2) S1 else .stuck
theorem rgD_get {a b : Int} {i : Nat} {d : D} (h : (rgD a b)[i]? = some d) : d = .int (a + i) ∧ i < (b - a).toNat := by
  unfold rgD at h
  rw [List.getElem?_map, Option.map_eq_some_iff] at h
  obtain ⟨j, e, rfl⟩ := h
  have q := List.getElem?_eq_some_iff.mp e
  obtain ⟨h1, h2⟩ := q
  rw [List.getElem_range] at h2
  subst h2
  exact ⟨rfl, by simpa using h1⟩
theorem rgD_length (a b : Int) : (rgD a b).length = (b - a).toNat := by unfold rgD; rw [List.length_map, List.length_range]
theorem relI_rng {G : GC} {H : Hp} {p : Pl} {a b : Int} : relI G H p (none, rgD a b) (Itr a (b - a).toNat) := fun q H' S' x s' _ =>
  { go := fun i d h => (rgD_get h).2
    yld := fun i d v H2 h y => by
      obtain ⟨rfl, rfl⟩ := y
      obtain ⟨rfl, _⟩ := rgD_get h
      exact ⟨fun _ _ z => z, rfl⟩
    stop := by show (b - a).toNat ≤ (rgD a b).length; rw [rgD_length]; exact Nat.le_refl _ }
theorem di_rng1 {a : Expr} {ma : ME} (hm : X.mg "range" = none) (ha : DE X W a ma) (hg : Gl X "range" := by rfl) (hs : starEach [a] X.env = [(false, eval a X.env)] := by rfl) (hs' : starEach [a] X.env = (false, eval a X.env) :: starEach [] X.env := by rfl) :
    DI X W tg (.Call (.Name "range" p0) [a] [] pos) (mItR (mR1 ma)) :=
  pi_imp (pi_range1 hg hm (da_cons ha da_nil hs') hs) fun sig H Rr ⟨p, S, rho, hs, hr, h⟩ => by
    refine rd_use (Q := Rr) (rel := fun G => RepL G.K) (rel' := relI) (m := mCons ma mNil) (k := fun ds S1 => match ds with
      | [.int n] => if -4611686018427387904 ≤ n ∧ n < 4611686018427387904 then .ok (none, rgD 0 n) S1 else .stuck
      | _ => .stuck) hs hr ?_ fun ds S1 q H1 vs x s1 e1 r1 h1 => ?_
    · unfold mItR mR1 at h
      unfold mCons mNil
      cases hm : ma rho S with
      | ok d S1 =>
        rw [hm] at h
        cases d with
        | int n =>
          have h : Post (relI (gOf X)) (gOf X) p H _ Rr (if -4611686018427387904 ≤ (0 : Int) ∧ (0 : Int) < 4611686018427387904 ∧ -4611686018427387904 ≤ n ∧ n < 4611686018427387904 then R.ok (none, rgD 0 n) S1 else .stuck) := h
          show Post (relI (gOf X)) (gOf X) p H _ Rr (if -4611686018427387904 ≤ n ∧ n < 4611686018427387904 then R.ok (none, rgD 0 n) S1 else .stuck)
          by_cases c : -4611686018427387904 ≤ n ∧ n < 4611686018427387904
          · rw [if_pos c]; rw [if_pos ⟨by decide, by decide, c⟩] at h; exact h
          · rw [if_neg (fun z => c z.2.2)] at h; exact h.elim
        | _ => exact h.elim
      | exc x S1 => rw [hm] at h; exact h
      | stuck => rw [hm] at h; exact h.elim
    · split at h1
      · rename_i n
        split at h1
        · rename_i c
          obtain ⟨v, rfl, r2⟩ := r1.one
          cases (show v = .int n from r2)
          refine ⟨n, rfl, by omega, by omega, h1 q H1 _ Ext.refl s1 ?_⟩
          have z := relI_rng (G := gOf X) (H := H1) (p := q) (a := 0) (b := n)
          rw [show n - 0 = n by omega] at z
          exact z
        · exact h1.elim
      · exact h1.elim
/-! enumerate, zip -/
def enumD : Nat → List D → List D
  | _, [] => []
  | k, d :: ds => .tup [.int k, d] :: enumD (k + 1) ds
theorem enumD_length : ∀ (k : Nat) (ds : List D), (enumD k ds).length = ds.length
  | _, [] => rfl
  | k, d :: ds => by show (enumD (k + 1) ds).length + 1 = _; rw [enumD_length]; rfl
theorem enumD_get : ∀ (k : Nat) (ds : List D) (i : Nat) (x : D), (enumD k ds)[i]? = some x → ∃ d, ds[i]? = some d ∧ x = .tup [.int ((k + i : Nat) : Int), d]
  | _, [], i, x, h => by simp [enumD] at h
  | k, d :: ds, 0, x, h => by
    have e : .tup [.int k, d] = x := Option.some.inj h
    exact ⟨d, rfl, e.symm⟩
  | k, d :: ds, i + 1, x, h => by
    obtain ⟨d', e, q⟩ := enumD_get (k + 1) ds i x h
    refine ⟨d', e, ?_⟩
    rw [q, show k + 1 + i = k + (i + 1) by omega]
def mItE (m : ME) : MI := fun rho S => (m rho S).bind fun d S1 => match d with
  | .tup ds => .ok (none, enumD 0 ds) S1
  | .lst ds => .ok (none, enumD 0 ds) S1
  | .ref n => match S1[n]? with
    | some (.lst ds) => .ok (some (n, ds), enumD 0 ds) S1
    | _ => .stuck
  | _ => .stuck
theorem pair_rep {K : PySem.W.Frag} {q : Pl} {H' H2 : Hp} {S' : Sto} {v x y : V} {d e : D} (s : StRel K q S' H') (h : PairY H' v H2 x y) (r : RepV K H' q d x) (r2 : RepV K H' q e y) : (∀ b o, H' b = some o → H2 b = some o) ∧ RepV K H2 q (.tup [d, e]) v := by
  obtain ⟨T, o, rfl, hT, c, rfl⟩ := h
  exact ⟨same_upd hT, (new_tup s hT c (ds := [d, e]) (xs := [x, y]) (RepL.cons r (RepL.cons r2 RepL.nil))).2.2⟩
theorem turns_enT {K : PySem.W.Frag} {q : Pl} {S' : Sto} {H' : Hp} {ds : List D} {a : Addr} {xs : List V} (s : StRel K q S' H') (ht : SqT K H' a xs) (l : RepL K H' q ds xs) : Turns K q H' (enumD 0 ds) (IteT K a) where
  go := fun i d h => by
    obtain ⟨d', e, _⟩ := enumD_get 0 ds i d h
    obtain ⟨v, e1, _⟩ := l.get i d' e
    exact ⟨xs, v, ht, e1⟩
  yld := fun i d x H2 h y => by
    obtain ⟨d', e, rfl⟩ := enumD_get 0 ds i d h
    obtain ⟨v, e1, r⟩ := l.get i d' e
    obtain ⟨x', hP, y⟩ := y
    cases (y xs ht).symm.trans e1
    rw [Nat.zero_add]
    exact pair_rep s hP (d := .int i) rfl r
  stop := ⟨xs, ht, by rw [enumD_length, ← l.length]⟩
theorem turns_enL {K : PySem.W.Frag} {q : Pl} {S' : Sto} {H' : Hp} {ds : List D} {a : Addr} {xs : List V} (s : StRel K q S' H') (ht : H' a = some (.lst xs)) (l : RepL K H' q ds xs) : Turns K q H' (enumD 0 ds) (IteX K a) where
  go := fun i d h => by
    obtain ⟨d', e, _⟩ := enumD_get 0 ds i d h
    obtain ⟨v, e1, _⟩ := l.get i d' e
    exact ⟨xs, v, SqL.of ht, e1⟩
  yld := fun i d x H2 h y => by
    obtain ⟨d', e, rfl⟩ := enumD_get 0 ds i d h
    obtain ⟨v, e1, r⟩ := l.get i d' e
    obtain ⟨x', hP, y⟩ := y
    cases (y xs (SqL.of ht)).symm.trans e1
    rw [Nat.zero_add]
    exact pair_rep s hP (d := .int i) rfl r
  stop := ⟨xs, SqL.of ht, by rw [enumD_length, ← l.length]; exact Nat.le_refl _⟩
theorem di_enum {elts : List Expr} {kk : Nat} {tpos : Pos} (hm : X.mg "enumerate" = none) (h : DE X W e m) (hg : Gl X "enumerate" := by rfl) (hs : starEach [e] X.env = [(false, eval e X.env)] := by rfl) (hs' : starEach [e] X.env = (false, eval e X.env) :: starEach [] X.env := by rfl) :
    DI X W (.Tuple elts kk tpos) (.Call (.Name "enumerate" p0) [e] [] pos) (mItE m) :=
  pi_imp (pi_enumA hg hm (da_cons h da_nil hs') hs) fun sig H Rr ⟨p, S, rho, hs, hr, h⟩ => by
    refine rd_use (Q := Rr) (rel := fun G => RepL G.K) (rel' := relI) (m := mCons m mNil) (k := fun ds S1 => match ds with
      | [.tup us] => .ok (none, enumD 0 us) S1
      | [.lst us] => .ok (none, enumD 0 us) S1
      | [.ref n] => match S1[n]? with
        | some (.lst us) => .ok (some (n, us), enumD 0 us) S1
        | _ => .stuck
      | _ => .stuck) hs hr ?_ fun ds S1 q H1 vs x s1 e1 r1 h1 => ?_
    · unfold mItE at h
      unfold mCons mNil
      cases hm : m rho S with
      | ok d S1 => rw [hm] at h; cases d <;> exact h
      | exc x S1 => rw [hm] at h; exact h
      | stuck => rw [hm] at h; exact h
    · split at h1
      · rename_i us
        obtain ⟨v, rfl, r2⟩ := r1.one
        obtain ⟨a, xs, rfl, ht, l⟩ := r2
        exact ⟨a, xs, rfl, .inr ⟨ht.t, h1 q H1 _ Ext.refl s1 fun q2 H2 S2 x2 s2 _ => turns_enT s2 (sqT_ext s1 x2 ht.t) (RepL.ext s1 x2 _ _ l)⟩⟩
      · rename_i us
        obtain ⟨v, rfl, r2⟩ := r1.one
        obtain ⟨a, xs, rfl, ht, hmu, _, l⟩ := r2
        exact ⟨a, xs, rfl, .inl ⟨SqL.of ht, h1 q H1 _ Ext.refl s1 fun q2 H2 S2 x2 s2 _ => turns_enL s2 (x2.keep _ _ ht hmu) (RepL.ext s1 x2 _ _ l)⟩⟩
      · rename_i n
        split at h1
        · rename_i us en
          obtain ⟨v, rfl, r2⟩ := r1.one
          obtain ⟨a, xs, rfl, hn, e2, l⟩ := ref_at s1 r2 en
          refine ⟨a, xs, rfl, .inl ⟨SqL.of e2, h1 q H1 _ Ext.refl s1 fun q2 H2 S2 x2 s2 g => ?_⟩⟩
          obtain ⟨b, hb, ys, e3, l3⟩ := s2.obj n _ g
          rw [mu_ext x2 hn] at hb; cases hb
          exact turns_enL s2 e3 l3
        · exact h1.elim
      · exact h1.elim
def zipD : List D → List D → List D
  | d :: ds, e :: es => .tup [d, e] :: zipD ds es
  | _, _ => []
def mItZ (a b : ME) : MI := fun rho S => (a rho S).bind fun d S1 => (b rho S1).bind fun e S2 => match d, e with
  | .tup ds, .tup es => .ok (none, zipD ds es) S2
  | .lst ds, .lst es => .ok (none, zipD ds es) S2
  | _, _ => .stuck
end
end DL

namespace DL
open PySem PySem.Spec PyProof.Rows L2
open Classical in
/-- a walk by statements -/
noncomputable def loopF (g : Option (Nat × List D)) (step : D → EnvD → Sto → RS) : List D → EnvD → Sto → RS
  | [], rho, S => if Grd g S then .nx rho S else .stuck
  | d :: ds, rho, S => if Grd g S then (match step d rho S with
    | .nx r S' => loopF g step ds r S'
    | .ct r S' => loopF g step ds r S'
    | .bk r S' => .nx r S'
    | .rt v S' => .rt v S'
    | .exc x r S' => .exc x r S'
    | .stuck => .stuck) else .stuck
noncomputable def mFor (it : MI) (T : Tg) (body : MS) : MS := fun rho S => match it rho S with
  | .ok a S1 => loopF a.1 (fun d r S => match tgSet T d r with
    | some r' => body r' S
    | none => .stuck) a.2 rho S1
  | .exc x S1 => .exc x rho S1
  | .stuck => .stuck
theorem drop_cons {α : Type} {ds : List α} {i : Nat} {d : α} (h : ds[i]? = some d) : ds.drop i = d :: ds.drop (i + 1) := by
  obtain ⟨h1, h2⟩ := List.getElem?_eq_some_iff.mp h
  rw [List.drop_eq_getElem_cons h1, h2]
section
variable {X : Cx} {W : WX} {pos : Pos} {tg iter : Expr} {body : List Stmt} {it : MI} {T : Tg} {mb : MS}
theorem ds_for (hp : PassesOwn (model X.prog X.w) X.A X.env X.xe) (hc : X.calm = true) (hi : DI X W tg iter it) (hg : DG X tg T) (hb : DSs X W body mb) (hs : ∀ x, foldedSetIterable iter X.env x = pure x := by intro _; rfl) :
    DS X W (.For tg iter body [] pos) (mFor it T mb) :=
  ps_imp (ps_for hp hc hi hg hb hs) fun Dn sig H ⟨p, S, rho, hs, hr, h⟩ => by
    refine rd_useS (rel := relI) (m := it) (k := fun a S1 => loopF a.1 (fun d r S => match tgSet T d r with
      | some r' => mb r' S
      | none => .stuck) a.2 rho S1) (Dn := Dn) hs hr (by unfold mFor at h; cases hm : it rho S <;> rw [hm] at h <;> exact h) fun a S1 q H1 J x s1 e1 r1 h1 => ?_
    obtain ⟨g, ds⟩ := a
    refine ⟨fun i m sg Hx => m = ds.length - i ∧ i ≤ ds.length ∧ ∃ q2 S2 rho2, Ext q H1 q2 Hx ∧ StRel X.K q2 S2 Hx ∧ EnvRel X.K Hx q2 rho2 sg ∧ PostS (gOf X) q2 Hx W Dn (loopF g (fun d r S => match tgSet T d r with
      | some r' => mb r' S
      | none => .stuck) (ds.drop i) rho2 S2), ⟨ds.length, by simp, Nat.zero_le _, q, S1, rho, Ext.refl, s1, e1, h1⟩, ?_⟩
    rintro i m sg Hx ⟨rfl, hi, q2, S2, rho2, x2, s2, e2, h2⟩
    by_cases hlt : i < ds.length
    · have ed : ds[i]? = some ds[i] := List.getElem?_eq_getElem hlt
      rw [drop_cons ed] at h2
      unfold loopF at h2
      by_cases hgr : Grd g S2
      · rw [if_pos hgr] at h2
        have t := r1 q2 Hx S2 x2 s2 hgr
        refine .inr ⟨t.go i _ ed, fun sg' H' => ∃ q3 S3 rho3, Ext q H1 q3 H' ∧ StRel X.K q3 S3 H' ∧ EnvRel X.K H' q3 rho3 sg' ∧ PostS (gOf X) q3 H' W Dn (loopF g (fun d r S => match tgSet T d r with
          | some r' => mb r' S
          | none => .stuck) (ds.drop (i + 1)) rho3 S3), fun sg' H' z => ⟨ds.length - (i + 1), by omega, rfl, hlt, z⟩, fun v H' y => ?_⟩
        obtain ⟨sm, rv⟩ := t.yld i _ v H' ed y
        have x3 : Ext q2 Hx q2 H' := Ext.of_same sm
        have s3 := s2.same sm
        have e3 := EnvRel.ext s2 x3 e2
        cases et : tgSet T ds[i] rho2 with
        | none => simp only [et] at h2; exact h2.elim
        | some r' =>
          simp only [et] at h2
          obtain ⟨sg', a1, _, a3⟩ := tg_rep T ds[i] v rho2 r' sg e3 rv et
          refine a3 _ ⟨q2, S2, r', s3, a1, ?_⟩
          cases em : mb r' S2 with
          | nx r S' =>
            rw [em] at h2
            exact fun q4 H4 sg4 x4 s4 e4 => ⟨q4, S', r, x2.trans (x3.trans x4), s4, e4, PostS.base (x3.trans x4) h2⟩
          | ct r S' =>
            rw [em] at h2
            exact fun q4 H4 sg4 x4 s4 e4 => ⟨q4, S', r, x2.trans (x3.trans x4), s4, e4, PostS.base (x3.trans x4) h2⟩
          | bk r S' =>
            rw [em] at h2
            exact fun q4 H4 sg4 x4 s4 e4 => h2 q4 H4 sg4 (x3.trans x4) s4 e4
          | rt d S' =>
            rw [em] at h2
            exact fun q4 H4 sg4 x4 s4 e4 => h2 q4 H4 sg4 (x3.trans x4) s4 e4
          | exc e r S' =>
            rw [em] at h2
            exact fun q4 H4 sg4 c d x4 s4 e4 => h2 q4 H4 sg4 c d (x3.trans x4) s4 e4
          | stuck => rw [em] at h2; exact h2
      · rw [if_neg hgr] at h2; exact h2.elim
    · have ei : i = ds.length := by omega
      subst ei
      rw [List.drop_length] at h2
      unfold loopF at h2
      by_cases hgr : Grd g S2
      · rw [if_pos hgr] at h2
        exact .inl ⟨(r1 q2 Hx S2 x2 s2 hgr).stop, h2 q2 Hx sg Ext.refl s2 e2⟩
      · rw [if_neg hgr] at h2; exact h2.elim
end

/-! ### while, by fuel -/
def whileF (c : MB) (body : MS) : Nat → EnvD → Sto → RS
  | 0, _, _ => .stuck
  | n + 1, rho, S => match c rho S with
    | .ok b S1 => if b = true then (match body rho S1 with
      | .nx r S' => whileF c body n r S'
      | .ct r S' => whileF c body n r S'
      | .bk r S' => .nx r S'
      | .rt v S' => .rt v S'
      | .exc x r S' => .exc x r S'
      | .stuck => .stuck) else .nx rho S1
    | .exc x S1 => .exc x rho S1
    | .stuck => .stuck
@[irreducible] def wFuel : Nat := 1000000000
def mWhile (c : MB) (body : MS) : MS := whileF c body wFuel
section
variable {X : Cx} {W : WX} {pos : Pos} {c : Expr} {body : List Stmt} {mc : MB} {mb : MS}
end

/-! ### blocks -/
def mNx : MS := fun rho S => .nx rho S
def mSeq (a b : MS) : MS := fun rho S => match a rho S with
  | .nx r S' => b r S'
  | r => r
def mRet (m : ME) : MS := fun rho S => match m rho S with
  | .ok d S1 => .rt d S1
  | .exc x S1 => .exc x rho S1
  | .stuck => .stuck
def mRetN : MS := fun _ S => .rt .non S
def mDrop (m : ME) : MS := fun rho S => match m rho S with
  | .ok _ S1 => .nx rho S1
  | .exc x S1 => .exc x rho S1
  | .stuck => .stuck
def mIf (c : MB) (a b : MS) : MS := fun rho S => match c rho S with
  | .ok k S1 => if k = true then a rho S1 else b rho S1
  | .exc x S1 => .exc x rho S1
  | .stuck => .stuck
def mSet (i : Nat) (m : ME) : MS := fun rho S => match m rho S with
  | .ok d S1 => .nx (rho.set i (some d)) S1
  | .exc x S1 => .exc x rho S1
  | .stuck => .stuck
def mAsg (T : Tg) (m : ME) : MS := fun rho S => match m rho S with
  | .ok d S1 => match tgSet T d rho with
    | some r => .nx r S1
    | none => .stuck
  | .exc x S1 => .exc x rho S1
  | .stuck => .stuck
def mBrk : MS := fun rho S => .bk rho S
def mCnt : MS := fun rho S => .ct rho S
section
variable {X : Cx} {W : WX} {pos : Pos} {st : Stmt} {rest : List Stmt} {e c tg : Expr} {a b : MS} {m : ME} {mc : MB} {es es2 : List Stmt}
theorem dss_nil : DSs X W [] mNx := pss_imp pss_nil fun Dn sig H ⟨p, S, rho, hs, hr, h⟩ => h p H sig Ext.refl hs hr
theorem dss_cons (h1 : DS X W st a) (h2 : DSs X W rest b) : DSs X W (st :: rest) (mSeq a b) :=
  pss_imp (pss_cons h1 h2) fun Dn sig H ⟨p, S, rho, hs, hr, h⟩ => by
    refine ⟨p, S, rho, hs, hr, ?_⟩
    unfold mSeq at h
    cases hm : a rho S with
    | nx r S' =>
      rw [hm] at h
      exact fun q H1 sg x s1 e1 => ⟨q, S', r, s1, e1, PostS.base x h⟩
    | rt d S' => rw [hm] at h; exact h
    | bk r S' => rw [hm] at h; exact h
    | ct r S' => rw [hm] at h; exact h
    | exc x r S' => rw [hm] at h; exact h
    | stuck => rw [hm] at h; exact h
theorem dss_one (h1 : DS X W st a) : DSs X W [st] a := pss_one h1
theorem ds_ret (h : DE X W e m) : DS X W (.Return (some e) pos) (mRet m) :=
  ps_imp (ps_ret h) fun Dn sig H ⟨p, S, rho, hs, hr, h⟩ => by
    refine rd_useS (rel := fun G => RepV G.K) (m := m) (k := fun d S1 => .rt d S1) (Dn := Dn) hs hr (by unfold mRet at h; cases hm : m rho S <;> rw [hm] at h <;> exact h) fun d S1 q H1 v x s1 e1 r1 h1 => ?_
    exact h1 q H1 v Ext.refl s1 r1
theorem ds_expr (h : DE X W e m) (hs : swapsWith e none pos.line X.env = pure false := by rfl) : DS X W (.Expr e pos) (mDrop m) :=
  ps_imp (ps_expr h hs) fun Dn sig H ⟨p, S, rho, hs, hr, h⟩ => by
    refine rd_useS (rel := fun G => RepV G.K) (m := m) (k := fun d S1 => .nx rho S1) (Dn := Dn) hs hr (by unfold mDrop at h; cases hm : m rho S <;> rw [hm] at h <;> exact h) fun d S1 q H1 v x s1 e1 r1 h1 => ?_
    exact h1 q H1 sig Ext.refl s1 e1
theorem ds_if (hc : DT X W c mc) (h1 : DSs X W es a) (h2 : DSs X W es2 b) : DS X W (.If c es es2 pos) (mIf mc a b) :=
  ps_imp (ps_if hc h1 h2) fun Dn sig H ⟨p, S, rho, hs, hr, h⟩ => by
    refine rd_useS (rel := fun _ => relB) (m := mc) (k := fun k S1 => if k = true then a rho S1 else b rho S1) (Dn := Dn) hs hr (by unfold mIf at h; cases hm : mc rho S <;> rw [hm] at h <;> exact h) fun d S1 q H1 v x s1 e1 r1 h1 => ?_
    have rb : d = v := r1
    subst rb
    cases d with
    | true => exact ⟨q, S1, rho, s1, e1, h1⟩
    | false => exact ⟨q, S1, rho, s1, e1, h1⟩
theorem rd_set {G : GC} {i : Nat} {Dn : Ends} {sig : L2.St} {H : Hp} (h : dS G W (mSet i m) Dn sig H) : tAsg (dE G W m) (gName i) Dn sig H := by
  obtain ⟨p, S, rho, hs, hr, h⟩ := h
  refine rd_useS (rel := fun G => RepV G.K) (m := m) (k := fun d S1 => .nx (rho.set i (some d)) S1) (Dn := Dn) hs hr (by unfold mSet at h; cases hm : m rho S <;> rw [hm] at h <;> exact h) fun d S1 q H1 v x s1 e1 r1 h1 => ?_
  exact h1 q H1 _ Ext.refl s1 (e1.set i r1)
theorem ds_set (i : Nat) {x : Str} {pos' : Pos} (hN : X.N.Nodup) (he : DE X W e m) (hi : X.N[i]? = some x := by rfl) (hx : Loc X.env.scope x := by first | exact Or.inl rfl | exact Or.inr rfl) (hs : swapsWith e (some (.Name x pos')) pos.line X.env = pure false := by rfl) (hf : X.fn x = true ∨ X.env.scope.names.lookup x = some .local := by first | exact .inl rfl | exact .inr rfl) :
    DS X W (.Assign [.Name x pos'] e pos) (mSet i m) := ps_imp (ps_set hN hi hx he hs hf) fun _ _ _ h => rd_set h
theorem ds_asg {T : Tg} (he : DE X W e m) (hg : DG X tg T) (hs : swapsWithSole [tg] e pos.line X.env = pure false := by rfl) (hw : swappedStores [tg] e X.env = pure none := by rfl) (h1 : (assignEach [tg] X.env).map (·.2) = [assign tg X.env] := by rfl) :
    DS X W (.Assign [tg] e pos) (mAsg T m) :=
  ps_imp (ps_asg he hg hs hw h1) fun Dn sig H ⟨p, S, rho, hs, hr, h⟩ => by
    refine rd_useS (rel := fun G => RepV G.K) (m := m) (k := fun d S1 => match tgSet T d rho with
      | some r => .nx r S1
      | none => .stuck) (Dn := Dn) hs hr (by unfold mAsg at h; cases hm : m rho S <;> rw [hm] at h <;> exact h) fun d S1 q H1 v x s1 e1 r1 h1 => ?_
    split at h1
    · rename_i r er
      obtain ⟨sg', a1, _, a3⟩ := tg_rep T d v rho r sig e1 r1 er
      exact a3 _ (h1 q H1 sg' Ext.refl s1 a1)
    · exact h1.elim
/-! xs[i] = e -/
def mSub (o i e : ME) : MS := fun rho S => match e rho S with
  | .ok d S1 => match o rho S1 with
    | .ok x S2 => match i rho S2 with
      | .ok y S3 => match x, y with
        | .ref n, .int k => match S3[n]? with
          | some (.lst ds) => match ixN ds.length k with
            | some j => .nx rho (S3.set n (.lst (ds.set j d)))
            | none => .stuck
          | _ => .stuck
        | _, _ => .stuck
      | _ => .stuck
    | _ => .stuck
  | .exc x S1 => .exc x rho S1
  | .stuck => .stuck
theorem ds_sub {o i : Expr} {mo mi : ME} {tpos : Pos} (he : DE X W e m) (ho : DE X W o mo) (hi : DE X W i mi) (ha : ∀ v, assign (.Subscript o i tpos) X.env v = (do
      let ov ← holding [v] (eval o X.env)
      let iv ← holding [v, ov] (eval i X.env)
      standAt tpos
      holding [v, ov, iv] (setItem ov iv v)
      release [v, ov, iv] []) := by intro _; rfl) (hs : swapsWithSole [.Subscript o i tpos] e pos.line X.env = pure false := by rfl) (hw : swappedStores [.Subscript o i tpos] e X.env = pure none := by rfl) (h1 : (assignEach [.Subscript o i tpos] X.env).map (·.2) = [assign (.Subscript o i tpos) X.env] := by rfl) :
    DS X W (.Assign [.Subscript o i tpos] e pos) (mSub mo mi m) :=
  ps_imp (ps_asg he (pg_sub ho hi set_list ha) hs hw h1) fun Dn sig H ⟨p, S, rho, hs, hr, h⟩ => by
    unfold mSub at h
    refine rd_useS (rel := fun G => RepV G.K) (m := m) (k := fun d S1 => match mo rho S1 with
      | .ok x S2 => match mi rho S2 with
        | .ok y S3 => match x, y with
          | .ref n, .int k => match S3[n]? with
            | some (.lst ds) => match ixN ds.length k with
              | some j => .nx rho (S3.set n (.lst (ds.set j d)))
              | none => .stuck
            | _ => .stuck
          | _, _ => .stuck
        | _ => .stuck
      | _ => .stuck) (Dn := Dn) hs hr (by cases hm : m rho S <;> rw [hm] at h <;> exact h) fun d S1 q H1 v x s1 e1 r1 h1 => ?_
    show dE (gOf X) W mo sig H1 fun o H1 => dE (gOf X) W mi sig H1 fun i H2 => rSetL o i v H2 fun H3 => Dn.nx sig H3
    refine ⟨q, S1, rho, s1, e1, ?_⟩
    cases ho : mo rho S1 with
    | ok dx S2 =>
      rw [ho] at h1
      intro q2 H2 vx x2 s2 r2
      refine ⟨q2, S2, rho, s2, EnvRel.ext s1 x2 e1, ?_⟩
      cases hi : mi rho S2 with
      | ok dy S3 =>
        simp only [hi] at h1
        intro q3 H3 vy x3 s3 r3
        split at h1
        · rename_i n k
          split at h1
          · rename_i ds en
            split at h1
            · rename_i j ej
              obtain ⟨a, xs, rfl, hn, e2, l⟩ := ref_at s3 (RepV.ext s2 x3 _ _ r2) en
              cases (show vy = .int k from r3)
              refine ⟨a, xs, k, j, rfl, rfl, e2, by rw [← l.length]; exact ej, ?_⟩
              have rv := RepV.ext s2 x3 _ _ (RepV.ext s1 x2 _ _ r1)
              obtain ⟨x4, s4⟩ := set_mo (mo := .lst (ds.set j d)) (o := .lst (xs.set j v)) s3 hn (by rw [e2]; simp) ⟨by simp, by simp⟩ fun x4 => ⟨_, upd_same, RepL.ext s3 x4 _ _ (l.set j rv)⟩
              exact h1 q3 _ sig (x2.trans (x3.trans x4)) s4 (EnvRel.ext s3 x4 (EnvRel.ext s2 x3 (EnvRel.ext s1 x2 e1)))
            · exact h1.elim
          · exact h1.elim
        · exact h1.elim
      | exc x S3 => simp only [hi] at h1; exact h1.elim
      | stuck => simp only [hi] at h1; exact h1.elim
    | exc x S2 => rw [ho] at h1; exact h1.elim
    | stuck => rw [ho] at h1; exact h1.elim
end
end DL

namespace DL
open PySem PySem.Spec PyProof.Rows L2

/-! ### a list that is being made is kept apart -/
def Pl.hide (p : Pl) (b : Addr) : Pl := ⟨p.mu, fun a => a = b ∨ p.hid a⟩
def Pl.unhide (p : Pl) (b : Addr) : Pl := ⟨p.mu, fun a => p.hid a ∧ a ≠ b⟩
section
variable {K : PySem.W.Frag} {H H' : Hp} {p q : Pl} {S : Sto} {b : Addr} {ob : HO}
/-- no tuple, nothing frozen -/
def Free (ob : HO) : Prop := (∀ xs, ob ≠ .tup xs) ∧ ∀ o u, ob ≠ .frz o u
theorem free_lst {us : List V} : Free (.lst us) := ⟨fun _ h => (nomatch h), fun _ _ h => (nomatch h)⟩
theorem free_raw {a : Addr} {ws : List (NestedKey × V × V)} : Free (rawO a ws) := ⟨fun _ h => (by unfold rawO at h; nomatch h), fun _ _ h => (by unfold rawO at h; nomatch h)⟩
theorem del_some {a : Addr} {o : HO} (h : L2.del H b a = some o) : a ≠ b ∧ H a = some o := by
  unfold L2.del at h
  split at h
  · cases h
  · rename_i n; exact ⟨n, h⟩
theorem del_of {a : Addr} {o : HO} (n : a ≠ b) (h : H a = some o) : L2.del H b a = some o := by rw [L2.del_ne n]; exact h
theorem sqT_hide {a : Addr} {xs : List V} (h : SqT K (L2.del H b) a xs) : SqT K H a xs := by
  rcases h with (h | ⟨o, h⟩) | h
  · exact .inl (.inl (del_some h).2)
  · exact .inl (.inr ⟨o, (del_some h).2⟩)
  · exact .inr h
theorem sqT_unhide {a : Addr} {xs : List V} (no : Free ob) (hb : H b = some ob) (h : SqT K H a xs) : SqT K (L2.del H b) a xs := by
  rcases h with (h | ⟨o, h⟩) | h
  · exact .inl (.inl (del_of (fun e => by rw [e, hb] at h; exact no.1 _ (Option.some.inj h)) h))
  · exact .inl (.inr ⟨o, del_of (fun e => by rw [e, hb] at h; exact no.2 _ _ (Option.some.inj h)) h⟩)
  · exact .inr h
theorem sqX_hide {a : Addr} {xs : List V} (h : SqX K (L2.del H b) a xs) : SqX K H a xs := by
  rcases h with ⟨o, h, c⟩ | h
  · exact .inl ⟨o, (del_some h).2, c⟩
  · exact .inr h
theorem sqX_unhide {a : Addr} {xs : List V} (no : Free ob) (hb : H b = some ob) (h : SqX K H a xs) : SqX K (L2.del H b) a xs := by
  rcases h with ⟨o, h, c⟩ | h
  · exact .inl ⟨o, del_of (fun e => by rw [e, hb] at h; exact no.2 _ _ (Option.some.inj h)) h, c⟩
  · exact .inr h
mutual
theorem RepV.hide : ∀ (d : D) (v : V), RepV K (L2.del H b) p d v → RepV K H (p.hide b) d v
  | .non, _, h => h
  | .bl _, _, h => h
  | .int _, _, h => h
  | .str _, _, h => h
  | .tup ds, _, h => by
    obtain ⟨a, xs, e, ht, l⟩ := h
    exact ⟨a, xs, e, sqX_hide ht, RepL.hide ds xs l⟩
  | .lst ds, _, h => by
    obtain ⟨a, xs, e, ht, hm, hh, l⟩ := h
    obtain ⟨n, ht⟩ := del_some ht
    exact ⟨a, xs, e, ht, hm, fun z => z.elim n hh, RepL.hide ds xs l⟩
  | .ref n, _, h => h
  | .scr ns, _, h => by
    obtain ⟨a, e, ⟨o, ht, hm⟩ | h⟩ := h
    · exact ⟨a, e, .inl ⟨o, (del_some ht).2, hm⟩⟩
    · exact ⟨a, e, .inr h⟩
  | .rng lo hi, _, h => by
    obtain ⟨a, e, ht, hm, hh⟩ := h
    obtain ⟨n, ht⟩ := del_some ht
    exact ⟨a, e, ht, hm, fun z => z.elim n hh⟩
theorem RepL.hide : ∀ (ds : List D) (vs : List V), RepL K (L2.del H b) p ds vs → RepL K H (p.hide b) ds vs
  | [], _, h => h
  | d :: ds, _, h => by
    obtain ⟨v, vr, e, h1, h2⟩ := h
    exact ⟨v, vr, e, RepV.hide d v h1, RepL.hide ds vr h2⟩
end
mutual
theorem RepV.unhide (no : Free ob) (hb : H b = some ob) (hq : q.hid b) : ∀ (d : D) (v : V), RepV K H q d v → RepV K (L2.del H b) (q.unhide b) d v
  | .non, _, h => h
  | .bl _, _, h => h
  | .int _, _, h => h
  | .str _, _, h => h
  | .tup ds, _, h => by
    obtain ⟨a, xs, e, ht, l⟩ := h
    exact ⟨a, xs, e, sqX_unhide no hb ht, RepL.unhide no hb hq ds xs l⟩
  | .lst ds, _, h => by
    obtain ⟨a, xs, e, ht, hm, hh, l⟩ := h
    exact ⟨a, xs, e, del_of (fun z => hh (by rw [z]; exact hq)) ht, hm, fun z => hh z.1, RepL.unhide no hb hq ds xs l⟩
  | .ref n, _, h => h
  | .scr ns, _, h => by
    obtain ⟨a, e, ⟨o, ht, hm⟩ | h⟩ := h
    · exact ⟨a, e, .inl ⟨o, del_of (fun z => by rw [z, hb] at ht; exact no.2 _ _ (Option.some.inj ht)) ht, hm⟩⟩
    · exact ⟨a, e, .inr h⟩
  | .rng lo hi, _, h => by
    obtain ⟨a, e, ht, hm, hh⟩ := h
    exact ⟨a, e, del_of (fun z => hh (by rw [z]; exact hq)) ht, hm, fun z => hh z.1⟩
theorem RepL.unhide (no : Free ob) (hb : H b = some ob) (hq : q.hid b) : ∀ (ds : List D) (vs : List V), RepL K H q ds vs → RepL K (L2.del H b) (q.unhide b) ds vs
  | [], _, h => h
  | d :: ds, _, h => by
    obtain ⟨v, vr, e, h1, h2⟩ := h
    exact ⟨v, vr, e, RepV.unhide no hb hq d v h1, RepL.unhide no hb hq ds vr h2⟩
end
theorem StRel.hide (hb : H b = some ob) (s : StRel K p S (L2.del H b)) : StRel K (p.hide b) S H := by
  have ne : ∀ a ∈ p.mu, a ≠ b := fun a ha => by
    obtain ⟨o, e, _⟩ := s.has ha
    exact (del_some e).1
  refine ⟨s.len, s.nd, fun a ha z => z.elim (ne a ha) (s.dis a ha), fun a z => ?_, fun n mo e => ?_⟩
  · rcases z with rfl | z
    · exact ⟨_, hb⟩
    · obtain ⟨o, e⟩ := s.hid a z
      exact ⟨o, (del_some e).2⟩
  · obtain ⟨a, e1, m⟩ := s.obj n mo e
    refine ⟨a, e1, ?_⟩
    cases mo with
    | lst ds => obtain ⟨xs, e2, l⟩ := m; exact ⟨xs, (del_some e2).2, RepL.hide _ _ l⟩
    | dct ds => obtain ⟨xs, e2, l⟩ := m; exact ⟨xs, (del_some e2).2, l.sm, l.ks, l.nd, l.dp, RepL.hide _ _ l.rk, RepL.hide _ _ l.rv⟩
    | lkd ds => obtain ⟨xs, o, e2, l⟩ := m; exact ⟨xs, o, (del_some e2).2, l.sm, l.ks, l.nd, l.dp, RepL.hide _ _ l.rk, RepL.hide _ _ l.rv⟩
    | ins C fs => obtain ⟨C, dx, vs, g, e2, k, l⟩ := m; exact ⟨C, dx, vs, g, (del_some e2).2, k, RepL.hide _ _ l⟩
    | gone => obtain ⟨o, e2, k⟩ := m; exact ⟨o, (del_some e2).2, k⟩
theorem StRel.unhide (no : Free ob) (hb : H b = some ob) (hq : q.hid b) (s : StRel K q S H) : StRel K (q.unhide b) S (L2.del H b) := by
  have ne : ∀ a ∈ q.mu, a ≠ b := fun a ha z => s.dis a ha (by rw [z]; exact hq)
  refine ⟨s.len, s.nd, fun a ha z => s.dis a ha z.1, fun a z => ?_, fun n mo e => ?_⟩
  · obtain ⟨o, e⟩ := s.hid a z.1
    exact ⟨o, del_of z.2 e⟩
  · obtain ⟨a, e1, m⟩ := s.obj n mo e
    have na := ne a (List.mem_of_getElem? e1)
    refine ⟨a, e1, ?_⟩
    cases mo with
    | lst ds => obtain ⟨xs, e2, l⟩ := m; exact ⟨xs, del_of na e2, RepL.unhide no hb hq _ _ l⟩
    | dct ds => obtain ⟨xs, e2, l⟩ := m; exact ⟨xs, del_of na e2, l.sm, l.ks, l.nd, l.dp, RepL.unhide no hb hq _ _ l.rk, RepL.unhide no hb hq _ _ l.rv⟩
    | lkd ds => obtain ⟨xs, o, e2, l⟩ := m; exact ⟨xs, o, del_of na e2, l.sm, l.ks, l.nd, l.dp, RepL.unhide no hb hq _ _ l.rk, RepL.unhide no hb hq _ _ l.rv⟩
    | ins C fs => obtain ⟨C, dx, vs, g, e2, k, l⟩ := m; exact ⟨C, dx, vs, g, del_of na e2, k, RepL.unhide no hb hq _ _ l⟩
    | gone => obtain ⟨o, e2, k⟩ := m; exact ⟨o, del_of na e2, k⟩
theorem Ext.unhide (hn : ¬ p.hid b) (x : Ext (p.hide b) H q H') : Ext p (L2.del H b) (q.unhide b) (L2.del H' b) := by
  obtain ⟨more, e1, f1⟩ := x.pre
  refine ⟨fun a h => ⟨x.hid1 a (.inr h), fun z => hn (by rw [← z]; exact h)⟩, fun a h => ?_, ⟨more, e1, fun a h => ?_⟩, fun a o e n => ?_, fun a o e => ?_, fun a o u e => let ⟨n1, e⟩ := del_some e; del_of n1 (x.frz a o u e)⟩
  · rcases x.hid2 a h.1 with (z | z) | z
    · exact absurd z h.2
    · exact .inl z
    · exact .inr (by rw [L2.del_ne h.2]; exact z)
  · unfold L2.del; split
    · rfl
    · exact f1 a h
  · obtain ⟨n1, e⟩ := del_some e
    exact del_of n1 (x.keep a o e n)
  · obtain ⟨n1, e⟩ := del_some e
    obtain ⟨o', e'⟩ := x.there a o e
    exact ⟨o', del_of n1 e'⟩
theorem EnvRel.hide {rho : EnvD} {sig : L2.St} (h : EnvRel K (L2.del H b) p rho sig) : EnvRel K H (p.hide b) rho sig :=
  ⟨h.1, fun i d e => let ⟨v, e1, r⟩ := h.2 i d e; ⟨v, e1, RepV.hide d v r⟩⟩
theorem EnvRel.unhide {rho : EnvD} {sig : L2.St} (no : Free ob) (hb : H b = some ob) (hq : q.hid b) (h : EnvRel K H q rho sig) : EnvRel K (L2.del H b) (q.unhide b) rho sig :=
  ⟨h.1, fun i d e => let ⟨v, e1, r⟩ := h.2 i d e; ⟨v, e1, RepV.unhide no hb hq d v r⟩⟩
theorem del_upd : L2.del (upd H b ob) b = L2.del H b := by
  funext a; unfold L2.del upd; split <;> rfl
theorem del_none (h : H b = none) : L2.del H b = H := by
  funext a; unfold L2.del; split
  · rename_i e; rw [e, h]
  · rfl
theorem upd_del (h : H b = some ob) : upd (L2.del H b) b ob = H := by
  funext a
  by_cases e : a = b
  · subst e; rw [upd_same, h]
  · rw [upd_ne e, L2.del_ne e]
end
def wipeD (rho : EnvD) : List Nat → EnvD
  | [] => rho
  | v :: vs => (wipeD rho vs).set v none
theorem EnvRel.wipe {K : PySem.W.Frag} {H : Hp} {p : Pl} {rho : EnvD} {sig : L2.St} (h : EnvRel K H p rho sig) : ∀ vs, EnvRel K H p (wipeD rho vs) (L2.wipe sig vs)
  | [] => h
  | v :: vs => (EnvRel.wipe h vs).unset v

/-! ### list comprehensions -/
open Classical in
noncomputable def foldL (g : Option (Nat × List D)) (step : D → List D → Sto → R (List D)) : List D → List D → Sto → R (List D)
  | [], acc, S => if Grd g S then .ok acc S else .stuck
  | d :: ds, acc, S => if Grd g S then (match step d acc S with
    | .ok acc' S' => foldL g step ds acc' S'
    | _ => .stuck) else .stuck
def lcPush (elt : ME) (r : EnvD) (acc : List D) (S : Sto) : R (List D) := match elt r S with
  | .ok y S2 => if acc.length < 16777216 then .ok (acc ++ [y]) S2 else .stuck
  | _ => .stuck
def lcStep (T : Tg) (tt : MB) (elt : ME) (rho : EnvD) (d : D) (acc : List D) (S : Sto) : R (List D) := match tgSet T d rho with
  | some r => match tt r S with
    | .ok b S1 => if b = true then lcPush elt r acc S1 else .ok acc S1
    | _ => .stuck
  | none => .stuck
noncomputable def mLc (it : MI) (T : Tg) (tt : MB) (elt : ME) (vs : List Nat) : ML := fun rho S => (it rho S).bind fun a S1 => foldL a.1 (lcStep T tt elt (wipeD rho vs)) a.2 [] S1
def mYes : MB := fun _ S => .ok true S
def W0 : WX := fun _ _ _ _ => False
/-- the state of a comprehension between two turns -/
structure LcAt (G : GC) (p0 : Pl) (H0 : Hp) (b : Addr) (rho : EnvD) (sig : L2.St) (q : Pl) (S : Sto) (acc : List D) (Hx : Hp) : Prop where
  x : Ext p0 H0 q (L2.del Hx b)
  s : StRel G.K q S (L2.del Hx b)
  e : EnvRel G.K (L2.del Hx b) q rho sig
  l : ∃ us, Hx b = some (.lst us) ∧ RepL G.K (L2.del Hx b) q acc us
theorem LcAt.hn {G : GC} {p0 : Pl} {H0 : Hp} {b : Addr} {rho : EnvD} {sig : L2.St} {q : Pl} {S : Sto} {acc : List D} {Hx : Hp} (a : LcAt G p0 H0 b rho sig q S acc Hx) : ¬ q.hid b := fun z => by
  obtain ⟨o, e⟩ := a.s.hid b z
  exact (del_some e).1 rfl
/-- from one turn's state, over an element's run, to the state behind it -/
theorem LcAt.go {G : GC} {p0 : Pl} {H0 H' : Hp} {b : Addr} {rho : EnvD} {sig : L2.St} {q q' : Pl} {S S' : Sto} {acc : List D} {Hx : Hp} (a : LcAt G p0 H0 b rho sig q S acc Hx) (x : Ext (q.hide b) Hx q' H') (s : StRel G.K q' S' H') :
    LcAt G p0 H0 b rho sig (q'.unhide b) S' acc H' := by
  obtain ⟨us, hb, l⟩ := a.l
  have hb' : H' b = some (.lst us) := x.keep b _ hb fun z => by
    obtain ⟨o, e, _⟩ := a.s.has z
    exact (del_some e).1 rfl
  have hq : q'.hid b := x.hid1 b (.inl rfl)
  have y := x.unhide a.hn
  exact ⟨a.x.trans y, s.unhide free_lst hb' hq, EnvRel.ext a.s y a.e, us, hb', RepL.ext a.s y _ _ l⟩
theorem LcAt.push {G : GC} {p0 : Pl} {H0 H' : Hp} {b : Addr} {rho : EnvD} {sig : L2.St} {q q' : Pl} {S S' : Sto} {acc : List D} {Hx : Hp} {y : D} {v : V} (a : LcAt G p0 H0 b rho sig q S acc Hx) (x : Ext (q.hide b) Hx q' H') (s : StRel G.K q' S' H') (r : RepV G.K H' q' y v) :
    ∃ us, H' b = some (.lst us) ∧ us.length = acc.length ∧ LcAt G p0 H0 b rho sig (q'.unhide b) S' (acc ++ [y]) (upd H' b (.lst (us ++ [v]))) := by
  have n := a.go x s
  obtain ⟨us, hb, l⟩ := n.l
  refine ⟨us, hb, l.length.symm, ?_⟩
  have hq : q'.hid b := x.hid1 b (.inl rfl)
  refine ⟨by rw [del_upd]; exact n.x, by rw [del_upd]; exact n.s, by rw [del_upd]; exact n.e, _, upd_same, ?_⟩
  rw [del_upd]
  exact l.append (RepL.cons (RepV.unhide free_lst hb hq _ _ r) RepL.nil)
/-- what an iterator gives while the list is apart -/
theorem LcAt.turns {G : GC} {p0 : Pl} {H0 : Hp} {b : Addr} {rho : EnvD} {sig : L2.St} {q : Pl} {S : Sto} {acc : List D} {Hx : Hp} {it : It0} {J : It} (a : LcAt G p0 H0 b rho sig q S acc Hx) (h0 : H0 b = none) (r : relI G H0 p0 it J) (g : Grd it.1 S) : Turns G.K (q.hide b) Hx it.2 J := by
  obtain ⟨us, hb, l⟩ := a.l
  refine r (q.hide b) Hx S ?_ (a.s.hide hb) g
  obtain ⟨more, e1, f1⟩ := a.x.pre
  refine ⟨fun c h => .inr (a.x.hid1 c h), fun c h => ?_, ⟨more, e1, f1⟩, fun c o e n => (del_some (a.x.keep c o e n)).2, fun c o e => let ⟨o', e'⟩ := a.x.there c o e; ⟨o', (del_some e').2⟩, fun c o u e => (del_some (a.x.frz c o u e)).2⟩
  rcases h with rfl | h
  · exact .inr h0
  · exact a.x.hid2 c h
theorem rd_lc {G : GC} {W : WX} {it : MI} {T : Tg} {tt : MB} {elt : ME} {vs : List Nat} {sig : L2.St} {H : Hp} {Q : VK} (hT : T.all (fun i => vs.contains i) = true) (h : dF G W (mLc it T tt elt vs) sig H Q) :
    tLc (dI G W it) (gOfT G.K T) (dB G W0 tt) (dE G W0 elt) vs sig H Q := by
  obtain ⟨p, S, rho, hs, hr, h⟩ := h
  show dI G W it sig H _
  have h : Post (fun H p => RepL G.K H p) G p H (fun c d H' => W c d sig H') _ ((it rho S).bind fun a S1 => foldL a.1 (lcStep T tt elt (wipeD rho vs)) a.2 [] S1) := h
  refine rd_use (rel := relI) (rel' := fun G H p => RepL G.K H p) hs hr h fun a S1 q H1 J x s1 e1 r1 h1 => ?_
  obtain ⟨g, ds⟩ := a
  intro b hb
  refine ⟨fun i m Hx => m = ds.length - i ∧ i ≤ ds.length ∧ ∃ q2 S2 acc, LcAt G q H1 b (wipeD rho vs) (wipe sig vs) q2 S2 acc Hx ∧ Post (fun H p => RepL G.K H p) G q2 (L2.del Hx b) (fun c d H' => W c d sig H') (fun xs H' => ∀ a, H' a = none → Q (.ref a) (upd H' a (.lst xs))) (foldL g (lcStep T tt elt (wipeD rho vs)) (ds.drop i) acc S2), ⟨ds.length, by simp, Nat.zero_le _, q, S1, [], ⟨?_, ?_, ?_, [], upd_same, RepL.nil⟩, ?_⟩, ?_⟩
  · rw [del_upd, del_none hb]; exact Ext.refl
  · rw [del_upd, del_none hb]; exact s1
  · rw [del_upd, del_none hb]; exact e1.wipe vs
  · rw [del_upd, del_none hb]; exact h1
  rintro i m Hx ⟨rfl, hi, q2, S2, acc, A, h2⟩
  by_cases hlt : i < ds.length
  · have ed : ds[i]? = some ds[i] := List.getElem?_eq_getElem hlt
    rw [drop_cons ed] at h2
    unfold foldL at h2
    by_cases hgr : Grd g S2
    · rw [if_pos hgr] at h2
      have t := A.turns hb r1 hgr
      refine .inr ⟨t.go i _ ed, fun H' => ∃ q3 S3 acc3, LcAt G q H1 b (wipeD rho vs) (wipe sig vs) q3 S3 acc3 H' ∧ Post (fun H p => RepL G.K H p) G q3 (L2.del H' b) (fun c d H' => W c d sig H') (fun xs H' => ∀ a, H' a = none → Q (.ref a) (upd H' a (.lst xs))) (foldL g (lcStep T tt elt (wipeD rho vs)) (ds.drop (i + 1)) acc3 S3), fun H' z => ⟨ds.length - (i + 1), by omega, rfl, hlt, z⟩, fun v H' y => ?_⟩
      obtain ⟨sm, rv⟩ := t.yld i _ v H' ed y
      obtain ⟨us, hbx, _⟩ := A.l
      have x3 : Ext (q2.hide b) Hx (q2.hide b) H' := Ext.of_same sm
      have s3 : StRel G.K (q2.hide b) S2 H' := (A.s.hide hbx).same sm
      have e3 : EnvRel G.K H' (q2.hide b) (wipeD rho vs) (wipe sig vs) := EnvRel.ext (A.s.hide hbx) x3 A.e.hide
      unfold lcStep at h2
      cases et : tgSet T ds[i] (wipeD rho vs) with
      | none => simp only [et] at h2; exact h2.elim
      | some r' =>
        simp only [et] at h2
        obtain ⟨sg', a1, a2, a3⟩ := tg_rep T ds[i] v (wipeD rho vs) r' (wipe sig vs) e3 rv et
        refine a3 _ ⟨by rw [a2 vs hT, wipe_wipe], ?_⟩
        refine ⟨q2.hide b, S2, r', s3, a1, ?_⟩
        cases em : tt r' S2 with
        | ok k S3 =>
          simp only [em] at h2
          intro q4 H4 k' x4 s4 r4
          have rk : k = k' := r4
          subst rk
          cases k with
          | true =>
            rw [if_pos rfl] at h2 ⊢
            refine ⟨q4, S3, r', s4, EnvRel.ext s3 x4 a1, ?_⟩
            unfold lcPush at h2
            cases ee : elt r' S3 with
            | ok z S4 =>
              simp only [ee] at h2
              intro q5 H5 w x5 s5 r5
              by_cases c : acc.length < 16777216
              · rw [if_pos c] at h2
                obtain ⟨us5, hb5, l5, A5⟩ := A.push (x3.trans (x4.trans x5)) s5 r5
                refine ⟨us5, hb5, by rw [l5]; exact lineL c, q5.unhide b, S4, acc ++ [z], A5, ?_⟩
                have y5 : Ext q2 (L2.del Hx b) (q5.unhide b) (L2.del H5 b) := (x3.trans (x4.trans x5)).unhide A.hn
                rw [del_upd]
                exact Post.base y5 h2
              · rw [if_neg c] at h2; exact h2.elim
            | exc e S4 => simp only [ee] at h2; exact h2.elim
            | stuck => simp only [ee] at h2; exact h2.elim
          | false =>
            rw [if_neg Bool.false_ne_true] at h2 ⊢
            have y4 : Ext q2 (L2.del Hx b) (q4.unhide b) (L2.del H4 b) := (x3.trans x4).unhide A.hn
            exact ⟨q4.unhide b, S3, acc, A.go (x3.trans x4) s4, Post.base y4 h2⟩
        | exc e S3 => simp only [em] at h2; exact h2.elim
        | stuck => simp only [em] at h2; exact h2.elim
    · rw [if_neg hgr] at h2; exact h2.elim
  · have ei : i = ds.length := by omega
    subst ei
    rw [List.drop_length] at h2
    unfold foldL at h2
    by_cases hgr : Grd g S2
    · rw [if_pos hgr] at h2
      obtain ⟨us, hbx, l⟩ := A.l
      refine .inl ⟨(A.turns hb r1 hgr).stop, ?_⟩
      have z := h2 q2 _ us Ext.refl A.s l b L2.del_same
      rw [upd_del hbx] at z
      exact z
    · rw [if_neg hgr] at h2; exact h2.elim
section
variable {X : Cx} {W : WX} {elt tg iter : Expr} {ifs : List Expr} {scope : Scope} {own : List (Str × Nat)} {pos : Pos} {it : MI} {T : Tg} {tt : MB} {m : ME}
def DTs (X : Cx) (W : WX) (ifs : List Expr) (m : MB) : Prop := PTs X ifs (dB (gOf X) W m)
theorem dts_nil : DTs X W [] mYes := ⟨fun pins s σ H Q I q => pts_nil.run pins s σ H Q I (by
  obtain ⟨p, S, rho, hs, hr, h⟩ := q
  exact h p H true Ext.refl hs rfl)⟩
theorem dts_one {c : Expr} (h : DT X W c tt) : DTs X W [c] tt := pts_one h
theorem df_lc (own : List (Str × Nat)) (hc : X.calm = true) (hN : X.N.Nodup) (hi : DI X W tg iter it) (ok : BlkOk X.N X.env.scope scope own)
    (hg : ∀ (s : Shared) (H : Hp) (C : Addr) (cl : List (Str × Addr)) (fp : List Addr), DG (X.blk s H scope (compEnvC scope cl C X.env) fp) tg T) (ht : ∀ (s : Shared) (H : Hp) (C : Addr) (cl : List (Str × Addr)) (fp : List Addr), DTs (X.blk s H scope (compEnvC scope cl C X.env) fp) W0 ifs tt)
    (he : ∀ (s : Shared) (H : Hp) (C : Addr) (cl : List (Str × Addr)) (fp : List Addr), DE (X.blk s H scope (compEnvC scope cl C X.env) fp) W0 elt m) (hT : T.all (fun i => (own.map (·.2)).contains i) = true := by rfl) (hs : ∀ x, foldedSetIterable iter X.env x = pure x := by intro _; rfl) :
    DF X W (.ListComp elt [⟨tg, iter, ifs, 0⟩] scope pos) (mLc it T tt m (own.map (·.2))) :=
  pe_imp (pe_lc (g := gOfT X.K T) (tt := dB (gOf X) W0 tt) (te := dE (gOf X) W0 m) hc hN hi ok hg ht he hs) fun _ _ _ h => rd_lc hT h
/-- y = [..] on one line, y a plain local -/
theorem ds_setLc (i : Nat) (own : List (Str × Nat)) {y : Str} {py spos : Pos} (hc : X.calm = true) (hN : X.N.Nodup) (hi : DI X W tg iter it) (ok : BlkOk X.N X.env.scope scope own)
    (hg : ∀ (s : Shared) (H : Hp) (C : Addr) (cl : List (Str × Addr)) (fp : List Addr), DG (X.blk s H scope (compEnvC scope cl C X.env) fp) tg T) (ht : ∀ (s : Shared) (H : Hp) (C : Addr) (cl : List (Str × Addr)) (fp : List Addr), DTs (X.blk s H scope (compEnvC scope cl C X.env) fp) W0 ifs tt)
    (he : ∀ (s : Shared) (H : Hp) (C : Addr) (cl : List (Str × Addr)) (fp : List Addr), DE (X.blk s H scope (compEnvC scope cl C X.env) fp) W0 elt m) (f : ML → ME) (hf : f = mFz ∨ f = mAl) (hy : X.N[i]? = some y := by rfl) (hyl : X.env.scope.names.lookup y = some .local := by rfl)
    (hsw : swapsWith (.ListComp elt [⟨tg, iter, ifs, 0⟩] scope pos) (some (.Name y py)) spos.line X.env = pure true := by exact sw_true rfl rfl rfl (by decide +kernel))
    (hT : T.all (fun i => (own.map (·.2)).contains i) = true := by rfl) (hs : ∀ x, foldedSetIterable iter X.env x = pure x := by intro _; rfl) :
    DS X W (.Assign [.Name y py] (.ListComp elt [⟨tg, iter, ifs, 0⟩] scope pos) spos) (mSet i (f (mLc it T tt m (own.map (·.2))))) :=
  ps_imp (L2.ps_setLc (g := gOfT X.K T) (tt := dB (gOf X) W0 tt) (te := dE (gOf X) W0 m) hc hN hy hyl hsw hi ok hg ht he hs) fun Dn sig H h => by
    have h : dE (gOf X) W (f (mLc it T tt m (own.map (·.2)))) sig H fun x H1 => gName i x sig H1 Dn.nx := rd_set h
    show tLc _ _ _ _ _ sig H fun x H1 => gName i x sig H1 Dn.nx
    rcases hf with rfl | rfl
    · exact rd_lc hT (rd_fz h)
    · exact rd_lc hT (rd_al h)
end
end DL

namespace DL
open PySem PySem.Spec PyProof.Rows L2

/-! ### what a def leaves behind: the store is cut back to what stood -/
mutual
def D.ltD (n : Nat) : D → Bool
  | .ref k => decide (k < n)
  | .tup ds => ltL n ds
  | .lst ds => ltL n ds
  | _ => true
def ltL (n : Nat) : List D → Bool
  | [] => true
  | d :: ds => d.ltD n && ltL n ds
end
def MO.ltD (n : Nat) : MO → Bool
  | .lst ds => ltL n ds
  | .dct kvs => ltL n (kvs.map (·.1)) && ltL n (kvs.map (·.2))
  | .lkd kvs => ltL n (kvs.map (·.1)) && ltL n (kvs.map (·.2))
  | .ins _ fs => ltL n (fs.map (·.2))
  | .gone => true
/-- a new mutable list that is handed back: nobody holds it any more -/
def settle (n : Nat) (S : Sto) : D → D
  | .ref k => if n ≤ k then (match S[k]? with
    | some (.lst ds) => .lst ds
    | _ => .ref k) else .ref k
  | d => d
def fin (keep : Bool) (n : Nat) (d : D) (S : Sto) : R D := if keep = true ∨ S.length ≤ n then .ok d S else
  if (settle n S d).ltD n = true ∧ (S.take n).all (MO.ltD n) = true then .ok (settle n S d) (S.take n) else .ok d S
def finX (n : Nat) (x : Ex) (S : Sto) : R D := if S.length ≤ n then .exc x S else
  if ltL n (x.fs.map (·.2)) = true ∧ (S.take n).all (MO.ltD n) = true then .exc x (S.take n) else .exc x S
def mkF (np nl : Nat) (keep : Bool) (b : MS) : MF := fun ds S => if ds.length = np then (match b (ds.map some ++ List.replicate (nl - ds.length) none) S with
  | .rt d S' => fin keep S.length d S'
  | .nx _ S' => fin keep S.length .non S'
  | .exc x _ S' => finX S.length x S'
  | _ => .stuck) else .stuck
def Pl.cut (p : Pl) (n : Nat) : Pl := ⟨p.mu.take n, p.hid⟩
section
variable {K : PySem.W.Frag} {H H' : Hp} {p q : Pl} {S S' : Sto} {n : Nat}
mutual
theorem RepV.cut : ∀ (d : D) (v : V), d.ltD n = true → RepV K H p d v → RepV K H (p.cut n) d v
  | .non, _, _, h => h
  | .bl _, _, _, h => h
  | .int _, _, _, h => h
  | .str _, _, _, h => h
  | .tup ds, _, c, h => by
    obtain ⟨a, xs, e, ht, l⟩ := h
    exact ⟨a, xs, e, ht, RepL.cut ds xs c l⟩
  | .lst ds, _, c, h => by
    obtain ⟨a, xs, e, ht, hm, hh, l⟩ := h
    exact ⟨a, xs, e, ht, fun z => hm (List.mem_of_mem_take z), hh, RepL.cut ds xs c l⟩
  | .ref k, _, c, h => by
    obtain ⟨a, e, hk⟩ := h
    have c : k < n := of_decide_eq_true c
    refine ⟨a, e, ?_⟩
    show (p.mu.take n)[k]? = some a
    rw [List.getElem?_take_of_lt c]
    exact hk
  | .scr ns, _, _, h => by
    obtain ⟨a, e, ⟨o, ht, hm⟩ | h⟩ := h
    · exact ⟨a, e, .inl ⟨o, ht, fun z => hm (List.mem_of_mem_take z)⟩⟩
    · exact ⟨a, e, .inr h⟩
  | .rng lo hi, _, c, h => by
    obtain ⟨a, e, ht, hm, hh⟩ := h
    exact ⟨a, e, ht, fun z => hm (List.mem_of_mem_take z), hh⟩
theorem RepL.cut : ∀ (ds : List D) (vs : List V), ltL n ds = true → RepL K H p ds vs → RepL K H (p.cut n) ds vs
  | [], _, _, h => h
  | d :: ds, _, c, h => by
    unfold ltL at c
    rw [Bool.and_eq_true] at c
    obtain ⟨v, vr, e, h1, h2⟩ := h
    exact ⟨v, vr, e, RepV.cut d v c.1 h1, RepL.cut ds vr c.2 h2⟩
end
theorem MoRel.cut {mo : MO} {a : Addr} (c : mo.ltD n = true) (h : MoRel K H p mo a) : MoRel K H (p.cut n) mo a := by
  cases mo with
  | lst ds => obtain ⟨xs, e, l⟩ := h; exact ⟨xs, e, RepL.cut _ _ c l⟩
  | dct ds =>
    obtain ⟨xs, e, l⟩ := h
    simp only [MO.ltD, Bool.and_eq_true] at c
    exact ⟨xs, e, l.sm, l.ks, l.nd, l.dp, RepL.cut _ _ c.1 l.rk, RepL.cut _ _ c.2 l.rv⟩
  | lkd ds =>
    obtain ⟨xs, o, e, l⟩ := h
    simp only [MO.ltD, Bool.and_eq_true] at c
    exact ⟨xs, o, e, l.sm, l.ks, l.nd, l.dp, RepL.cut _ _ c.1 l.rk, RepL.cut _ _ c.2 l.rv⟩
  | ins C fs => obtain ⟨C, dx, vs, g, e, k, l⟩ := h; exact ⟨C, dx, vs, g, e, k, RepL.cut _ _ c l⟩
  | gone => exact h
theorem StRel.cut (s : StRel K p S H) (c : (S.take n).all (MO.ltD n) = true) : StRel K (p.cut n) (S.take n) H := by
  refine ⟨?_, ?_, fun a ha => s.dis a (List.mem_of_mem_take ha), s.hid, fun k mo e => ?_⟩
  · show (p.mu.take n).length = _
    rw [List.length_take, List.length_take, s.len]
  · exact s.nd.sublist (List.take_sublist _ _)
  · have hk : k < n := by
      have z := (List.getElem?_eq_some_iff.mp e).1
      rw [List.length_take] at z
      omega
    have e' := e
    rw [List.getElem?_take_of_lt hk] at e'
    obtain ⟨a, e1, m⟩ := s.obj k mo e'
    refine ⟨a, ?_, m.cut (List.all_eq_true.mp c mo (List.mem_of_getElem? e))⟩
    show (p.mu.take n)[k]? = some a
    rw [List.getElem?_take_of_lt hk]; exact e1
theorem Ext.cut (s : StRel K p S H) (x : Ext p H q H') : Ext p H (q.cut S.length) H' := by
  obtain ⟨more, e1, f1⟩ := x.pre
  refine ⟨x.hid1, x.hid2, ⟨[], ?_, by simp⟩, x.keep, x.there, x.frz⟩
  show q.mu.take S.length = _
  rw [e1, ← s.len]; simp
theorem settle_rep (s : StRel K q S' H) {d : D} {v : V} (r : RepV K H q d v) (c : (settle n S' d).ltD n = true) : RepV K H (q.cut n) (settle n S' d) v := by
  unfold settle at c ⊢
  split at c
  · rename_i k
    by_cases hk : n ≤ k
    · rw [if_pos hk] at c ⊢
      split at c
      · rename_i ds e
        obtain ⟨a, xs, rfl, hn, e2, l⟩ := ref_at s r e
        refine ⟨a, xs, rfl, e2, fun z => ?_, s.dis a (List.mem_of_getElem? hn), RepL.cut _ _ c l⟩
        obtain ⟨j, hj, ej⟩ := List.mem_iff_getElem.mp z
        have hj' : j < q.mu.length ∧ j < n := by
          have : j < (q.mu.take n).length := hj
          rw [List.length_take] at this
          omega
        have q1 : (q.mu.take n)[j]? = some a := by
          have : (q.cut n).mu[j]? = some a := by rw [List.getElem?_eq_getElem hj, ej]
          exact this
        rw [List.getElem?_take_of_lt hj'.2] at q1
        obtain ⟨h1, z1⟩ := List.getElem?_eq_some_iff.mp q1
        obtain ⟨h2, z2⟩ := List.getElem?_eq_some_iff.mp hn
        have := (List.getElem_inj s.nd).mp (z1.trans z2.symm)
        omega
      · have : k < n := of_decide_eq_true c
        omega
    · rw [if_neg hk] at c ⊢
      exact RepV.cut _ _ c r
  · exact RepV.cut _ _ c r
end
/-- what a def promises -/
def spOf (G : GC) (m : MF) : Sp := fun vs H Q E => ∃ p S ds, StRel G.K p S H ∧ RepL G.K H p ds vs ∧ Post (RepV G.K) G p H (fun c d H' => E c d H') Q (m ds S)
theorem post_fin {G : GC} {p : Pl} {S S' : Sto} {H : Hp} {W : Value → Option Addr → Hp → Prop} {Q : VK} {keep : Bool} {d : D} (s : StRel G.K p S H) (h : Post (RepV G.K) G p H W Q (fin keep S.length d S')) {q : Pl} {H' : Hp} {v : V} (x : Ext p H q H') (s' : StRel G.K q S' H') (r : RepV G.K H' q d v) : Q v H' := by
  unfold fin at h
  split at h
  · exact h q H' v x s' r
  · split at h
    · rename_i c
      exact h (q.cut S.length) H' v (x.cut s) (s'.cut c.2) (settle_rep s' r c.1)
    · exact h q H' v x s' r
theorem ExR.cut {G : GC} {H : Hp} {q : Pl} {x : Ex} {c : Value} {d : Option Addr} {n : Nat} (h : ExR G H q x c d) (b : ltL n (x.fs.map (·.2)) = true) : ExR G H (q.cut n) x c d := by
  obtain ⟨C, dx, vs, h1, h2, h3, h4, hm, h5, h6⟩ := h
  exact ⟨C, dx, vs, h1, h2, h3, h4, fun z => hm (List.mem_of_mem_take z), h5, RepL.cut _ _ b h6⟩
theorem post_finX {G : GC} {p : Pl} {S S' : Sto} {H : Hp} {W : Value → Option Addr → Hp → Prop} {Q : VK} {e : Ex} (s : StRel G.K p S H) (h : Post (RepV G.K) G p H W Q (finX S.length e S')) {q : Pl} {H' : Hp} {c : Value} {d : Option Addr} (x : Ext p H q H') (s' : StRel G.K q S' H') (r : ExR G H' q e c d) : W c d H' := by
  unfold finX at h
  split at h
  · exact h q H' c d x s' r
  · split at h
    · rename_i cc
      exact h (q.cut S.length) H' c d (x.cut s) (s'.cut cc.2) (r.cut cc.1)
    · exact h q H' c d x s' r
theorem env_start {K : PySem.W.Frag} {H : Hp} {p : Pl} {N : List Str} : ∀ {ds : List D} {vs : List V}, RepL K H p ds vs → EnvRel K H p (ds.map some ++ List.replicate (N.length - ds.length) none) (L2.start N vs) := by
  intro ds vs r
  have hl := r.length
  refine ⟨by unfold L2.start; simp [hl], fun i d e => ?_⟩
  have hi : i < ds.length := by
    by_cases hi : i < ds.length
    · exact hi
    · rw [List.getElem?_append_right (by simpa using hi)] at e
      rw [List.getElem?_replicate] at e
      split at e <;> cases e
  rw [List.getElem?_append_left (by simpa using hi), List.getElem?_map, Option.map_eq_some_iff] at e
  obtain ⟨d', e1, e2⟩ := e
  cases e2
  obtain ⟨v, e3, r3⟩ := r.get i d e1
  refine ⟨v, ?_, r3⟩
  unfold L2.start
  rw [List.getElem?_append_left (by simpa using (by omega : i < vs.length)), List.getElem?_map, e3]
  rfl
/-- a mirror takes just so many arguments -/
def Ar (np : Nat) (m : MF) : Prop := ∀ ds S, ds.length ≠ np → m ds S = .stuck
theorem ar_mkF {np nl : Nat} {keep : Bool} {b : MS} : Ar np (mkF np nl keep b) := fun ds S h => by unfold mkF; rw [if_neg h]
section
variable {P : Program} {w : World} {K : PySem.W.Frag} {mg : Str → Option Value} {base : Heap}
theorem sp_len {G : GC} {m : MF} {np : Nat} (ha : Ar np m) : ∀ vs H Q E, spOf G m vs H Q E → vs.length = np := fun vs H Q E ⟨p, S, ds, hs, hl, h⟩ => by
  rw [← hl.length]
  by_cases e : ds.length = np
  · exact e
  · rw [ha ds S e] at h; exact h.elim
/-- THE RULE for a def -/
theorem ok_def {x qual : Str} {st : Stmt} {f : Addr} {fd : FuncData} {N ps : List Str} {k : Nat} {b : MS} (keep : Bool) (F : Fun K x qual st f fd) (S : FnScope N ps (defScope st))
    (hb : ∀ (cdv : Value) (A : Around) (outer : List Env) (s : Shared) (H : Hp) (E : XK), Room k (A.deeper (envOfC qual (defScope st) s.heap.objs.size f cdv)) →
      DSs (cxOf (L2.CX P w) P w K mg base N qual (defScope st) f cdv A outer s H E) (fun c d _ H' => E c d H') (defBody st) b) : FnOk P w K mg base (L2.CX P w) (k + 1) f fd ps (spOf ⟨K, mg⟩ (mkF ps.length N.length keep b)) := by
  refine F.okX S (sp_len ar_mkF) fun cdv A outer s H vs Q E hr hsp => ⟨_, hb cdv A outer s H E hr, ?_⟩
  obtain ⟨p, St, ds, hs, hl, h⟩ := hsp
  refine ⟨p, St, _, hs, env_start hl, ?_⟩
  unfold mkF at h
  split at h
  · generalize b (ds.map some ++ List.replicate (N.length - ds.length) none) St = r at h ⊢
    cases r with
    | nx rho' S' => exact fun q H' sig' x s' e' => post_fin (v := .non) hs h x s' rfl
    | rt d S' => exact fun q H' v x s' r => post_fin hs h x s' r
    | bk rho' S' => exact h.elim
    | ct rho' S' => exact h.elim
    | exc e rho' S' => exact fun q H' sig' c d x s' e' r => post_finX hs h x s' r
    | stuck => exact h.elim
  · exact h.elim
/-- where a def stands, and what it keeps -/
structure Fn (P : Program) (w : World) (K : PySem.W.Frag) (mg : Str → Option Value) (base : Heap) (x : Str) (ps : List Str) (k : Nat) (m : MF) : Prop where
  at_ : ∃ f fd, mg x = some (.ref f) ∧ PySem.W.keepIn K (.ref f) = true ∧ Binds K fd ps [] ∧ FnOk P w K mg base (L2.CX P w) k f fd ps (spOf ⟨K, mg⟩ m)
end
/-! ### calls of own defs -/
section
variable {X : Cx} {W : WX} {pos p0 : Pos} {x : Str} {e : Expr} {es : List Expr} {t : MA} {ps : List Str} {k kx : Nat} {m : MF}
theorem de_call (F : Fn X.prog X.w X.K X.mg X.base x ps k m) (hr : Room k X.A) (tk : Takes X W) (ha : DA X W (e :: es) t) (hg : Gl X x := by rfl) (hdb : (x == ("__debug__" : Str)) = false := by decide)
    (he : starEach (e :: es) X.env = (false, eval e X.env) :: starEach es X.env := by rfl) (hpl : (backTo pos (starEach es X.env)).any (·.1) = false := by rfl) : DE X W (.Call (.Name x p0) (e :: es) [] pos) (mCall m t) := by
  obtain ⟨f, fd, hm, hk, hb, ok⟩ := F.at_
  refine pe_imp (pe_callS (E := WE W) ok hr hg hm hk hb (fun σ => passAt tk σ) ha hdb he hpl) fun sig H Q ⟨p, S, rho, hs, hr, h⟩ => ?_
  refine dA_use (rel' := fun G => RepV G.K) hs hr h fun ds S1 q H1 vs x1 s1 e1 r1 h1 => ?_
  exact ⟨q, S1, ds, s1, r1, h1⟩
end

/-! ### isinstance of a built-in type -/
inductive Kd where
  | non | bl | int | str | tup | lst | dict
inductive Ty where
  | int | bool | str | tuple | list
def Kd.nm : Kd → String
  | .non => "NoneType" | .bl => "bool" | .int => "int" | .str => "str" | .tup => "tuple" | .lst => "list" | .dict => "dict"
def Ty.nm : Ty → String
  | .int => "int" | .bool => "bool" | .str => "str" | .tuple => "tuple" | .list => "list"
def Ty.has : Ty → Kd → Bool
  | .int, .int => true | .int, .bl => true | .bool, .bl => true | .str, .str => true | .tuple, .tup => true | .list, .lst => true
  | _, _ => false
theorem kit_nm : ∀ (T : Ty) (k : Kd), kitB k.nm T.nm = some (T.has k) := by
  intro T k
  cases T <;> cases k <;> decide +kernel
def kindD (S : Sto) : D → Option Kd
  | .non => some .non
  | .bl _ => some .bl
  | .int _ => some .int
  | .str _ => some .str
  | .tup _ => some .tup
  | .lst _ => some .lst
  | .scr _ => some .lst
  | .rng _ _ => none
  | .ref n => match S[n]? with
    | some (.lst _) => some .lst
    | _ => none
theorem kind_rep {K : PySem.W.Frag} {H : Hp} {p : Pl} {S : Sto} {d : D} {v : V} {k : Kd} (s : StRel K p S H) (r : RepV K H p d v) (h : kindD S d = some k) : TyX K H v (.type k.nm) := by
  cases d with
  | non => cases h; cases (show v = .non from r); exact .base .non
  | bl b => cases h; cases (show v = .bl b from r); exact .base (.bl b)
  | int b => cases h; cases (show v = .int b from r); exact .base (.int b)
  | str b => cases h; cases (show v = .str b from r); exact .base (.str b)
  | tup ds =>
    cases h
    obtain ⟨a, xs, rfl, ⟨o, ht, _⟩ | ⟨o, its, n, hk, hc, _⟩, _⟩ := r
    · exact .fTuple ht
    · exact .kTuple hk hc.1
  | lst ds => cases h; obtain ⟨a, xs, rfl, ht, _⟩ := r; exact .base (.lst ht)
  | scr ns =>
    cases h
    obtain ⟨a, rfl, ⟨o, ht, _⟩ | ⟨o, its, n, hk, hc, _⟩⟩ := r
    · exact .base (.frz ht)
    · exact .kList hk hc
  | rng _ _ => cases h
  | ref n =>
    obtain ⟨a, rfl, hn⟩ := r
    simp only [kindD] at h
    split at h
    · rename_i ds e
      cases h
      obtain ⟨b, hb, xs, e2, _⟩ := s.obj n _ e
      rw [hn] at hb; cases hb
      exact .base (.lst e2)
    · cases h
def mIsi (T : Ty) (m : ME) : ME := fun rho S => (m rho S).bind fun d S1 => match kindD S1 d with
  | some k => .ok (.bl (T.has k)) S1
  | none => .stuck
section
variable {X : Cx} {W : WX} {pos p0 p1 : Pos} {e : Expr} {m : ME}
theorem de_isi (T : Ty) (hm : X.mg "isinstance" = none) (hT : X.mg T.nm = none) (ha : DE X W e m) (hv : bootBuiltins T.nm = some (.type T.nm)) (hg : Gl X "isinstance" := by rfl) (hg2 : Gl X T.nm := by rfl) (hn2 : (T.nm : Str) ≠ "__name__" := by decide) (hdb2 : ((T.nm : Str) == ("__debug__" : Str)) = false := by decide)
    (he : starEach [e, .Name T.nm p1] X.env = (false, eval e X.env) :: starEach [.Name T.nm p1] X.env := by rfl) (he2 : starEach [.Name T.nm p1] X.env = (false, eval (.Name T.nm p1) X.env) :: starEach [] X.env := by rfl) (hpl : (backTo pos (starEach [.Name T.nm p1] X.env)).any (·.1) = false := by rfl) :
    DE X W (.Call (.Name "isinstance" p0) [e, .Name T.nm p1] [] pos) (mIsi T m) :=
  pe_imp (pe_callB call_isi hg hm (by decide +kernel) (pa_cons ha (pa_cons (pe_bltn (v := .ty T.nm) hg2 hT hv rfl hn2 hdb2) pa_nil he2) he) (by decide) (by decide) he hpl) fun sig H Q ⟨p, S, rho, hs, hr, h⟩ => by
    show dE (gOf X) W m sig H fun x H1 => rIsi X.K [x, .ty T.nm] H1 Q
    refine dE_use (rel' := fun G => RepV G.K) hs hr h fun d S1 q H1 v x s1 e1 r1 h1 => ?_
    split at h1
    · rename_i k ek
      exact ⟨v, .ty T.nm, .type k.nm, .type T.nm, T.has k, rfl, .ty _, kind_rep s1 r1 ek, kit_ty (kit_nm T k), h1 q H1 _ Ext.refl s1 rfl⟩
    · exact h1.elim
end

/-! ### methods of lists -/
def MetD (G : GC) (r : V → List V → Hp → VK → Prop) (g : D → List D → Sto → R D) : Prop :=
  ∀ (p : Pl) (S : Sto) (H : Hp) (v : V) (vs : List V) (d : D) (ds : List D) (W : Value → Option Addr → Hp → Prop) (Q : VK), StRel G.K p S H → RepV G.K H p d v → RepL G.K H p ds vs → Post (RepV G.K) G p H W Q (g d ds S) → r v vs H Q
def isLst (S : Sto) (d : D) : Bool := (lstOf S d).isSome
def mMet (g : D → List D → Sto → R D) (o : ME) (t : MA) : ME := fun rho S => (o rho S).bind fun x S1 => if isLst S1 x = true then (t rho S1).bind fun ds S2 => g x ds S2 else .stuck
section
variable {X : Cx} {W : WX} {pos apos : Pos} {o e : Expr} {es : List Expr} {mo : ME} {t : MA} {r : V → List V → Hp → VK → Prop} {g : D → List D → Sto → R D} {name : Str} {id : String}
theorem de_met (slot : Slot "list" name id) (hty : typeOf (.builtin id) = pure (.type "method_descriptor")) (hm : MtR X id r) (hd : MetD (gOf X) r g) (ho : DE X W o mo) (ha : DA X W (e :: es) t)
    (hbase : attributeBase o name X.env (eval o X.env) = eval o X.env := by rfl)
    (hfew : ((backTo pos (starEach (e :: es) X.env)).all (fun x => !x.1) && (backToKw pos (keywordEach [] X.env)).all (fun x => x.1.isSome)
      && decide ((e :: es).length + ([] : List Keyword).length + (if ([] : List Keyword).isEmpty then 0 else 1) < 30)) = true := by rfl)
    (hline : (apos.endLine == pos.line) = true := by rfl) (hs : starEach (e :: es) X.env = (false, eval e X.env) :: starEach es X.env := by rfl) (hplain : (backTo pos (starEach es X.env)).any (·.1) = false := by rfl) :
    DE X W (.Call (.Attribute o name apos) (e :: es) [] pos) (mMet g mo t) :=
  pe_imp (pe_bm F.plainAttrs_list slot hty hm ho ha hbase hfew hline hs hplain) fun sig H Q ⟨p, S, rho, hs, hr, h⟩ => by
    refine dE_use (rel' := fun G => RepV G.K) hs hr h fun d S1 q H1 v x s1 e1 r1 h1 => ?_
    by_cases c : isLst S1 d = true
    · rw [if_pos c] at h1
      obtain ⟨us, eu⟩ := Option.isSome_iff_exists.mp c
      obtain ⟨a, xs, rfl, ht, l⟩ := lst_rep s1 r1 eu
      refine ⟨.inl ⟨rfl, _, SqL.of ht⟩, ?_⟩
      refine dA_use (rel' := fun G => RepV G.K) s1 e1 h1 fun ds S2 q2 H2 vs x2 s2 e2 r2 h2 => ?_
      exact hd q2 S2 H2 _ vs d ds _ Q s2 (RepV.ext s1 x2 _ _ r1) r2 h2
    · rw [if_neg c] at h1; exact h1.elim
end
def gAppend (x : D) (ds : List D) (S : Sto) : R D := match x, ds with
  | .ref n, [y] => match S[n]? with
    | some (.lst us) => if us.length < 16777216 then .ok .non (S.set n (.lst (us ++ [y]))) else .stuck
    | _ => .stuck
  | _, _ => .stuck
theorem hd_append {G : GC} : MetD G rAppend gAppend := by
  intro p S H v vs d ds W Q s r rl h
  unfold gAppend at h
  split at h
  · rename_i n y
    split at h
    · rename_i us e
      split at h
      · rename_i c
        obtain ⟨a, xs, rfl, hn, e2, l⟩ := ref_at s r e
        obtain ⟨u, rfl, r1⟩ := rl.one
        refine ⟨a, xs, u, rfl, rfl, e2, by rw [← l.length]; exact lineL c, ?_⟩
        obtain ⟨x4, s4⟩ := set_mo (mo := .lst (us ++ [y])) (o := .lst (xs ++ [u])) s hn (by rw [e2]; simp) ⟨by simp, by simp⟩ fun x4 => ⟨_, upd_same, RepL.ext s x4 _ _ (l.append (RepL.cons r1 RepL.nil))⟩
        exact h _ _ .non x4 s4 rfl
      · exact h.elim
    · exact h.elim
  · exact h.elim
def gExtend (x : D) (ds : List D) (S : Sto) : R D := match x, ds with
  | .ref n, [y] => match S[n]?, lstOf S y with
    | some (.lst us), some ws => if us.length + ws.length ≤ 16777216 then .ok .non (S.set n (.lst (us ++ ws))) else .stuck
    | _, _ => .stuck
  | _, _ => .stuck
def gPopAt (x : D) (ds : List D) (S : Sto) : R D := match x, ds with
  | .ref n, [.int i] => match S[n]? with
    | some (.lst us) => match ixN us.length i with
      | some k => match us[k]? with
        | some y => if us.length ≤ 16777216 then .ok y (S.set n (.lst (us.eraseIdx k))) else .stuck
        | none => .stuck
      | none => .stuck
    | _ => .stuck
  | _, _ => .stuck
/-! ### sorted, of ints -/
def sortI (ns : List Int) : List Int := ns.mergeSort fun a b => decide (a ≤ b)
end DL
namespace PySem
open PyProof.Rows SrtO Calls
section
variable {prog : Program} {w : World} {A : Around} {E : Value → Shared → Prop} {s : Shared}
/-- the list that collecting a tuple fills -/
abbrev dlFilled (h : Heap) (vs : List Value) : Heap := (h.push (seqObj "list" #[] 0)).update h.objs.size (Obj.mapSeq (· ++ vs.toArray))
end
end PySem
namespace DL
open PySem PySem.Spec PyProof.Rows L2
def rSortedA (K : PySem.W.Frag) : List V → Hp → VK → Prop := fun vs H Q => ∃ (a : Addr) (ns : List Int), vs = [V.ref a] ∧ (SqL K H a (ns.map V.int) ∨ SqT K H a (ns.map V.int)) ∧ ∀ p, H p = none → Q (.ref p) (upd H p (.lst ((sortI ns).map V.int)))
section
variable {X : Cx} {W : WX} {pos q0 : Pos} {e : Expr} {es : List Expr} {t : MA}
def gSorted (ds : List D) (S : Sto) : R (List D) := match ds with
  | [d] => match (seqOf S d).bind intsD with
    | some ns => .ok ((sortI ns).map .int) S
    | none => .stuck
  | _ => .stuck
end
end DL

namespace DL
open PySem PySem.Spec PyProof.Rows L2
/-- the built-in names that the text leaves alone -/
structure Bi (mg : Str → Option Value) : Prop where
  len : mg "len" = none
  abs : mg "abs" = none
  int : mg "int" = none
  all : mg "all" = none
  any : mg "any" = none
  tuple : mg "tuple" = none
  list : mg "list" = none
  range : mg "range" = none
  sorted : mg "sorted" = none
  sum : mg "sum" = none
  max : mg "max" = none
  min : mg "min" = none
  enumerate : mg "enumerate" = none
  zip : mg "zip" = none
  isinstance : mg "isinstance" = none
  bool : mg "bool" = none
  str : mg "str" = none
  set : mg "set" = none
theorem bt_len : bootBuiltins "len" = some (.builtin "len") := by decide +kernel
theorem bt_abs : bootBuiltins "abs" = some (.builtin "abs") := by decide +kernel
theorem bt_all : bootBuiltins "all" = some (.builtin "all") := by decide +kernel
theorem bt_any : bootBuiltins "any" = some (.builtin "any") := by decide +kernel
theorem bt_min : bootBuiltins "min" = some (.builtin "min") := by decide +kernel
theorem bt_int : bootBuiltins "int" = some (.type "int") := by decide +kernel
theorem bt_tuple : bootBuiltins "tuple" = some (.type "tuple") := by decide +kernel
theorem bt_bool : bootBuiltins "bool" = some (.type "bool") := by decide +kernel
theorem bt_str : bootBuiltins "str" = some (.type "str") := by decide +kernel
theorem bt_list : bootBuiltins "list" = some (.type "list") := by decide +kernel
section
variable {X : Cx} {k : Nat}
theorem u64 (hr : Room k X.A) : X.A.units + 64 < cLine := hr.units
theorem u65 (hr : Room k X.A) : X.A.units + 65 < cLine := by have := hr.un; omega
theorem ho_eqR (hr : Room k X.A) : OpR X (compareOp .Eq) (rEqD X.K) := op_eqD (u64 hr)
theorem ho_neR (hr : Room k X.A) : OpR X (compareOp .NotEq) (rNeD X.K) := op_neD (u64 hr)
theorem ho_inR (hr : Room k X.A) : OpR X (compareOp .In) (rInA X.K) := op_in_seq.or (op_inD (u65 hr))
theorem ho_notinR (hr : Room k X.A) : OpR X (compareOp .NotIn) (rNotInA X.K) := op_notIn_seq.or (op_notInD (u65 hr))
end
theorem fn_stuck {P : Program} {w : World} {K : PySem.W.Frag} {mg : Str → Option Value} {base : Heap} {k : Nat} {f : Addr} {fd : FuncData} {ps : List Str} : FnOk P w K mg base (L2.CX P w) k f fd ps (spOf ⟨K, mg⟩ fun _ _ => .stuck) :=
  ⟨fun vs H Q E h => by obtain ⟨p, S, ds, _, _, h⟩ := h; exact h.elim, fun A outer s H args us vs Q E _ _ _ _ h => by obtain ⟨p, S, ds, _, _, h⟩ := h; exact h.elim⟩
/-- the law's own promise -/
theorem hsp_of {G : GC} {m : MF} {H : Hp} {a : Addr} {ns : List Int} (h : ∃ S', m [.scr ns] [] = .ok (.bl true) S') (hO : Only H) (hS : SqL G.K H a (ns.map V.int)) : spOf G m [.ref a] H (fun v _ => v = .bl true) fun _ _ _ => False := by
  obtain ⟨S', h⟩ := h
  refine ⟨⟨[], fun _ => False⟩, [], [.scr ns], ⟨rfl, by simp, by simp, fun a z => z.elim, fun n mo e => by simp at e⟩, RepL.cons ⟨a, rfl, ?_⟩ RepL.nil, ?_⟩
  · rcases hS with (h | ⟨o, h⟩) | h
    · rcases hO a with z | ⟨o, xs, z⟩
      · rw [h] at z; cases z
      · rw [h] at z; cases z
    · exact .inl ⟨o, h, by simp⟩
    · exact .inr h
  · rw [h]
    intro q H' v x s r
    exact r
theorem cx_none {P : Program} {w : World} {H : Hp} {s : Shared} {e : Value} {s' : Shared} : L2.CX P w [] H s (fun _ _ _ => False) e s' → False := fun ⟨_, _, _, _, _, _, _, _, _, _, _, _, h⟩ => h
end DL

namespace DL
open PySem PySem.Spec PyProof.Rows L2
/-! ### the plain law's words: what a mirror gives, backwards -/
def zE {A : Type} (r : R A) (X : Ex → Sto → Prop) (Q : A → Sto → Prop) : Prop := match r with
  | .ok a S => Q a S
  | .exc x S => X x S
  | .stuck => False
structure Es where
  nx : EnvD → Sto → Prop
  rt : D → Sto → Prop
  bk : EnvD → Sto → Prop
  ct : EnvD → Sto → Prop
  ex : Ex → EnvD → Sto → Prop
def zS (r : RS) (E : Es) : Prop := match r with
  | .nx r S => E.nx r S
  | .rt d S => E.rt d S
  | .bk r S => E.bk r S
  | .ct r S => E.ct r S
  | .exc x r S => E.ex x r S
  | .stuck => False
section
variable {A B : Type} {X : Ex → Sto → Prop} {Q : A → Sto → Prop} {E : Es} {rho : EnvD} {S : Sto}
theorem zwE_bind {r : R A} {k : A → Sto → R B} {Q : B → Sto → Prop} : zE (r.bind k) X Q = zE r X fun a S' => zE (k a S') X Q := by cases r <;> with_unfolding_all rfl
theorem zwE_ok {a : A} : zE (.ok a S) X Q = Q a S := by with_unfolding_all rfl
theorem zwE_exc {x : Ex} : zE (.exc x S) X Q = X x S := by with_unfolding_all rfl
theorem zwE_stuck : zE (.stuck : R A) X Q = False := by with_unfolding_all rfl
theorem zwE_ite {c : Prop} [Decidable c] {a b : R A} : zE (if c then a else b) X Q = if c then zE a X Q else zE b X Q := by split <;> with_unfolding_all rfl
theorem zwS_ite {c : Prop} [Decidable c] {a b : RS} : zS (if c then a else b) E = if c then zS a E else zS b E := by split <;> with_unfolding_all rfl
theorem zwE_mono {r : R A} {X' : Ex → Sto → Prop} {Q' : A → Sto → Prop} (h : zE r X Q) (hx : ∀ x S, X x S → X' x S) (hq : ∀ a S, Q a S → Q' a S) : zE r X' Q' := by
  cases r with
  | ok a S => exact hq _ _ h
  | exc x S => exact hx _ _ h
  | stuck => exact h.elim
theorem zwE_calm {r : R A} {Q' : A → Sto → Prop} (h : zE r (fun _ _ => False) Q) (hq : ∀ a S, Q a S → Q' a S) : zE r X Q' := zwE_mono h (fun _ _ z => z.elim) hq
theorem zwS_nx : zS (.nx rho S) E = E.nx rho S := by with_unfolding_all rfl
theorem zwS_rt {d : D} : zS (.rt d S) E = E.rt d S := by with_unfolding_all rfl
theorem zwS_stuck : zS .stuck E = False := by with_unfolding_all rfl
theorem zwS_mNx : zS (mNx rho S) E = E.nx rho S := by with_unfolding_all rfl
theorem zwS_mBrk : zS (mBrk rho S) E = E.bk rho S := by with_unfolding_all rfl
theorem zwS_mCnt : zS (mCnt rho S) E = E.ct rho S := by with_unfolding_all rfl
theorem zwS_mRetN : zS (mRetN rho S) E = E.rt .non S := by with_unfolding_all rfl
theorem zwS_mSeq {a b : MS} : zS (mSeq a b rho S) E = zS (a rho S) { E with nx := fun r S' => zS (b r S') E } := by unfold mSeq; cases a rho S <;> with_unfolding_all rfl
theorem zwS_mRet {m : ME} : zS (mRet m rho S) E = zE (m rho S) (fun x S' => E.ex x rho S') E.rt := by unfold mRet; cases m rho S <;> with_unfolding_all rfl
theorem zwS_mDrop {m : ME} : zS (mDrop m rho S) E = zE (m rho S) (fun x S' => E.ex x rho S') fun _ S' => E.nx rho S' := by unfold mDrop; cases m rho S <;> with_unfolding_all rfl
theorem zwS_mIf {c : MB} {a b : MS} : zS (mIf c a b rho S) E = zE (c rho S) (fun x S' => E.ex x rho S') fun k S' => if k = true then zS (a rho S') E else zS (b rho S') E := by
  unfold mIf
  cases c rho S with
  | ok k S1 => exact zwS_ite
  | exc x S1 => rfl
  | stuck => rfl
theorem zwS_mSet {i : Nat} {m : ME} : zS (mSet i m rho S) E = zE (m rho S) (fun x S' => E.ex x rho S') fun d S' => E.nx (rho.set i (some d)) S' := by unfold mSet; cases m rho S <;> with_unfolding_all rfl
theorem zwS_mAsg {T : Tg} {m : ME} : zS (mAsg T m rho S) E = zE (m rho S) (fun x S' => E.ex x rho S') fun d S' => ∃ r, tgSet T d rho = some r ∧ E.nx r S' := by
  unfold mAsg
  cases m rho S with
  | ok d S1 =>
    show zS (match tgSet T d rho with | some r => .nx r S1 | none => .stuck) E = ∃ r, tgSet T d rho = some r ∧ E.nx r S1
    cases tgSet T d rho with
    | some r => simp [zS]
    | none => simp [zS]
  | exc x S1 => rfl
  | stuck => rfl
theorem zwS_mSub {o i e : ME} : zS (mSub o i e rho S) E = zE (e rho S) (fun x S' => E.ex x rho S') fun d S1 => zE (o rho S1) (fun _ _ => False) fun x S2 => zE (i rho S2) (fun _ _ => False) fun y S3 =>
    ∃ n, x = .ref n ∧ ∃ k, y = .int k ∧ ∃ ds, S3[n]? = some (.lst ds) ∧ ∃ j, ixN ds.length k = some j ∧ E.nx rho (S3.set n (.lst (ds.set j d))) := by
  unfold mSub
  cases e rho S with
  | exc x S1 => rfl
  | stuck => rfl
  | ok d S1 =>
    simp only [zwE_ok]
    cases o rho S1 with
    | exc x S1 => rfl
    | stuck => rfl
    | ok x S2 =>
      simp only [zwE_ok]
      cases i rho S2 with
      | exc x S1 => rfl
      | stuck => rfl
      | ok y S3 =>
        simp only [zwE_ok]
        cases x <;> cases y <;> simp [zwS_stuck]
        rename_i n k
        cases h : S3[n]? with
        | none => simp [zwS_stuck]
        | some mo =>
          cases mo <;> simp [zwS_stuck]
          rename_i ds
          cases h2 : ixN ds.length k <;> simp [zwS_stuck, zwS_nx]
theorem zwE_fin {keep : Bool} {n : Nat} {d : D} {Q : D → Sto → Prop} (h : S.length = n) (q : Q d S) : zE (fin keep n d S) X Q := by
  unfold fin; rw [if_pos (.inr (by omega))]; exact q
abbrev zesF (keep : Bool) (n : Nat) (X : Ex → Sto → Prop) (Q : D → Sto → Prop) : Es := ⟨fun _ S' => zE (fin keep n .non S') X Q, fun d S' => zE (fin keep n d S') X Q, fun _ _ => False, fun _ _ => False, fun x _ S' => zE (finX n x S') X Q⟩
theorem zwE_finK {n : Nat} {d : D} {Q : D → Sto → Prop} (q : Q d S) : zE (fin true n d S) X Q := by
  unfold fin; rw [if_pos (.inl rfl)]; exact q
/-- a def's body is run over its arguments -/
theorem zwE_mkF {np nl : Nat} {keep : Bool} {b : MS} {ds : List D} {Q : D → Sto → Prop} (rho : EnvD) (hl : ds.length = np) (he : ds.map some ++ List.replicate (nl - ds.length) none = rho)
    (h : zS (b rho S) (zesF keep S.length X Q)) : zE (mkF np nl keep b ds S) X Q := by
  unfold mkF
  rw [if_pos hl, he]
  generalize b rho S = r at h ⊢
  cases r <;> first | exact h | exact h.elim
end
/-! ### data without a place -/
mutual
def pure : D → Bool
  | .ref _ => false
  | .scr _ => false
  | .rng _ _ => false
  | .tup ds => pureL ds
  | .lst ds => pureL ds
  | _ => true
def pureL : List D → Bool
  | [] => true
  | d :: ds => pure d && pureL ds
end
mutual
theorem pure_lt {n : Nat} : ∀ d : D, pure d = true → d.ltD n = true
  | .ref _, h => by simp [pure] at h
  | .scr _, h => rfl
  | .rng _ _, h => rfl
  | .tup ds, h => by unfold pure at h; unfold D.ltD; exact pureL_lt ds h
  | .lst ds, h => by unfold pure at h; unfold D.ltD; exact pureL_lt ds h
  | .non, _ => rfl
  | .bl _, _ => rfl
  | .int _, _ => rfl
  | .str _, _ => rfl
theorem pureL_lt {n : Nat} : ∀ ds : List D, pureL ds = true → ltL n ds = true
  | [], _ => rfl
  | d :: ds, h => by
    unfold pureL at h
    rw [Bool.and_eq_true] at h
    unfold ltL
    rw [pure_lt d h.1, pureL_lt ds h.2]; rfl
end
theorem pureL_all : ∀ ds : List D, pureL ds = ds.all pure
  | [] => rfl
  | d :: ds => by unfold pureL; rw [pureL_all ds]; rfl
theorem pureL_iff {ds : List D} : pureL ds = true ↔ ∀ d ∈ ds, pure d = true := by rw [pureL_all, List.all_eq_true]
theorem settle_pure {n : Nat} {S : Sto} {d : D} (h : pure d = true) : settle n S d = d := by
  cases d <;> first | rfl | simp [pure] at h
/-- what is built inside a def and not handed out is forgotten -/
theorem zwE_finP {X : Ex → Sto → Prop} {Q : D → Sto → Prop} {n : Nat} {d : D} {S : Sto} (h : pure d = true) (hn : n ≤ S.length) (hl : (S.take n).all (MO.ltD n) = true) (q : Q d (S.take n)) : zE (fin false n d S) X Q := by
  unfold fin
  by_cases c : S.length ≤ n
  · rw [if_pos (.inr c)]
    rw [show n = S.length by omega, List.take_length] at q
    exact q
  · rw [if_neg (by simp; omega), settle_pure h, if_pos ⟨pure_lt d h, hl⟩]; exact q
mutual
def fit : D → Bool
  | .ref _ => false
  | .scr _ => false
  | .rng _ _ => false
  | .str x => PyData.strOk x
  | .tup ds => decide (ds.length ≤ 16777216) && fitL ds
  | .lst ds => decide (ds.length ≤ 16777216) && fitL ds
  | _ => true
def fitL : List D → Bool
  | [] => true
  | d :: ds => fit d && fitL ds
end
theorem fitL_all : ∀ ds : List D, fitL ds = ds.all fit
  | [] => rfl
  | d :: ds => by unfold fitL; rw [fitL_all ds]; rfl
theorem fitL_iff {ds : List D} : fitL ds = true ↔ ∀ d ∈ ds, fit d = true := by rw [fitL_all, List.all_eq_true]
theorem dpL_mem : ∀ {ds : List D} {d : D}, d ∈ ds → dpD d ≤ dpL ds
  | [], d, h => by simp at h
  | e :: ds, d, h => by
    unfold dpL
    rcases List.mem_cons.mp h with rfl | h
    · exact Nat.le_max_left _ _
    · exact Nat.le_trans (dpL_mem h) (Nat.le_max_right _ _)
/-! ### loops -/
inductive All2 {α β : Type} (P : α → β → Prop) : List α → List β → Prop where
  | nil : All2 P [] []
  | cons {x y xs ys} (h : P x y) (t : All2 P xs ys) : All2 P (x :: xs) (y :: ys)
theorem All2.length_eq {α β : Type} {P : α → β → Prop} : ∀ {xs : List α} {ys : List β}, All2 P xs ys → xs.length = ys.length
  | [], _, h => by cases h; rfl
  | x :: xs, _, h => by cases h with
    | cons h t => simp [t.length_eq]
theorem grd_none {S : Sto} : Grd none S := True.intro
section
variable {T : Tg} {tt : MB} {elt : ME} {rho : EnvD} {J : Sto → Prop} {P : D → D → Prop} {X : Ex → Sto → Prop}
/-- a comprehension without a test: every turn gives one element -/
theorem zlc_wp : ∀ {ds : List D} {acc : List D} {S : Sto} {Q : List D → Sto → Prop}, (h : ∀ d ∈ ds, ∀ S, J S → ∃ r, tgSet T d rho = some r ∧ zE (elt r S) (fun _ _ => False) fun y S' => J S' ∧ P d y) → J S → acc.length + ds.length ≤ 16777216 →
    (∀ ys S', All2 P ds ys → J S' → Q (acc ++ ys) S') → zE (foldL none (lcStep T mYes elt rho) ds acc S) X Q
  | [], acc, S, Q, h, hJ, hl, hq => by
    unfold foldL
    rw [if_pos grd_none, zwE_ok]
    have := hq [] S .nil hJ
    rwa [List.append_nil] at this
  | d :: ds, acc, S, Q, h, hJ, hl, hq => by
    unfold foldL
    rw [if_pos grd_none]
    obtain ⟨r, er, hw⟩ := h d (List.mem_cons_self ..) S hJ
    unfold lcStep
    simp only [er, mYes, if_true, lcPush]
    cases ee : elt r S with
    | ok y S2 =>
      rw [ee] at hw
      obtain ⟨j2, p2⟩ := hw
      have hl2 : acc.length + (ds.length + 1) ≤ 16777216 := hl
      simp only [if_pos (show acc.length < 16777216 by omega)]
      refine zlc_wp (fun d' hd' => h d' (List.mem_cons_of_mem _ hd')) j2 (by rw [List.length_append]; show acc.length + 1 + ds.length ≤ _; omega) fun ys S' f j => ?_
      rw [List.append_assoc]
      exact hq (y :: ys) S' (.cons p2 f) j
    | exc x S2 => rw [ee] at hw; exact hw.elim
    | stuck => rw [ee] at hw; exact hw.elim
/-- a comprehension that changes nothing, with a test -/
theorem zlc_pure {t : D → Bool} {f : D → D} : ∀ {ds : List D} {acc : List D} {S : Sto} {Q : List D → Sto → Prop}, (h : ∀ d ∈ ds, ∃ r, tgSet T d rho = some r ∧ tt r S = .ok (t d) S ∧ (t d = true → elt r S = .ok (f d) S)) → acc.length + ds.length ≤ 16777216 →
    Q (acc ++ (ds.filter t).map f) S → zE (foldL none (lcStep T tt elt rho) ds acc S) X Q
  | [], acc, S, Q, h, hl, hq => by
    unfold foldL
    rw [if_pos grd_none, zwE_ok]
    simpa using hq
  | d :: ds, acc, S, Q, h, hl, hq => by
    unfold foldL
    rw [if_pos grd_none]
    obtain ⟨r, er, h1, h2⟩ := h d (List.mem_cons_self ..)
    unfold lcStep
    simp only [er, h1]
    have hl2 : acc.length + (ds.length + 1) ≤ 16777216 := hl
    cases et : t d with
    | false =>
      simp only [Bool.false_eq_true, if_false]
      exact zlc_pure (fun d' hd' => h d' (List.mem_cons_of_mem _ hd')) (by omega) (by simpa [List.filter_cons, et] using hq)
    | true =>
      simp only [if_true, lcPush, h2 et, if_pos (show acc.length < 16777216 by omega)]
      refine zlc_pure (fun d' hd' => h d' (List.mem_cons_of_mem _ hd')) (by rw [List.length_append]; show acc.length + 1 + ds.length ≤ _; omega) ?_
      simpa [List.filter_cons, et] using hq
end
/-- a for loop over what stays: I tells what holds with the rest still to come -/
theorem zloop_wp {step : D → EnvD → Sto → RS} {E : Es} {I : List D → EnvD → Sto → Prop} : ∀ {ds : List D} {rho : EnvD} {S : Sto}, (h : ∀ d rest rho S, I (d :: rest) rho S → zS (step d rho S) ⟨I rest, E.rt, E.nx, I rest, E.ex⟩) → I ds rho S → (∀ rho S, I [] rho S → E.nx rho S) → zS (loopF none step ds rho S) E
  | [], rho, S, h, i, e => by unfold loopF; rw [if_pos grd_none]; exact e _ _ i
  | d :: ds, rho, S, h, i, e => by
    unfold loopF
    rw [if_pos grd_none]
    have z := h d ds rho S i
    cases es : step d rho S with
    | nx r S' => rw [es] at z; exact zloop_wp h z e
    | ct r S' => rw [es] at z; exact zloop_wp h z e
    | bk r S' => rw [es] at z; exact z
    | rt d S' => rw [es] at z; exact z
    | exc x r S' => rw [es] at z; exact z
    | stuck => rw [es] at z; exact z.elim
theorem zwS_mFor {it : MI} {T : Tg} {body : MS} {rho : EnvD} {S : Sto} {E : Es} : zS (mFor it T body rho S) E = zE (it rho S) (fun x S' => E.ex x rho S') fun a S1 => zS (loopF a.1 (fun d r S => match tgSet T d r with
    | some r' => body r' S
    | none => .stuck) a.2 rho S1) E := by unfold mFor; cases it rho S <;> rfl
theorem zwE_mLc {it : MI} {T : Tg} {tt : MB} {elt : ME} {vs : List Nat} {rho : EnvD} {S : Sto} {X : Ex → Sto → Prop} {Q : List D → Sto → Prop} : zE (mLc it T tt elt vs rho S) X Q = zE (it rho S) X fun a S1 => zE (foldL a.1 (lcStep T tt elt (wipeD rho vs)) a.2 [] S1) X Q := zwE_bind
theorem all2_const {α β : Type} {c : β} : ∀ {xs : List α} {ys : List β}, All2 (fun _ y => y = c) xs ys → ys = List.replicate xs.length c
  | [], _, h => by cases h; rfl
  | x :: xs, _, h => by cases h with
    | cons h t => rw [h, all2_const t]; rfl
theorem all2_map {α β : Type} {f : α → β} : ∀ {xs : List α} {ys : List β}, All2 (fun x y => y = f x) xs ys → ys = xs.map f
  | [], _, h => by cases h; rfl
  | x :: xs, _, h => by cases h with
    | cons h t => rw [h, all2_map t]; rfl
theorem all2_mem {α β : Type} {P : α → β → Prop} : ∀ {xs : List α} {ys : List β}, All2 P xs ys → ∀ y ∈ ys, ∃ x ∈ xs, P x y
  | [], _, h, y, hy => by cases h; simp at hy
  | x :: xs, _, h, y, hy => by
    cases h with
    | cons h1 h2 =>
      rcases List.mem_cons.mp hy with e | hy
      · exact ⟨x, List.mem_cons_self .., by rw [e]; exact h1⟩
      · obtain ⟨x', a, b⟩ := all2_mem h2 y hy
        exact ⟨x', List.mem_cons_of_mem _ a, b⟩
theorem rgD_len {a b : Int} : (rgD a b).length = (b - a).toNat := by simp [rgD]
theorem rgD_mem {a b : Int} {d : D} (h : d ∈ rgD a b) : ∃ i : Int, d = .int i ∧ a ≤ i ∧ i < b := by
  unfold rgD at h
  rw [List.mem_map] at h
  obtain ⟨i, h1, h2⟩ := h
  rw [List.mem_range] at h1
  exact ⟨_, h2.symm, by omega, by omega⟩
theorem atI_at {α : Type} {xs : List α} {i : Int} (h0 : 0 ≤ i) (h1 : i < xs.length) : ∃ x, atI xs i = some x ∧ x ∈ xs ∧ xs[i.toNat]? = some x := by
  have h2 : i.toNat < xs.length := by omega
  refine ⟨xs[i.toNat], ?_, List.getElem_mem h2, List.getElem?_eq_getElem h2⟩
  unfold atI ixN
  rw [if_pos h0, if_pos h1]
  simp [h2]
/-! ### the laws' own stream of digits -/
def Strm (mo : MO) : Prop := ∃ (scr : List D) (cell k : Int), mo = .lst [.lst scr, .int cell, .int k] ∧ (∀ d ∈ scr, ∃ i, d = .int i) ∧ 0 ≤ cell ∧ 0 ≤ k
theorem ltL_ints {n : Nat} : ∀ {ds : List D}, (∀ d ∈ ds, ∃ i, d = .int i) → ltL n ds = true
  | [], _ => rfl
  | d :: ds, h => by
    obtain ⟨i, rfl⟩ := h d (List.mem_cons_self ..)
    show (true && ltL n ds) = true
    rw [ltL_ints fun d hd => h d (List.mem_cons_of_mem _ hd)]; rfl
theorem Strm.lt {mo : MO} {n : Nat} (h : Strm mo) : mo.ltD n = true := by
  obtain ⟨scr, cell, k, rfl, h, _, _⟩ := h
  show (ltL n scr && (true && (true && true))) = true
  rw [ltL_ints h]; rfl
end DL

namespace DL
open PySem PySem.Spec PyProof.Rows L2
section
variable {A B : Type} {X : Ex → Sto → Prop} {Q : D → Sto → Prop} {QB : Bool → Sto → Prop} {QL : List D → Sto → Prop} {E : Es} {rho : EnvD} {S : Sto} {i : Nat} {a b c : ME} {u v : MB} {t : MA} {l : ML} {g g' : D → D → Sto → R D} {x y : D}
theorem zwE_guard {c : Prop} [Decidable c] {r : R A} {Q : A → Sto → Prop} : zE (if c then r else .stuck) X Q = (c ∧ zE r X Q) := by
  by_cases h : c
  · rw [if_pos h]; exact propext ⟨fun z => ⟨h, z⟩, fun z => z.2⟩
  · rw [if_neg h]; exact propext ⟨fun z => z.elim, fun z => h z.1⟩
theorem zw_var : zE (mVar i rho S) X Q = ∃ d, rho[i]? = some (some d) ∧ Q d S := by
  unfold mVar
  apply propext
  constructor
  · intro h
    split at h
    · rename_i d e; exact ⟨d, e, h⟩
    · exact h.elim
  · rintro ⟨d, e, h⟩; rw [e]; exact h
theorem zw_c : zE (mC x rho S) X Q = Q x S := rfl
theorem zw_op : zE (mOp2 g a b rho S) X Q = zE (a rho S) X fun x S1 => zE (b rho S1) X fun y S2 => zE (g x y S2) X Q := by unfold mOp2; rw [zwE_bind]; congr 1; funext x S1; rw [zwE_bind]
theorem zw_T : zE (mT a rho S) X QB = zE (a rho S) X fun d S1 => ∃ k, d = .bl k ∧ QB k S1 := by
  unfold mT; rw [zwE_bind]; congr 1; funext x S1
  cases x <;> simp [zwE_stuck, zwE_ok]
theorem zw_chain : zE (mChain g g' a b c rho S) X Q = zE (a rho S) X fun x S1 => zE (b rho S1) X fun y S2 => zE (g x y S2) X fun z S3 => ∃ k, z = .bl k ∧ if k = true then zE (c rho S3) X fun w S4 => zE (g' y w S4) X Q else Q (.bl false) S3 := by
  unfold mChain; rw [zwE_bind]; congr 1; funext x S1; rw [zwE_bind]; congr 1; funext y S2; rw [zwE_bind]; congr 1; funext z S3
  cases z with
  | bl k => cases k <;> simp [zwE_ok, zwE_bind]
  | _ => simp [zwE_stuck]
theorem zw_tr : zE (mTr a rho S) X QB = zE (a rho S) X fun d S1 => ∃ k, truD S1 d = some k ∧ QB k S1 := by
  unfold mTr; rw [zwE_bind]; congr 1; funext x S1
  cases truD S1 x <;> simp [zwE_stuck, zwE_ok]
theorem zw_not : zE (mNot u rho S) X QB = zE (u rho S) X fun k S1 => QB (!k) S1 := by unfold mNot; rw [zwE_bind] <;> rfl
theorem zw_and : zE (mAnd u v rho S) X QB = zE (u rho S) X fun k S1 => if k = true then zE (v rho S1) X QB else QB false S1 := by
  unfold mAnd; rw [zwE_bind]; congr 1; funext x S1; rw [zwE_ite]; rfl
theorem zw_or : zE (mOr u v rho S) X QB = zE (u rho S) X fun k S1 => if k = true then QB true S1 else zE (v rho S1) X QB := by
  unfold mOr; rw [zwE_bind]; congr 1; funext x S1; rw [zwE_ite]; rfl
theorem zw_ite : zE (mIte u a b rho S) X Q = zE (u rho S) X fun k S1 => if k = true then zE (a rho S1) X Q else zE (b rho S1) X Q := by
  unfold mIte; rw [zwE_bind]; congr 1; funext x S1; rw [zwE_ite]
theorem zw_andV : zE (mAndV a b rho S) X Q = zE (a rho S) X fun x S1 => ∃ k, truD S1 x = some k ∧ if k = true then zE (b rho S1) X Q else Q x S1 := by
  unfold mAndV; rw [zwE_bind]; congr 1; funext x S1
  cases e : truD S1 x with
  | none => simp [zwE_stuck]
  | some k => cases k <;> simp [zwE_ok]
theorem zw_orV : zE (mOrV a b rho S) X Q = zE (a rho S) X fun x S1 => ∃ k, truD S1 x = some k ∧ if k = true then Q x S1 else zE (b rho S1) X Q := by
  unfold mOrV; rw [zwE_bind]; congr 1; funext x S1
  cases e : truD S1 x with
  | none => simp [zwE_stuck]
  | some k => cases k <;> simp [zwE_ok]
theorem zw_notV : zE (mNotV a rho S) X Q = zE (a rho S) X fun x S1 => ∃ k, truD S1 x = some k ∧ Q (.bl (!k)) S1 := by
  unfold mNotV; rw [zwE_bind]; congr 1; funext x S1
  cases e : truD S1 x <;> simp [zwE_stuck, zwE_ok]
theorem zw_neg : zE (mNeg a rho S) X Q = zE (a rho S) X fun x S1 => ∃ i, x = .int i ∧ Q (.int (-i)) S1 := by
  unfold mNeg; rw [zwE_bind]; congr 1; funext x S1
  cases x <;> simp [zwE_stuck, zwE_ok]
theorem zw_nil : zE (mNil rho S) X QL = QL [] S := rfl
theorem zw_cons : zE (mCons a t rho S) X QL = zE (a rho S) X fun x S1 => zE (t rho S1) X fun xs S2 => QL (x :: xs) S2 := by
  unfold mCons; rw [zwE_bind]; congr 1; funext x S1; rw [zwE_bind] <;> rfl
theorem zw_tup : zE (mTup t rho S) X Q = zE (t rho S) X fun ds S1 => ds.length ≤ 16777216 ∧ Q (.tup ds) S1 := by
  unfold mTup; rw [zwE_bind]; congr 1; funext x S1; rw [zwE_guard]; rfl
theorem zw_call {f : MF} : zE (mCall f t rho S) X Q = zE (t rho S) X fun ds S1 => zE (f ds S1) X Q := by unfold mCall; rw [zwE_bind]
theorem zw_fz : zE (mFz l rho S) X Q = zE (l rho S) X fun ds S1 => Q (.lst ds) S1 := by unfold mFz; rw [zwE_bind] <;> rfl
theorem zw_al : zE (mAl l rho S) X Q = zE (l rho S) X fun ds S1 => Q (.ref S1.length) (S1 ++ [.lst ds]) := by unfold mAl; rw [zwE_bind] <;> rfl
theorem zw_disp : zE (mDisp t rho S) X QL = zE (t rho S) X fun ds S1 => ds.length ≤ 16777216 ∧ QL ds S1 := by
  unfold mDisp; rw [zwE_bind]; congr 1; funext x S1; rw [zwE_guard]; rfl
theorem zw_callL {f : List D → Sto → R (List D)} : zE (mCallL f t rho S) X QL = zE (t rho S) X fun ds S1 => zE (f ds S1) X QL := by unfold mCallL; rw [zwE_bind]
theorem zw_R1 {QR : Int × Int → Sto → Prop} : zE (mR1 a rho S) X QR = zE (a rho S) X fun x S1 => ∃ n, x = .int n ∧ QR (0, n) S1 := by
  unfold mR1; rw [zwE_bind]; congr 1; funext x S1; cases x <;> simp [zwE_stuck, zwE_ok]
theorem zw_R2 {QR : Int × Int → Sto → Prop} : zE (mR2 a b rho S) X QR = zE (a rho S) X fun x S1 => zE (b rho S1) X fun y S2 => ∃ m, x = .int m ∧ ∃ n, y = .int n ∧ QR (m, n) S2 := by
  unfold mR2; rw [zwE_bind]; congr 1; funext x S1; rw [zwE_bind]; congr 1; funext y S2; cases x <;> cases y <;> simp [zwE_stuck, zwE_ok]
theorem zw_rgL {m : MR} : zE (mRgL m rho S) X QL = zE (m rho S) X fun ab S1 => (-16777216 ≤ ab.1 ∧ ab.1 ≤ 16777216 ∧ -16777216 ≤ ab.2 ∧ ab.2 ≤ 16777216 ∧ ab.2 - ab.1 ≤ 16777216) ∧ QL (rgD ab.1 ab.2) S1 := by
  unfold mRgL; rw [zwE_bind]; congr 1; funext x S1; rw [zwE_guard]; rfl
theorem zw_rgT {m : MR} : zE (mRgT m rho S) X Q = zE (m rho S) X fun ab S1 => (-16777216 ≤ ab.1 ∧ ab.1 ≤ 16777216 ∧ -16777216 ≤ ab.2 ∧ ab.2 ≤ 16777216 ∧ ab.2 - ab.1 ≤ 16777216) ∧ Q (.tup (rgD ab.1 ab.2)) S1 := by
  unfold mRgT; rw [zwE_bind]; congr 1; funext x S1; rw [zwE_guard]; rfl
theorem zw_itR {m : MR} {QI : It0 → Sto → Prop} : zE (mItR m rho S) X QI = zE (m rho S) X fun ab S1 => (-4611686018427387904 ≤ ab.1 ∧ ab.1 < 4611686018427387904 ∧ -4611686018427387904 ≤ ab.2 ∧ ab.2 < 4611686018427387904) ∧ QI (none, rgD ab.1 ab.2) S1 := by
  unfold mItR; rw [zwE_bind]; congr 1; funext x S1; rw [zwE_guard]; rfl
theorem zw_isi {T : Ty} : zE (mIsi T a rho S) X Q = zE (a rho S) X fun d S1 => ∃ k, kindD S1 d = some k ∧ Q (.bl (T.has k)) S1 := by
  unfold mIsi; rw [zwE_bind]; congr 1; funext x S1; cases kindD S1 x <;> simp [zwE_stuck, zwE_ok]
theorem zw_met {f : D → List D → Sto → R D} : zE (mMet f a t rho S) X Q = zE (a rho S) X fun d S1 => (lstOf S1 d).isSome = true ∧ zE (t rho S1) X fun ds S2 => zE (f d ds S2) X Q := by
  unfold mMet; rw [zwE_bind]; congr 1; funext x S1; rw [zwE_ite, zwE_bind]; unfold isLst; split <;> simp_all [zwE_stuck]
theorem zw_noP {QP : Option Int → Sto → Prop} : zE (mNoP rho S) X QP = QP none S := rfl
theorem zw_part {QP : Option Int → Sto → Prop} : zE (mPart a rho S) X QP = zE (a rho S) X fun d S1 => ∃ i, d = .int i ∧ QP (some i) S1 := by
  unfold mPart; rw [zwE_bind]; congr 1; funext x S1; cases x <;> simp [zwE_stuck, zwE_ok]
theorem zw_sl {lo hi : MP} : zE (mSl a lo hi rho S) X Q = zE (a rho S) X fun x S1 => zE (lo rho S1) X fun l S2 => zE (hi rho S2) X fun u S3 => zE (opSl x l u S3) X Q := by
  unfold mSl; rw [zwE_bind]; congr 1; funext x S1; rw [zwE_bind]; congr 1; funext x S1; rw [zwE_bind]
theorem zw_itV {QI : It0 → Sto → Prop} : zE (mItV a rho S) X QI = zE (a rho S) X fun d S1 => zE (match d with | .tup ds => .ok (none, ds) S1 | .lst ds => .ok (none, ds) S1 | .ref n => (match S1[n]? with | some (.lst ds) => .ok (some (n, ds), ds) S1 | _ => .stuck) | _ => (.stuck : R It0)) X QI := by
  unfold mItV; rw [zwE_bind] <;> rfl
theorem zw_itE {QI : It0 → Sto → Prop} : zE (mItE a rho S) X QI = zE (a rho S) X fun d S1 => zE (match d with | .tup ds => .ok (none, enumD 0 ds) S1 | .lst ds => .ok (none, enumD 0 ds) S1 | .ref n => (match S1[n]? with | some (.lst ds) => .ok (some (n, ds), enumD 0 ds) S1 | _ => .stuck) | _ => (.stuck : R It0)) X QI := by
  unfold mItE; rw [zwE_bind] <;> rfl
theorem zw_itZ {QI : It0 → Sto → Prop} : zE (mItZ a b rho S) X QI = zE (a rho S) X fun d S1 => zE (b rho S1) X fun e S2 => zE (match d, e with | .tup ds, .tup es => .ok (none, zipD ds es) S2 | .lst ds, .lst es => .ok (none, zipD ds es) S2 | _, _ => (.stuck : R It0)) X QI := by
  unfold mItZ; rw [zwE_bind]; congr 1; funext x S1; rw [zwE_bind] <;> rfl
theorem zw_repL : zE (mRepL t b rho S) X QL = zE (t rho S) X fun ds S1 => ds.length ≤ 16777216 ∧ zE (b rho S1) X fun y S2 => ∃ k, y = .int k ∧ (ds.length * k.toNat ≤ 16777216 ∧ -1000000 ≤ k ∧ k ≤ 1000000) ∧ QL (List.replicate k.toNat ds).flatten S2 := by
  unfold mRepL; rw [zwE_bind]; congr 1; funext x S1; rw [zwE_guard, zwE_bind]; congr 2; funext y S2
  cases y <;> simp only [zwE_stuck, D.int.injEq, reduceCtorEq, false_and, exists_const, exists_eq_left', exists_false]
  rw [zwE_guard]; rfl
/-! ops at hand -/
variable {m n : Int} {xs ys : List D} {C : Int → Int → Bool} {h : Int → Int → Int} {hc : Int → Int → Bool} {s1 s2 : Str} {neg : Bool}
theorem zo_addI : zE (opAdd (.int m) (.int n) S) X Q = Q (.int (m + n)) S := rfl
theorem zo_addT : zE (opAdd (.tup xs) (.tup ys) S) X Q = (xs.length + ys.length ≤ 16777216 ∧ Q (.tup (xs ++ ys)) S) := by unfold opAdd; exact zwE_guard
theorem zo_addL : zE (opAdd (.lst xs) (.lst ys) S) X Q = (xs.length + ys.length ≤ 16777216 ∧ Q (.lst (xs ++ ys)) S) := by unfold opAdd lstOf; exact zwE_guard
theorem zo_sub : zE (opSub (.int m) (.int n) S) X Q = Q (.int (m - n)) S := rfl
theorem zo_I : zE (opI C h (.int m) (.int n) S) X Q = (C m n = true ∧ Q (.int (h m n)) S) := by unfold opI; exact zwE_guard
theorem zo_mulI : zE (opMul (.int m) (.int n) S) X Q = (cMul m n = true ∧ Q (.int (m * n)) S) := by unfold opMul; exact zwE_guard
theorem zo_mulT : zE (opMul (.tup xs) (.int n) S) X Q = ((0 < xs.length ∧ xs.length ≤ 1000 ∧ 2 ≤ n ∧ n ≤ 1000) ∧ Q (.tup (List.replicate n.toNat xs).flatten) S) := by unfold opMul; exact zwE_guard
theorem zo_B : zE (opB h (.int m) (.int n) S) X Q = Q (.int (h m n)) S := rfl
theorem zo_C : zE (opC hc (.int m) (.int n) S) X Q = Q (.bl (hc m n)) S := rfl
theorem zo_is : zE (opIs neg x .non S) X Q = Q (.bl (if neg = true then !isNon x else isNon x)) S := rfl
theorem zo_eq : zE (opEq neg x y S) X Q = ((okD (seen S x) = true ∧ okD (seen S y) = true ∧ dpD (seen S x) ≤ 64 ∧ dpD (seen S y) ≤ 64) ∧ Q (.bl (if neg = true then !eqD (seen S x) (seen S y) else eqD (seen S x) (seen S y))) S) := by
  unfold opEq; exact zwE_guard
theorem zo_eqI : zE (opEq neg (.int m) (.int n) S) X Q = Q (.bl (if neg = true then !(m == n) else m == n)) S := by
  rw [zo_eq]
  have e : ∀ k : Int, seen S (.int k) = .int k := fun _ => rfl
  rw [e, e]
  simp [okD, dpD, eqD]
theorem zo_ixT : zE (opIx (.tup xs) (.int m) S) X Q = ∃ d, atI xs m = some d ∧ Q d S := by
  unfold opIx seqOf; dsimp only
  cases atI xs m <;> simp [zwE_stuck, zwE_ok]
theorem zo_ixL : zE (opIx (.lst xs) (.int m) S) X Q = ∃ d, atI xs m = some d ∧ Q d S := by
  unfold opIx seqOf lstOf; dsimp only
  cases atI xs m <;> simp [zwE_stuck, zwE_ok]
theorem zo_ixR {k : Nat} : zE (opIx (.ref k) (.int m) S) X Q = ∃ ds, S[k]? = some (.lst ds) ∧ ∃ d, atI ds m = some d ∧ Q d S := by
  unfold opIx seqOf lstOf; dsimp only
  cases e : S[k]? with
  | none => simp [zwE_stuck]
  | some mo =>
    cases mo <;> simp [zwE_stuck]
    rename_i ds
    cases atI ds m <;> simp [zwE_stuck, zwE_ok]
theorem zo_slT {lo hi : Option Int} : zE (opSl (.tup xs) lo hi S) X Q = Q (.tup (cutD xs lo hi)) S := rfl
theorem zo_slL {lo hi : Option Int} : zE (opSl (.lst xs) lo hi S) X Q = Q (.lst (cutD xs lo hi)) S := rfl
theorem zf_lenT : zE (fLen [.tup xs] S) X Q = Q (.int xs.length) S := rfl
theorem zf_lenL : zE (fLen [.lst xs] S) X Q = Q (.int xs.length) S := rfl
theorem zf_abs : zE (fAbs [.int m] S) X Q = Q (.int (if m < 0 then -m else m)) S := rfl
theorem zf_int : zE (fInt [.int m] S) X Q = Q (.int m) S := rfl
theorem zf_tupL : zE (fTuple [.lst xs] S) X Q = Q (.tup xs) S := rfl
theorem zf_tupT : zE (fTuple [.tup xs] S) X Q = Q (.tup xs) S := rfl
theorem zf_listT : zE (gList [.tup xs] S) X QL = QL xs S := rfl
theorem zf_listL : zE (gList [.lst xs] S) X QL = QL xs S := rfl
theorem zf_listS {ns : List Int} : zE (gList [.scr ns] S) X QL = QL (ns.map .int) S := rfl
theorem blsD_map : ∀ {bs : List Bool}, blsD (bs.map D.bl) = some bs
  | [] => rfl
  | b :: bs => by show (blsD (bs.map D.bl)).map (b :: ·) = _; rw [blsD_map]; rfl
theorem intsD_map : ∀ {bs : List Int}, intsD (bs.map D.int) = some bs
  | [] => rfl
  | b :: bs => by show (intsD (bs.map D.int)).map (b :: ·) = _; rw [intsD_map]; rfl
theorem zf_all {bs : List Bool} : zE (fAll [.lst (bs.map D.bl)] S) X Q = Q (.bl (bs.all id)) S := by unfold fAll lstOf; dsimp only [Option.bind]; rw [blsD_map]; rfl
theorem zf_any {bs : List Bool} : zE (fAny [.lst (bs.map D.bl)] S) X Q = Q (.bl (bs.any id)) S := by unfold fAny lstOf; dsimp only [Option.bind]; rw [blsD_map]; rfl
theorem zf_sum {bs : List Int} : zE (fSum [.lst (bs.map D.int)] S) X Q = Q (.int bs.sum) S := by unfold fSum lstOf; dsimp only [Option.bind]; rw [intsD_map]; rfl
theorem zf_sorted {bs : List Int} : zE (gSorted [.lst (bs.map D.int)] S) X QL = QL ((sortI bs).map .int) S := by unfold gSorted seqOf lstOf; dsimp only [Option.bind]; rw [intsD_map]; rfl
theorem zf_append {k : Nat} : zE (gAppend (.ref k) [x] S) X Q = ∃ us, S[k]? = some (.lst us) ∧ us.length < 16777216 ∧ Q .non (S.set k (.lst (us ++ [x]))) := by
  unfold gAppend; dsimp only
  cases e : S[k]? with
  | none => simp [zwE_stuck]
  | some mo =>
    cases mo <;> simp [zwE_stuck]
    rename_i ds
    rw [zwE_guard]; exact Iff.rfl
theorem zf_extendL {k : Nat} : zE (gExtend (.ref k) [.lst xs] S) X Q = ∃ us, S[k]? = some (.lst us) ∧ us.length + xs.length ≤ 16777216 ∧ Q .non (S.set k (.lst (us ++ xs))) := by
  unfold gExtend lstOf; dsimp only
  cases e : S[k]? with
  | none => simp [zwE_stuck]
  | some mo =>
    cases mo <;> simp [zwE_stuck]
    rename_i ds
    rw [zwE_guard]; exact Iff.rfl
end
end DL

namespace DL
open PySem PySem.Spec PyProof.Rows L2
@[irreducible] def wE {A : Type} (r : R A) (X : Ex → Sto → Prop) (Q : A → Sto → Prop) : Prop := zE r X Q
@[irreducible] def wS (r : RS) (E : Es) : Prop := zS r E
theorem wE_z : @wE = @zE := by with_unfolding_all rfl
theorem wS_z : @wS = @zS := by with_unfolding_all rfl
abbrev esF (keep : Bool) (n : Nat) (X : Ex → Sto → Prop) (Q : D → Sto → Prop) : Es := ⟨fun _ S' => wE (fin keep n .non S') X Q, fun d S' => wE (fin keep n d S') X Q, fun _ _ => False, fun _ _ => False, fun x _ S' => wE (finX n x S') X Q⟩
section
variable {A B : Type} {X : Ex → Sto → Prop} {Q : A → Sto → Prop} {E : Es} {rho : EnvD} {S : Sto}
theorem wE_bind {r : R A} {k : A → Sto → R B} {Q : B → Sto → Prop} : wE (r.bind k) X Q = wE r X fun a S' => wE (k a S') X Q := by with_unfolding_all exact zwE_bind
theorem wE_ok {a : A} : wE (.ok a S) X Q = Q a S := by with_unfolding_all exact zwE_ok
theorem wE_exc {x : Ex} : wE (.exc x S) X Q = X x S := by with_unfolding_all exact zwE_exc
theorem wE_stuck : wE (.stuck : R A) X Q = False := by with_unfolding_all exact zwE_stuck
theorem wE_ite {c : Prop} [Decidable c] {a b : R A} : wE (if c then a else b) X Q = if c then wE a X Q else wE b X Q := by with_unfolding_all exact zwE_ite
theorem wS_ite {c : Prop} [Decidable c] {a b : RS} : wS (if c then a else b) E = if c then wS a E else wS b E := by with_unfolding_all exact zwS_ite
theorem wE_mono {r : R A} {X' : Ex → Sto → Prop} {Q' : A → Sto → Prop} (h : wE r X Q) (hx : ∀ x S, X x S → X' x S) (hq : ∀ a S, Q a S → Q' a S) : wE r X' Q' := by with_unfolding_all exact zwE_mono h hx hq
theorem wE_calm {r : R A} {Q' : A → Sto → Prop} (h : wE r (fun _ _ => False) Q) (hq : ∀ a S, Q a S → Q' a S) : wE r X Q' := by with_unfolding_all exact zwE_calm h hq
theorem wS_nx : wS (.nx rho S) E = E.nx rho S := by with_unfolding_all exact zwS_nx
theorem wS_rt {d : D} : wS (.rt d S) E = E.rt d S := by with_unfolding_all exact zwS_rt
theorem wS_stuck : wS .stuck E = False := by with_unfolding_all exact zwS_stuck
theorem wS_mNx : wS (mNx rho S) E = E.nx rho S := by with_unfolding_all exact zwS_mNx
theorem wS_mBrk : wS (mBrk rho S) E = E.bk rho S := by with_unfolding_all exact zwS_mBrk
theorem wS_mCnt : wS (mCnt rho S) E = E.ct rho S := by with_unfolding_all exact zwS_mCnt
theorem wS_mRetN : wS (mRetN rho S) E = E.rt .non S := by with_unfolding_all exact zwS_mRetN
theorem wS_mSeq {a b : MS} : wS (mSeq a b rho S) E = wS (a rho S) { E with nx := fun r S' => wS (b r S') E } := by with_unfolding_all exact zwS_mSeq
theorem wS_mRet {m : ME} : wS (mRet m rho S) E = wE (m rho S) (fun x S' => E.ex x rho S') E.rt := by with_unfolding_all exact zwS_mRet
theorem wS_mDrop {m : ME} : wS (mDrop m rho S) E = wE (m rho S) (fun x S' => E.ex x rho S') fun _ S' => E.nx rho S' := by with_unfolding_all exact zwS_mDrop
theorem wS_mIf {c : MB} {a b : MS} : wS (mIf c a b rho S) E = wE (c rho S) (fun x S' => E.ex x rho S') fun k S' => if k = true then wS (a rho S') E else wS (b rho S') E := by with_unfolding_all exact zwS_mIf
theorem wS_mSet {i : Nat} {m : ME} : wS (mSet i m rho S) E = wE (m rho S) (fun x S' => E.ex x rho S') fun d S' => E.nx (rho.set i (some d)) S' := by with_unfolding_all exact zwS_mSet
theorem wS_mAsg {T : Tg} {m : ME} : wS (mAsg T m rho S) E = wE (m rho S) (fun x S' => E.ex x rho S') fun d S' => ∃ r, tgSet T d rho = some r ∧ E.nx r S' := by with_unfolding_all exact zwS_mAsg
theorem wS_mSub {o i e : ME} : wS (mSub o i e rho S) E = wE (e rho S) (fun x S' => E.ex x rho S') fun d S1 => wE (o rho S1) (fun _ _ => False) fun x S2 => wE (i rho S2) (fun _ _ => False) fun y S3 =>
    ∃ n, x = .ref n ∧ ∃ k, y = .int k ∧ ∃ ds, S3[n]? = some (.lst ds) ∧ ∃ j, ixN ds.length k = some j ∧ E.nx rho (S3.set n (.lst (ds.set j d))) := by with_unfolding_all exact zwS_mSub
theorem wE_fin {keep : Bool} {n : Nat} {d : D} {Q : D → Sto → Prop} (h : S.length = n) (q : Q d S) : wE (fin keep n d S) X Q := by with_unfolding_all exact zwE_fin h q
theorem wE_finK {n : Nat} {d : D} {Q : D → Sto → Prop} (q : Q d S) : wE (fin true n d S) X Q := by with_unfolding_all exact zwE_finK q
theorem wE_mkF {np nl : Nat} {keep : Bool} {b : MS} {ds : List D} {Q : D → Sto → Prop} (rho : EnvD) (hl : ds.length = np) (he : ds.map some ++ List.replicate (nl - ds.length) none = rho)
    (h : wS (b rho S) (esF keep S.length X Q)) : wE (mkF np nl keep b ds S) X Q := by with_unfolding_all exact zwE_mkF rho hl he h
end
theorem wE_finP {X : Ex → Sto → Prop} {Q : D → Sto → Prop} {n : Nat} {d : D} {S : Sto} (h : pure d = true) (hn : n ≤ S.length) (hl : (S.take n).all (MO.ltD n) = true) (q : Q d (S.take n)) : wE (fin false n d S) X Q := by with_unfolding_all exact zwE_finP h hn hl q
section
variable {T : Tg} {tt : MB} {elt : ME} {rho : EnvD} {J : Sto → Prop} {P : D → D → Prop} {X : Ex → Sto → Prop}
theorem lc_wp : ∀ {ds : List D} {acc : List D} {S : Sto} {Q : List D → Sto → Prop}, (h : ∀ d ∈ ds, ∀ S, J S → ∃ r, tgSet T d rho = some r ∧ wE (elt r S) (fun _ _ => False) fun y S' => J S' ∧ P d y) → J S → acc.length + ds.length ≤ 16777216 →
    (∀ ys S', All2 P ds ys → J S' → Q (acc ++ ys) S') → wE (foldL none (lcStep T mYes elt rho) ds acc S) X Q := by with_unfolding_all exact zlc_wp
theorem lc_pure {t : D → Bool} {f : D → D} : ∀ {ds : List D} {acc : List D} {S : Sto} {Q : List D → Sto → Prop}, (h : ∀ d ∈ ds, ∃ r, tgSet T d rho = some r ∧ tt r S = .ok (t d) S ∧ (t d = true → elt r S = .ok (f d) S)) → acc.length + ds.length ≤ 16777216 →
    Q (acc ++ (ds.filter t).map f) S → wE (foldL none (lcStep T tt elt rho) ds acc S) X Q := by with_unfolding_all exact zlc_pure
end
theorem loop_wp {step : D → EnvD → Sto → RS} {E : Es} {I : List D → EnvD → Sto → Prop} : ∀ {ds : List D} {rho : EnvD} {S : Sto}, (h : ∀ d rest rho S, I (d :: rest) rho S → wS (step d rho S) ⟨I rest, E.rt, E.nx, I rest, E.ex⟩) → I ds rho S → (∀ rho S, I [] rho S → E.nx rho S) → wS (loopF none step ds rho S) E := by with_unfolding_all exact zloop_wp
theorem wS_mFor {it : MI} {T : Tg} {body : MS} {rho : EnvD} {S : Sto} {E : Es} : wS (mFor it T body rho S) E = wE (it rho S) (fun x S' => E.ex x rho S') fun a S1 => wS (loopF a.1 (fun d r S => match tgSet T d r with
    | some r' => body r' S
    | none => .stuck) a.2 rho S1) E := by with_unfolding_all exact zwS_mFor
theorem wE_mLc {it : MI} {T : Tg} {tt : MB} {elt : ME} {vs : List Nat} {rho : EnvD} {S : Sto} {X : Ex → Sto → Prop} {Q : List D → Sto → Prop} : wE (mLc it T tt elt vs rho S) X Q = wE (it rho S) X fun a S1 => wE (foldL a.1 (lcStep T tt elt (wipeD rho vs)) a.2 [] S1) X Q := by with_unfolding_all exact zwE_mLc
section
variable {A B : Type} {X : Ex → Sto → Prop} {Q : D → Sto → Prop} {QB : Bool → Sto → Prop} {QL : List D → Sto → Prop} {E : Es} {rho : EnvD} {S : Sto} {i : Nat} {a b c : ME} {u v : MB} {t : MA} {l : ML} {g g' : D → D → Sto → R D} {x y : D}
theorem wE_guard {c : Prop} [Decidable c] {r : R A} {Q : A → Sto → Prop} : wE (if c then r else .stuck) X Q = (c ∧ wE r X Q) := by with_unfolding_all exact zwE_guard
theorem w_var : wE (mVar i rho S) X Q = ∃ d, rho[i]? = some (some d) ∧ Q d S := by with_unfolding_all exact zw_var
theorem w_c : wE (mC x rho S) X Q = Q x S := by with_unfolding_all exact zw_c
theorem w_op : wE (mOp2 g a b rho S) X Q = wE (a rho S) X fun x S1 => wE (b rho S1) X fun y S2 => wE (g x y S2) X Q := by with_unfolding_all exact zw_op
theorem w_T : wE (mT a rho S) X QB = wE (a rho S) X fun d S1 => ∃ k, d = .bl k ∧ QB k S1 := by with_unfolding_all exact zw_T
theorem w_chain : wE (mChain g g' a b c rho S) X Q = wE (a rho S) X fun x S1 => wE (b rho S1) X fun y S2 => wE (g x y S2) X fun z S3 => ∃ k, z = .bl k ∧ if k = true then wE (c rho S3) X fun w S4 => wE (g' y w S4) X Q else Q (.bl false) S3 := by with_unfolding_all exact zw_chain
theorem w_tr : wE (mTr a rho S) X QB = wE (a rho S) X fun d S1 => ∃ k, truD S1 d = some k ∧ QB k S1 := by with_unfolding_all exact zw_tr
theorem w_not : wE (mNot u rho S) X QB = wE (u rho S) X fun k S1 => QB (!k) S1 := by with_unfolding_all exact zw_not
theorem w_and : wE (mAnd u v rho S) X QB = wE (u rho S) X fun k S1 => if k = true then wE (v rho S1) X QB else QB false S1 := by with_unfolding_all exact zw_and
theorem w_or : wE (mOr u v rho S) X QB = wE (u rho S) X fun k S1 => if k = true then QB true S1 else wE (v rho S1) X QB := by with_unfolding_all exact zw_or
theorem w_ite : wE (mIte u a b rho S) X Q = wE (u rho S) X fun k S1 => if k = true then wE (a rho S1) X Q else wE (b rho S1) X Q := by with_unfolding_all exact zw_ite
theorem w_andV : wE (mAndV a b rho S) X Q = wE (a rho S) X fun x S1 => ∃ k, truD S1 x = some k ∧ if k = true then wE (b rho S1) X Q else Q x S1 := by with_unfolding_all exact zw_andV
theorem w_orV : wE (mOrV a b rho S) X Q = wE (a rho S) X fun x S1 => ∃ k, truD S1 x = some k ∧ if k = true then Q x S1 else wE (b rho S1) X Q := by with_unfolding_all exact zw_orV
theorem w_notV : wE (mNotV a rho S) X Q = wE (a rho S) X fun x S1 => ∃ k, truD S1 x = some k ∧ Q (.bl (!k)) S1 := by with_unfolding_all exact zw_notV
theorem w_neg : wE (mNeg a rho S) X Q = wE (a rho S) X fun x S1 => ∃ i, x = .int i ∧ Q (.int (-i)) S1 := by with_unfolding_all exact zw_neg
theorem w_nil : wE (mNil rho S) X QL = QL [] S := by with_unfolding_all exact zw_nil
theorem w_cons : wE (mCons a t rho S) X QL = wE (a rho S) X fun x S1 => wE (t rho S1) X fun xs S2 => QL (x :: xs) S2 := by with_unfolding_all exact zw_cons
theorem w_tup : wE (mTup t rho S) X Q = wE (t rho S) X fun ds S1 => ds.length ≤ 16777216 ∧ Q (.tup ds) S1 := by with_unfolding_all exact zw_tup
theorem w_call {f : MF} : wE (mCall f t rho S) X Q = wE (t rho S) X fun ds S1 => wE (f ds S1) X Q := by with_unfolding_all exact zw_call
theorem w_fz : wE (mFz l rho S) X Q = wE (l rho S) X fun ds S1 => Q (.lst ds) S1 := by with_unfolding_all exact zw_fz
theorem w_al : wE (mAl l rho S) X Q = wE (l rho S) X fun ds S1 => Q (.ref S1.length) (S1 ++ [.lst ds]) := by with_unfolding_all exact zw_al
theorem w_disp : wE (mDisp t rho S) X QL = wE (t rho S) X fun ds S1 => ds.length ≤ 16777216 ∧ QL ds S1 := by with_unfolding_all exact zw_disp
theorem w_callL {f : List D → Sto → R (List D)} : wE (mCallL f t rho S) X QL = wE (t rho S) X fun ds S1 => wE (f ds S1) X QL := by with_unfolding_all exact zw_callL
theorem w_R1 {QR : Int × Int → Sto → Prop} : wE (mR1 a rho S) X QR = wE (a rho S) X fun x S1 => ∃ n, x = .int n ∧ QR (0, n) S1 := by with_unfolding_all exact zw_R1
theorem w_R2 {QR : Int × Int → Sto → Prop} : wE (mR2 a b rho S) X QR = wE (a rho S) X fun x S1 => wE (b rho S1) X fun y S2 => ∃ m, x = .int m ∧ ∃ n, y = .int n ∧ QR (m, n) S2 := by with_unfolding_all exact zw_R2
theorem w_rgL {m : MR} : wE (mRgL m rho S) X QL = wE (m rho S) X fun ab S1 => (-16777216 ≤ ab.1 ∧ ab.1 ≤ 16777216 ∧ -16777216 ≤ ab.2 ∧ ab.2 ≤ 16777216 ∧ ab.2 - ab.1 ≤ 16777216) ∧ QL (rgD ab.1 ab.2) S1 := by with_unfolding_all exact zw_rgL
theorem w_rgT {m : MR} : wE (mRgT m rho S) X Q = wE (m rho S) X fun ab S1 => (-16777216 ≤ ab.1 ∧ ab.1 ≤ 16777216 ∧ -16777216 ≤ ab.2 ∧ ab.2 ≤ 16777216 ∧ ab.2 - ab.1 ≤ 16777216) ∧ Q (.tup (rgD ab.1 ab.2)) S1 := by with_unfolding_all exact zw_rgT
theorem w_itR {m : MR} {QI : It0 → Sto → Prop} : wE (mItR m rho S) X QI = wE (m rho S) X fun ab S1 => (-4611686018427387904 ≤ ab.1 ∧ ab.1 < 4611686018427387904 ∧ -4611686018427387904 ≤ ab.2 ∧ ab.2 < 4611686018427387904) ∧ QI (none, rgD ab.1 ab.2) S1 := by with_unfolding_all exact zw_itR
theorem w_isi {T : Ty} : wE (mIsi T a rho S) X Q = wE (a rho S) X fun d S1 => ∃ k, kindD S1 d = some k ∧ Q (.bl (T.has k)) S1 := by with_unfolding_all exact zw_isi
theorem w_met {f : D → List D → Sto → R D} : wE (mMet f a t rho S) X Q = wE (a rho S) X fun d S1 => (lstOf S1 d).isSome = true ∧ wE (t rho S1) X fun ds S2 => wE (f d ds S2) X Q := by with_unfolding_all exact zw_met
theorem w_noP {QP : Option Int → Sto → Prop} : wE (mNoP rho S) X QP = QP none S := by with_unfolding_all exact zw_noP
theorem w_part {QP : Option Int → Sto → Prop} : wE (mPart a rho S) X QP = wE (a rho S) X fun d S1 => ∃ i, d = .int i ∧ QP (some i) S1 := by with_unfolding_all exact zw_part
theorem w_sl {lo hi : MP} : wE (mSl a lo hi rho S) X Q = wE (a rho S) X fun x S1 => wE (lo rho S1) X fun l S2 => wE (hi rho S2) X fun u S3 => wE (opSl x l u S3) X Q := by with_unfolding_all exact zw_sl
theorem w_itV {QI : It0 → Sto → Prop} : wE (mItV a rho S) X QI = wE (a rho S) X fun d S1 => wE (match d with | .tup ds => .ok (none, ds) S1 | .lst ds => .ok (none, ds) S1 | .ref n => (match S1[n]? with | some (.lst ds) => .ok (some (n, ds), ds) S1 | _ => .stuck) | _ => (.stuck : R It0)) X QI := by with_unfolding_all exact zw_itV
theorem w_itE {QI : It0 → Sto → Prop} : wE (mItE a rho S) X QI = wE (a rho S) X fun d S1 => wE (match d with | .tup ds => .ok (none, enumD 0 ds) S1 | .lst ds => .ok (none, enumD 0 ds) S1 | .ref n => (match S1[n]? with | some (.lst ds) => .ok (some (n, ds), enumD 0 ds) S1 | _ => .stuck) | _ => (.stuck : R It0)) X QI := by with_unfolding_all exact zw_itE
theorem w_itZ {QI : It0 → Sto → Prop} : wE (mItZ a b rho S) X QI = wE (a rho S) X fun d S1 => wE (b rho S1) X fun e S2 => wE (match d, e with | .tup ds, .tup es => .ok (none, zipD ds es) S2 | .lst ds, .lst es => .ok (none, zipD ds es) S2 | _, _ => (.stuck : R It0)) X QI := by with_unfolding_all exact zw_itZ
theorem w_repL : wE (mRepL t b rho S) X QL = wE (t rho S) X fun ds S1 => ds.length ≤ 16777216 ∧ wE (b rho S1) X fun y S2 => ∃ k, y = .int k ∧ (ds.length * k.toNat ≤ 16777216 ∧ -1000000 ≤ k ∧ k ≤ 1000000) ∧ QL (List.replicate k.toNat ds).flatten S2 := by with_unfolding_all exact zw_repL
variable {m n : Int} {xs ys : List D} {C : Int → Int → Bool} {h : Int → Int → Int} {hc : Int → Int → Bool} {s1 s2 : Str} {neg : Bool}
theorem o_addI : wE (opAdd (.int m) (.int n) S) X Q = Q (.int (m + n)) S := by with_unfolding_all exact zo_addI
theorem o_addT : wE (opAdd (.tup xs) (.tup ys) S) X Q = (xs.length + ys.length ≤ 16777216 ∧ Q (.tup (xs ++ ys)) S) := by with_unfolding_all exact zo_addT
theorem o_addL : wE (opAdd (.lst xs) (.lst ys) S) X Q = (xs.length + ys.length ≤ 16777216 ∧ Q (.lst (xs ++ ys)) S) := by with_unfolding_all exact zo_addL
theorem o_sub : wE (opSub (.int m) (.int n) S) X Q = Q (.int (m - n)) S := by with_unfolding_all exact zo_sub
theorem o_I : wE (opI C h (.int m) (.int n) S) X Q = (C m n = true ∧ Q (.int (h m n)) S) := by with_unfolding_all exact zo_I
theorem o_mulI : wE (opMul (.int m) (.int n) S) X Q = (cMul m n = true ∧ Q (.int (m * n)) S) := by with_unfolding_all exact zo_mulI
theorem o_mulT : wE (opMul (.tup xs) (.int n) S) X Q = ((0 < xs.length ∧ xs.length ≤ 1000 ∧ 2 ≤ n ∧ n ≤ 1000) ∧ Q (.tup (List.replicate n.toNat xs).flatten) S) := by with_unfolding_all exact zo_mulT
theorem o_B : wE (opB h (.int m) (.int n) S) X Q = Q (.int (h m n)) S := by with_unfolding_all exact zo_B
theorem o_C : wE (opC hc (.int m) (.int n) S) X Q = Q (.bl (hc m n)) S := by with_unfolding_all exact zo_C
theorem o_is : wE (opIs neg x .non S) X Q = Q (.bl (if neg = true then !isNon x else isNon x)) S := by with_unfolding_all exact zo_is
theorem o_eq : wE (opEq neg x y S) X Q = ((okD (seen S x) = true ∧ okD (seen S y) = true ∧ dpD (seen S x) ≤ 64 ∧ dpD (seen S y) ≤ 64) ∧ Q (.bl (if neg = true then !eqD (seen S x) (seen S y) else eqD (seen S x) (seen S y))) S) := by with_unfolding_all exact zo_eq
theorem o_eqI : wE (opEq neg (.int m) (.int n) S) X Q = Q (.bl (if neg = true then !(m == n) else m == n)) S := by with_unfolding_all exact zo_eqI
theorem o_ixT : wE (opIx (.tup xs) (.int m) S) X Q = ∃ d, atI xs m = some d ∧ Q d S := by with_unfolding_all exact zo_ixT
theorem o_ixL : wE (opIx (.lst xs) (.int m) S) X Q = ∃ d, atI xs m = some d ∧ Q d S := by with_unfolding_all exact zo_ixL
theorem o_ixR {k : Nat} : wE (opIx (.ref k) (.int m) S) X Q = ∃ ds, S[k]? = some (.lst ds) ∧ ∃ d, atI ds m = some d ∧ Q d S := by with_unfolding_all exact zo_ixR
theorem o_slT {lo hi : Option Int} : wE (opSl (.tup xs) lo hi S) X Q = Q (.tup (cutD xs lo hi)) S := by with_unfolding_all exact zo_slT
theorem o_slL {lo hi : Option Int} : wE (opSl (.lst xs) lo hi S) X Q = Q (.lst (cutD xs lo hi)) S := by with_unfolding_all exact zo_slL
theorem f_lenT : wE (fLen [.tup xs] S) X Q = Q (.int xs.length) S := by with_unfolding_all exact zf_lenT
theorem f_lenL : wE (fLen [.lst xs] S) X Q = Q (.int xs.length) S := by with_unfolding_all exact zf_lenL
theorem f_abs : wE (fAbs [.int m] S) X Q = Q (.int (if m < 0 then -m else m)) S := by with_unfolding_all exact zf_abs
theorem f_int : wE (fInt [.int m] S) X Q = Q (.int m) S := by with_unfolding_all exact zf_int
theorem f_tupL : wE (fTuple [.lst xs] S) X Q = Q (.tup xs) S := by with_unfolding_all exact zf_tupL
theorem f_tupT : wE (fTuple [.tup xs] S) X Q = Q (.tup xs) S := by with_unfolding_all exact zf_tupT
theorem f_listT : wE (gList [.tup xs] S) X QL = QL xs S := by with_unfolding_all exact zf_listT
theorem f_listL : wE (gList [.lst xs] S) X QL = QL xs S := by with_unfolding_all exact zf_listL
theorem f_listS {ns : List Int} : wE (gList [.scr ns] S) X QL = QL (ns.map .int) S := by with_unfolding_all exact zf_listS
theorem f_all {bs : List Bool} : wE (fAll [.lst (bs.map D.bl)] S) X Q = Q (.bl (bs.all id)) S := by with_unfolding_all exact zf_all
theorem f_any {bs : List Bool} : wE (fAny [.lst (bs.map D.bl)] S) X Q = Q (.bl (bs.any id)) S := by with_unfolding_all exact zf_any
theorem f_sum {bs : List Int} : wE (fSum [.lst (bs.map D.int)] S) X Q = Q (.int bs.sum) S := by with_unfolding_all exact zf_sum
theorem f_sorted {bs : List Int} : wE (gSorted [.lst (bs.map D.int)] S) X QL = QL ((sortI bs).map .int) S := by with_unfolding_all exact zf_sorted
theorem f_append {k : Nat} : wE (gAppend (.ref k) [x] S) X Q = ∃ us, S[k]? = some (.lst us) ∧ us.length < 16777216 ∧ Q .non (S.set k (.lst (us ++ [x]))) := by with_unfolding_all exact zf_append
theorem f_extendL {k : Nat} : wE (gExtend (.ref k) [.lst xs] S) X Q = ∃ us, S[k]? = some (.lst us) ∧ us.length + xs.length ≤ 16777216 ∧ Q .non (S.set k (.lst (us ++ xs))) := by with_unfolding_all exact zf_extendL
end
end DL

namespace DL
open PySem PySem.Spec PyProof.Rows L2
section
variable {T : Tg} {elt : ME} {rho : EnvD} {X : Ex → Sto → Prop} {ds : List D} {S : Sto}
/-- a comprehension that changes nothing -/
theorem map_wp {f : D → D} {QL : List D → Sto → Prop} (h : ∀ d ∈ ds, ∃ r, tgSet T d rho = some r ∧ ∀ (X : Ex → Sto → Prop) (Q : D → Sto → Prop), Q (f d) S → wE (elt r S) X Q) (hl : ds.length ≤ 16777216) (q : QL (ds.map f) S) : wE (foldL none (lcStep T mYes elt rho) ds [] S) X QL := by
  refine lc_wp (J := fun S' => S' = S) (P := fun d y => y = f d) (fun d hd S1 hS => ?_) rfl (by simpa using hl) fun ys S' hy hS => ?_
  · obtain ⟨r, er, hw⟩ := h d hd
    subst hS
    exact ⟨r, er, hw _ _ ⟨rfl, rfl⟩⟩
  · rw [all2_map hy]; subst hS; simpa using q
/-- all([..]) -/
theorem all_wp {f : D → Bool} {Q : D → Sto → Prop} (h : ∀ d ∈ ds, ∃ r, tgSet T d rho = some r ∧ ∀ (X : Ex → Sto → Prop) (Q : D → Sto → Prop), Q (.bl (f d)) S → wE (elt r S) X Q) (hl : ds.length ≤ 16777216) (q : Q (.bl (ds.all f)) S) : wE (foldL none (lcStep T mYes elt rho) ds [] S) X fun ys S' => wE (fAll [.lst ys] S') X Q := by
  refine map_wp (f := fun d => .bl (f d)) h hl ?_
  rw [show ds.map (fun d => D.bl (f d)) = (ds.map f).map D.bl by rw [List.map_map]; rfl, f_all]
  rw [show (ds.map f).all id = ds.all f by rw [List.all_map]; rfl]
  exact q
/-- any([..]) -/
theorem any_wp {f : D → Bool} {Q : D → Sto → Prop} (h : ∀ d ∈ ds, ∃ r, tgSet T d rho = some r ∧ ∀ (X : Ex → Sto → Prop) (Q : D → Sto → Prop), Q (.bl (f d)) S → wE (elt r S) X Q) (hl : ds.length ≤ 16777216) (q : Q (.bl (ds.any f)) S) : wE (foldL none (lcStep T mYes elt rho) ds [] S) X fun ys S' => wE (fAny [.lst ys] S') X Q := by
  refine map_wp (f := fun d => .bl (f d)) h hl ?_
  rw [show ds.map (fun d => D.bl (f d)) = (ds.map f).map D.bl by rw [List.map_map]; rfl, f_any]
  rw [show (ds.map f).any id = ds.any f by rw [List.any_map]; rfl]
  exact q
/-- a comprehension whose store has a form: every element has a property -/
theorem mem_wp {J : Sto → Prop} {P : D → Prop} {QL : List D → Sto → Prop} (h : ∀ d ∈ ds, ∀ S, J S → ∃ r, tgSet T d rho = some r ∧ wE (elt r S) (fun _ _ => False) fun y S' => J S' ∧ P y) (hJ : J S) (hl : ds.length ≤ 16777216) (q : ∀ ys S', ys.length = ds.length → (∀ y ∈ ys, P y) → J S' → QL ys S') : wE (foldL none (lcStep T mYes elt rho) ds [] S) X QL := by
  refine lc_wp (J := J) (P := fun _ y => P y) h hJ (by simpa using hl) fun ys S' hy hS => ?_
  rw [List.nil_append]
  exact q ys S' hy.length_eq.symm (fun y hy' => let ⟨_, _, p⟩ := all2_mem hy y hy'; p) hS
end
theorem enumD_mem {ds : List D} {x : D} (h : x ∈ enumD 0 ds) : ∃ (i : Nat) (d : D), x = .tup [.int i, d] ∧ ds[i]? = some d := by
  obtain ⟨i, hi, e⟩ := List.mem_iff_getElem.mp h
  obtain ⟨d, e1, e2⟩ := enumD_get 0 ds i x (by rw [List.getElem?_eq_getElem hi, e])
  exact ⟨i, d, by rw [e2, Nat.zero_add], e1⟩
theorem atI_nat' {α : Type} {xs : List α} {i : Nat} : atI xs (i : Int) = xs[i]? := by
  unfold atI ixN
  rw [if_pos (by omega)]
  by_cases h : i < xs.length
  · rw [if_pos (by omega)]; simp
  · rw [if_neg (by omega), List.getElem?_eq_none (by omega)]; rfl
/-! one statement, then the rest -/
theorem sq_cut {a b : MS} {rho : EnvD} {S : Sto} {E : Es} (P : EnvD → Sto → Prop) (h : wS (a rho S) ⟨P, E.rt, E.bk, E.ct, fun _ _ _ => False⟩) (k : ∀ r S', P r S' → wS (b r S') E) : wS (mSeq a b rho S) E := by
  rw [wS_mSeq]
  generalize a rho S = r at h ⊢
  cases r with
  | nx r S' => rw [wS_nx] at h ⊢; exact k _ _ h
  | rt d S' => rw [wS_rt] at h ⊢; exact h
  | bk r S' => rw [wS_z] at h ⊢; exact h
  | ct r S' => rw [wS_z] at h ⊢; exact h
  | exc x r S' => rw [wS_z] at h; exact False.elim h
  | stuck => rw [wS_stuck] at h; exact h.elim
theorem sq_set {i : Nat} {m : ME} {b : MS} {rho : EnvD} {S : Sto} {E : Es} (P : D → Sto → Prop) (h : wE (m rho S) (fun _ _ => False) P) (k : ∀ d S', P d S' → wS (b (rho.set i (some d)) S') E) : wS (mSeq (mSet i m) b rho S) E := by
  rw [wS_mSeq, wS_mSet]
  exact wE_calm h fun d S' p => k d S' p
theorem sq_drop {m : ME} {b : MS} {rho : EnvD} {S : Sto} {E : Es} (P : Sto → Prop) (h : wE (m rho S) (fun _ _ => False) fun _ S' => P S') (k : ∀ S', P S' → wS (b rho S') E) : wS (mSeq (mDrop m) b rho S) E := by
  rw [wS_mSeq, wS_mDrop]
  exact wE_calm h fun d S' p => k S' p
/-! slices -/
theorem cut_lo {ds : List D} {i : Int} (h : 0 ≤ i) : cutD ds none (some i) = ds.take i.toNat := by
  unfold cutD HT.sIx
  simp only [List.drop_zero]
  rw [if_neg (by omega), Nat.sub_zero]
  by_cases c : i.toNat ≤ ds.length
  · rw [Nat.min_eq_left c]
  · rw [Nat.min_eq_right (by omega), List.take_length, List.take_of_length_le (by omega)]
theorem cut_hi {ds : List D} {i : Int} (h : 0 ≤ i) : cutD ds (some i) none = ds.drop i.toNat := by
  unfold cutD HT.sIx
  simp only [if_neg (show ¬ i < 0 by omega)]
  by_cases c : i.toNat ≤ ds.length
  · rw [Nat.min_eq_left c, List.take_of_length_le (by simp)]
  · rw [Nat.min_eq_right (by omega), List.drop_length, List.drop_of_length_le (by omega)]; simp
end DL

namespace DL
open PySem PySem.Spec PyProof.Rows L2
/-! ### what is not covered and not reached -/
section
variable {X : Cx} {W : WX} {st : Stmt} {e : Expr}
def mStk : MS := fun _ _ => .stuck
def mStkE : ME := fun _ _ => .stuck
end
/-! ### comprehensions with two fors, the second one over a range -/
def relF (G : GC) (H : Hp) (p : Pl) (a : It0) (J : It) : Prop := a.1 = none ∧ ((∀ q H', Turns G.K q H' a.2 J) ∨ ∃ ad xs, J = Itt G.K ad ∧ SqT G.K H ad xs ∧ RepL G.K H p a.2 xs)
def DIF (X : Cx) (W : WX) (tg e : Expr) (m : MI) : Prop := PI X tg e (rd relF (gOf X) W m)
theorem relF_rng {G : GC} {H : Hp} {p : Pl} {a b : Int} : relF G H p (none, rgD a b) (Itr a (b - a).toNat) := ⟨rfl, .inl fun q H' =>
  { go := fun i d h => (rgD_get h).2
    yld := fun i d v H2 h y => by
      obtain ⟨rfl, rfl⟩ := y
      obtain ⟨rfl, _⟩ := rgD_get h
      exact ⟨fun _ _ z => z, rfl⟩
    stop := by show (b - a).toNat ≤ (rgD a b).length; rw [rgD_length]; exact Nat.le_refl _ }⟩
section
variable {X : Cx} {W : WX} {tg : Expr} {p0 pos : Pos}
theorem dif_rng1 {a : Expr} {ma : ME} (hm : X.mg "range" = none) (ha : DE X W a ma) (hg : Gl X "range" := by rfl) (hs : starEach [a] X.env = [(false, eval a X.env)] := by rfl) (hs' : starEach [a] X.env = (false, eval a X.env) :: starEach [] X.env := by rfl) :
    DIF X W tg (.Call (.Name "range" p0) [a] [] pos) (mItR (mR1 ma)) :=
  pi_imp (pi_range1 hg hm (da_cons ha da_nil hs') hs) fun sig H Rr ⟨p, S, rho, hs, hr, h⟩ => by
    refine rd_use (Q := Rr) (rel := fun G => RepL G.K) (rel' := relF) (m := mCons ma mNil) (k := fun ds S1 => match ds with
      | [.int n] => if -4611686018427387904 ≤ n ∧ n < 4611686018427387904 then .ok (none, rgD 0 n) S1 else .stuck
      | _ => .stuck) hs hr ?_ fun ds S1 q H1 vs x s1 e1 r1 h1 => ?_
    · unfold mItR mR1 at h
      unfold mCons mNil
      cases hm : ma rho S with
      | ok d S1 =>
        rw [hm] at h
        cases d with
        | int n =>
          have h : Post (relF (gOf X)) (gOf X) p H _ Rr (if -4611686018427387904 ≤ (0 : Int) ∧ (0 : Int) < 4611686018427387904 ∧ -4611686018427387904 ≤ n ∧ n < 4611686018427387904 then R.ok (none, rgD 0 n) S1 else .stuck) := h
          show Post (relF (gOf X)) (gOf X) p H _ Rr (if -4611686018427387904 ≤ n ∧ n < 4611686018427387904 then R.ok (none, rgD 0 n) S1 else .stuck)
          by_cases c : -4611686018427387904 ≤ n ∧ n < 4611686018427387904
          · rw [if_pos c]; rw [if_pos ⟨by decide, by decide, c⟩] at h; exact h
          · rw [if_neg (fun z => c z.2.2)] at h; exact h.elim
        | _ => exact h.elim
      | exc x S1 => rw [hm] at h; exact h
      | stuck => rw [hm] at h; exact h.elim
    · split at h1
      · rename_i n
        split at h1
        · rename_i c
          obtain ⟨v, rfl, r2⟩ := r1.one
          cases (show v = .int n from r2)
          refine ⟨n, rfl, by omega, by omega, h1 q H1 _ Ext.refl s1 ?_⟩
          have z := relF_rng (G := gOf X) (H := H1) (p := q) (a := 0) (b := n)
          rw [show n - 0 = n by omega] at z
          exact z
        · exact h1.elim
      · exact h1.elim
end
def mItT (m : ME) : MI := fun rho S => (m rho S).bind fun d S1 => match d with
  | .tup ds => .ok (none, ds) S1
  | _ => .stuck
noncomputable def lc2Step (T : Tg) (tt : MB) (it1 : MI) (T1 : Tg) (tt1 : MB) (elt : ME) (vs1 : List Nat) (rho : EnvD) (d : D) (acc : List D) (S : Sto) : R (List D) := match tgSet T d rho with
  | some r => match tt r S with
    | .ok b S1 => if b = true then (match it1 r S1 with
      | .ok a S2 => foldL none (lcStep T1 tt1 elt (wipeD r vs1)) a.2 acc S2
      | _ => .stuck) else .ok acc S1
    | _ => .stuck
  | none => .stuck
noncomputable def mLc2 (it : MI) (T : Tg) (tt : MB) (it1 : MI) (T1 : Tg) (tt1 : MB) (elt : ME) (vs vs1 : List Nat) : ML := fun rho S => (it rho S).bind fun a S1 => foldL a.1 (lc2Step T tt it1 T1 tt1 elt vs1 (wipeD rho vs)) a.2 [] S1
theorem foldL_cons {step : D → List D → Sto → R (List D)} {d : D} {ds acc : List D} {S : Sto} : foldL none step (d :: ds) acc S = match step d acc S with
    | .ok acc' S' => foldL none step ds acc' S'
    | _ => .stuck := by
  rw [foldL, if_pos grd_none] <;> cases step d acc S <;> rfl
theorem foldL_nil {step : D → List D → Sto → R (List D)} {acc : List D} {S : Sto} : foldL none step [] acc S = .ok acc S := by
  rw [foldL, if_pos grd_none]
def thenF (k : List D → Sto → R (List D)) (r : R (List D)) : R (List D) := match r with
  | .ok acc S => k acc S
  | _ => .stuck
theorem rd_lc2 {G : GC} {W : WX} {it it1 : MI} {T T1 : Tg} {tt tt1 : MB} {elt : ME} {vs vs1 : List Nat} {sig : L2.St} {H : Hp} {Q : VK} (hT : T.all (fun i => vs.contains i) = true) (hT1 : T1.all (fun i => vs1.contains i) = true) (h : dF G W (mLc2 it T tt it1 T1 tt1 elt vs vs1) sig H Q) :
    tLc2 (dI G W it) (gOfT G.K T) (dB G W0 tt) (rd relF G W0 it1) (gOfT G.K T1) (dB G W0 tt1) (dE G W0 elt) vs vs1 sig H Q := by
  obtain ⟨p, S, rho, hs, hr, h⟩ := h
  show dI G W it sig H _
  have h : Post (fun H p => RepL G.K H p) G p H (fun c d H' => W c d sig H') _ ((it rho S).bind fun a S1 => foldL a.1 (lc2Step T tt it1 T1 tt1 elt vs1 (wipeD rho vs)) a.2 [] S1) := h
  refine rd_use (rel := relI) (rel' := fun G H p => RepL G.K H p) hs hr h fun a S1 q H1 J x s1 e1 r1 h1 => ?_
  obtain ⟨g, ds⟩ := a
  intro b hb
  generalize hst : lc2Step T tt it1 T1 tt1 elt vs1 (wipeD rho vs) = step at h1
  refine ⟨fun i m Hx => m = ds.length - i ∧ i ≤ ds.length ∧ ∃ q2 S2 acc, LcAt G q H1 b (wipeD rho vs) (wipe sig vs) q2 S2 acc Hx ∧ Post (fun H p => RepL G.K H p) G q2 (L2.del Hx b) (fun c d H' => W c d sig H') (fun xs H' => ∀ a, H' a = none → Q (.ref a) (upd H' a (.lst xs))) (foldL g step (ds.drop i) acc S2), ⟨ds.length, by simp, Nat.zero_le _, q, S1, [], ⟨?_, ?_, ?_, [], upd_same, RepL.nil⟩, ?_⟩, ?_⟩
  · rw [del_upd, del_none hb]; exact Ext.refl
  · rw [del_upd, del_none hb]; exact s1
  · rw [del_upd, del_none hb]; exact e1.wipe vs
  · rw [del_upd, del_none hb]; exact h1
  rintro i m Hx ⟨rfl, hi, q2, S2, acc, A, h2⟩
  by_cases hlt : i < ds.length
  · have ed : ds[i]? = some ds[i] := List.getElem?_eq_getElem hlt
    rw [drop_cons ed] at h2
    unfold foldL at h2
    by_cases hgr : Grd g S2
    · rw [if_pos hgr] at h2
      have t := A.turns hb r1 hgr
      refine .inr ⟨t.go i _ ed, fun H' => ∃ q3 S3 acc3, LcAt G q H1 b (wipeD rho vs) (wipe sig vs) q3 S3 acc3 H' ∧ Post (fun H p => RepL G.K H p) G q3 (L2.del H' b) (fun c d H' => W c d sig H') (fun xs H' => ∀ a, H' a = none → Q (.ref a) (upd H' a (.lst xs))) (foldL g step (ds.drop (i + 1)) acc3 S3), fun H' z => ⟨ds.length - (i + 1), by omega, rfl, hlt, z⟩, fun v H' y => ?_⟩
      obtain ⟨sm, rv⟩ := t.yld i _ v H' ed y
      obtain ⟨us, hbx, _⟩ := A.l
      have x3 : Ext (q2.hide b) Hx (q2.hide b) H' := Ext.of_same sm
      have s3 : StRel G.K (q2.hide b) S2 H' := (A.s.hide hbx).same sm
      have e3 : EnvRel G.K H' (q2.hide b) (wipeD rho vs) (wipe sig vs) := EnvRel.ext (A.s.hide hbx) x3 A.e.hide
      have h2 : Post (fun H p => RepL G.K H p) G q2 (L2.del Hx b) (fun c d H' => W c d sig H') (fun xs H' => ∀ a, H' a = none → Q (.ref a) (upd H' a (.lst xs))) (thenF (foldL g step (ds.drop (i + 1))) (step ds[i] acc S2)) := h2
      have hs2 : step ds[i] acc S2 = lc2Step T tt it1 T1 tt1 elt vs1 (wipeD rho vs) ds[i] acc S2 := by rw [hst]
      rw [hs2] at h2
      unfold lc2Step at h2
      cases et : tgSet T ds[i] (wipeD rho vs) with
      | none => simp only [et] at h2; exact h2.elim
      | some r' =>
        simp only [et] at h2
        obtain ⟨sg', a1, a2, a3⟩ := tg_rep T ds[i] v (wipeD rho vs) r' (wipe sig vs) e3 rv et
        refine a3 _ ⟨by rw [a2 vs hT, wipe_wipe], ?_⟩
        refine ⟨q2.hide b, S2, r', s3, a1, ?_⟩
        cases em : tt r' S2 with
        | ok k S3 =>
          simp only [em] at h2
          intro q4 H4 k' x4 s4 r4
          have rk : k = k' := r4
          subst rk
          cases k with
          | true =>
            rw [if_pos rfl] at h2 ⊢
            have e4 := EnvRel.ext s3 x4 a1
            refine ⟨q4, S3, r', s4, e4, ?_⟩
            cases ei : it1 r' S3 with
            | ok a S4 =>
              obtain ⟨g1, ds1⟩ := a
              simp only [ei] at h2
              intro q5 H5 J1 x5 s5 rF
              obtain ⟨rg, rT⟩ := rF
              have X5 := x3.trans (x4.trans x5)
              have A5 := A.go X5 s5
              have y5 : Ext q2 (L2.del Hx b) (q5.unhide b) (L2.del H5 b) := X5.unhide A.hn
              have hb5 : H5 b = some (.lst us) := X5.keep b _ hbx fun z => by
                obtain ⟨o, e, _⟩ := A.s.has z
                exact (del_some e).1 rfl
              have e5 : EnvRel G.K (L2.del H5 b) (q5.unhide b) r' sg' := EnvRel.unhide free_lst hb5 (X5.hid1 b (.inl rfl)) (EnvRel.ext s4 x5 e4)
              refine ⟨fun j k Hy => k = ds1.length - j ∧ j ≤ ds1.length ∧ ∃ q6 S6 acc6, LcAt G q H1 b (wipeD rho vs) (wipe sig vs) q6 S6 acc6 Hy ∧ Ext (q5.unhide b) (L2.del H5 b) q6 (L2.del Hy b) ∧ EnvRel G.K (L2.del Hy b) q6 r' sg' ∧ Post (fun H p => RepL G.K H p) G q6 (L2.del Hy b) (fun c d H' => W c d sig H') (fun xs H' => ∀ a, H' a = none → Q (.ref a) (upd H' a (.lst xs))) (thenF (foldL g step (ds.drop (i + 1))) (foldL none (lcStep T1 tt1 elt (wipeD r' vs1)) (ds1.drop j) acc6 S6)), ⟨ds1.length, by simp, Nat.zero_le _, q5.unhide b, S4, acc, A5, Ext.refl, e5, Post.base y5 h2⟩, ?_⟩
              rintro j k Hy ⟨rfl, hj, q6, S6, acc6, A6, Y6, e6, h6⟩
              obtain ⟨us6, hb6, _⟩ := A6.l
              have t1 : Turns G.K (q6.hide b) Hy ds1 J1 := by
                rcases rT with rT | ⟨ad, xs1, rfl, ht1, l1⟩
                · exact rT _ _
                · have hq5 : q5.hid b := X5.hid1 b (.inl rfl)
                  exact turns_tup (sqT_hide (sqT_ext A5.s Y6 (sqT_unhide free_lst hb5 ht1))) (RepL.hide _ _ (RepL.ext A5.s Y6 _ _ (RepL.unhide free_lst hb5 hq5 _ _ l1)))
              by_cases hlt1 : j < ds1.length
              · have ed1 : ds1[j]? = some ds1[j] := List.getElem?_eq_getElem hlt1
                rw [drop_cons ed1, foldL_cons] at h6
                refine .inr ⟨t1.go j _ ed1, fun H' => ∃ q7 S7 acc7, LcAt G q H1 b (wipeD rho vs) (wipe sig vs) q7 S7 acc7 H' ∧ Ext (q5.unhide b) (L2.del H5 b) q7 (L2.del H' b) ∧ EnvRel G.K (L2.del H' b) q7 r' sg' ∧ Post (fun H p => RepL G.K H p) G q7 (L2.del H' b) (fun c d H' => W c d sig H') (fun xs H' => ∀ a, H' a = none → Q (.ref a) (upd H' a (.lst xs))) (thenF (foldL g step (ds.drop (i + 1))) (foldL none (lcStep T1 tt1 elt (wipeD r' vs1)) (ds1.drop (j + 1)) acc7 S7)), fun H' z => ⟨ds1.length - (j + 1), by omega, rfl, hlt1, z⟩, fun v1 H7 y1 => ?_⟩
                obtain ⟨sm1, rv1⟩ := t1.yld j _ v1 H7 ed1 y1
                have x7 : Ext (q6.hide b) Hy (q6.hide b) H7 := Ext.of_same sm1
                have s7 : StRel G.K (q6.hide b) S6 H7 := (A6.s.hide hb6).same sm1
                have e7 : EnvRel G.K H7 (q6.hide b) (wipeD r' vs1) (wipe sg' vs1) := EnvRel.ext (A6.s.hide hb6) x7 (e6.wipe vs1).hide
                unfold lcStep at h6
                cases et1 : tgSet T1 ds1[j] (wipeD r' vs1) with
                | none => simp only [et1] at h6; exact h6.elim
                | some r8 =>
                  simp only [et1] at h6
                  obtain ⟨sg8, b1, b2, b3⟩ := tg_rep T1 ds1[j] v1 (wipeD r' vs1) r8 (wipe sg' vs1) e7 rv1 et1
                  refine b3 _ ⟨by rw [b2 vs1 hT1, wipe_wipe], ?_⟩
                  refine ⟨q6.hide b, S6, r8, s7, b1, ?_⟩
                  cases em1 : tt1 r8 S6 with
                  | ok k1 S9 =>
                    simp only [em1] at h6
                    intro q9 H9 k9 x9 s9 r9
                    have rk1 : k1 = k9 := r9
                    subst rk1
                    cases k1 with
                    | true =>
                      rw [if_pos rfl] at h6 ⊢
                      refine ⟨q9, S9, r8, s9, EnvRel.ext s7 x9 b1, ?_⟩
                      unfold lcPush at h6
                      cases ee : elt r8 S9 with
                      | ok z S10 =>
                        simp only [ee] at h6
                        intro q10 H10 w x10 s10 r10
                        by_cases c : acc6.length < 16777216
                        · rw [if_pos c] at h6
                          have X10 := x7.trans (x9.trans x10)
                          obtain ⟨us10, hb10, l10, A10⟩ := A6.push X10 s10 r10
                          have y10 : Ext q6 (L2.del Hy b) (q10.unhide b) (L2.del H10 b) := X10.unhide A6.hn
                          refine ⟨us10, hb10, by rw [l10]; exact lineL c, q10.unhide b, S10, acc6 ++ [z], A10, by rw [del_upd]; exact Y6.trans y10, ?_, ?_⟩
                          · rw [del_upd]; exact EnvRel.ext A6.s y10 e6
                          · rw [del_upd]; exact Post.base y10 h6
                        · rw [if_neg c] at h6; exact h6.elim
                      | exc e S4 => simp only [ee] at h6; exact h6.elim
                      | stuck => simp only [ee] at h6; exact h6.elim
                    | false =>
                      rw [if_neg Bool.false_ne_true] at h6 ⊢
                      have X9 := x7.trans x9
                      have y9 : Ext q6 (L2.del Hy b) (q9.unhide b) (L2.del H9 b) := X9.unhide A6.hn
                      exact ⟨q9.unhide b, S9, acc6, A6.go X9 s9, Y6.trans y9, EnvRel.ext A6.s y9 e6, Post.base y9 h6⟩
                  | exc e S3 => simp only [em1] at h6; exact h6.elim
                  | stuck => simp only [em1] at h6; exact h6.elim
              · have ej : j = ds1.length := by omega
                subst ej
                rw [List.drop_length, foldL_nil] at h6
                exact .inl ⟨t1.stop, q6, S6, acc6, A6, h6⟩
            | exc e S4 => simp only [ei] at h2; exact h2.elim
            | stuck => simp only [ei] at h2; exact h2.elim
          | false =>
            rw [if_neg Bool.false_ne_true] at h2 ⊢
            have y4 : Ext q2 (L2.del Hx b) (q4.unhide b) (L2.del H4 b) := (x3.trans x4).unhide A.hn
            exact ⟨q4.unhide b, S3, acc, A.go (x3.trans x4) s4, Post.base y4 h2⟩
        | exc e S3 => simp only [em] at h2; exact h2.elim
        | stuck => simp only [em] at h2; exact h2.elim
    · rw [if_neg hgr] at h2; exact h2.elim
  · have ei : i = ds.length := by omega
    subst ei
    rw [List.drop_length] at h2
    unfold foldL at h2
    by_cases hgr : Grd g S2
    · rw [if_pos hgr] at h2
      obtain ⟨us, hbx, l⟩ := A.l
      refine .inl ⟨(A.turns hb r1 hgr).stop, ?_⟩
      have z := h2 q2 _ us Ext.refl A.s l b L2.del_same
      rw [upd_del hbx] at z
      exact z
    · rw [if_neg hgr] at h2; exact h2.elim
section
variable {X : Cx} {W : WX} {elt tg iter tg1 iter1 : Expr} {ifs ifs1 : List Expr} {scope : Scope} {own : List (Str × Nat)} {pos : Pos} {it it1 : MI} {T T1 : Tg} {tt tt1 : MB} {m : ME}
theorem ds_setLc2 (i : Nat) (own : List (Str × Nat)) (vs1 : List Nat) {y : Str} {py spos : Pos} (hc : X.calm = true) (hN : X.N.Nodup) (hi : DI X W tg iter it) (ok : BlkOk X.N X.env.scope scope own)
    (hg : ∀ (s : Shared) (H : Hp) (C : Addr) (cl : List (Str × Addr)) (fp : List Addr), DG (X.blk s H scope (compEnvC scope cl C X.env) fp) tg T) (ht : ∀ (s : Shared) (H : Hp) (C : Addr) (cl : List (Str × Addr)) (fp : List Addr), DTs (X.blk s H scope (compEnvC scope cl C X.env) fp) W0 ifs tt)
    (hi1 : ∀ (s : Shared) (H : Hp) (C : Addr) (cl : List (Str × Addr)) (fp : List Addr), DIF (X.blk s H scope (compEnvC scope cl C X.env) fp) W0 tg1 iter1 it1)
    (hg1 : ∀ (s : Shared) (H : Hp) (C : Addr) (cl : List (Str × Addr)) (fp : List Addr), DG (X.blk s H scope (compEnvC scope cl C X.env) fp) tg1 T1) (ht1 : ∀ (s : Shared) (H : Hp) (C : Addr) (cl : List (Str × Addr)) (fp : List Addr), DTs (X.blk s H scope (compEnvC scope cl C X.env) fp) W0 ifs1 tt1)
    (he : ∀ (s : Shared) (H : Hp) (C : Addr) (cl : List (Str × Addr)) (fp : List Addr), DE (X.blk s H scope (compEnvC scope cl C X.env) fp) W0 elt m) (f : ML → ME) (hf : f = mFz ∨ f = mAl) (hy : X.N[i]? = some y := by rfl) (hyl : X.env.scope.names.lookup y = some .local := by rfl)
    (hsw : swapsWith (.ListComp elt [⟨tg, iter, ifs, 0⟩, ⟨tg1, iter1, ifs1, 0⟩] scope pos) (some (.Name y py)) spos.line X.env = Pure.pure true := by exact sw_true rfl rfl rfl (by decide +kernel))
    (hT : T.all (fun i => (own.map (·.2)).contains i) = true := by rfl) (hT1 : T1.all (fun i => vs1.contains i) = true := by rfl) (hv : ∀ i ∈ vs1, i ∈ own.map (·.2) := by decide)
    (hs : ∀ x, foldedSetIterable iter X.env x = Pure.pure x := by intro _; rfl) (hs1 : ∀ env x, foldedSetIterable iter1 env x = Pure.pure x := by intro _ _; rfl) :
    DS X W (.Assign [.Name y py] (.ListComp elt [⟨tg, iter, ifs, 0⟩, ⟨tg1, iter1, ifs1, 0⟩] scope pos) spos) (mSet i (f (mLc2 it T tt it1 T1 tt1 m (own.map (·.2)) vs1))) :=
  ps_imp (L2.ps_setLc2 (g := gOfT X.K T) (tt := dB (gOf X) W0 tt) (g1 := gOfT X.K T1) (tt1 := dB (gOf X) W0 tt1) (te := dE (gOf X) W0 m) (wi1 := rd relF (gOf X) W0 it1) hc hN hy hyl hsw hi ok hv hg ht hi1 hg1 ht1 he hs hs1) fun Dn sig H h => by
    have h : dE (gOf X) W (f (mLc2 it T tt it1 T1 tt1 m (own.map (·.2)) vs1)) sig H fun x H1 => gName i x sig H1 Dn.nx := rd_set h
    show tLc2 _ _ _ _ _ _ _ _ _ sig H fun x H1 => gName i x sig H1 Dn.nx
    rcases hf with rfl | rfl
    · exact rd_lc2 hT hT1 (rd_fz h)
    · exact rd_lc2 hT hT1 (rd_al h)
end
end DL

namespace DL
open PySem PySem.Spec PyProof.Rows L2
/-! ### list.count over plain data -/
def rCountD (K : PySem.W.Frag) : V → List V → Hp → VK → Prop := fun x xs H Q => ∃ (a : Addr) (y : V) (d : PyData) (ds : List PyData), x = V.ref a ∧ xs = [y] ∧ Dp K H (V.ref a) (.list ds) ∧ Dp K H y d ∧
  SeqAt.shaped (.list ds) = true ∧ SeqAt.shaped d = true ∧ Q (.int ((ds.countP fun z => PyData.eqv z d : Nat) : Int)) H
def gCount (x : D) (ds : List D) (S : Sto) : R D := match ds with
  | [y] => match lstOf S x with
    | some us => if okL us = true ∧ okD y = true ∧ dpL us < 64 ∧ dpD y ≤ 64 then .ok (.int ((us.countP fun z => eqD z y : Nat) : Int)) S else .stuck
    | none => .stuck
  | _ => .stuck
/-! ### is, is not of truth values -/
def opIsB (neg : Bool) (x y : D) (S : Sto) : R D := match x, y with
  | .bl a, .bl b => .ok (.bl (if neg = true then !decide (a = b) else decide (a = b))) S
  | _, _ => .stuck
end DL

namespace DL
open PySem PySem.Spec PyProof.Rows L2
/-! ### dicts, entry by entry -/
abbrev Ws := List (NestedKey × V × V)
def wV (ws : Ws) (k : NestedKey) : Option V := (ws.find? fun x => decide (x.1 = k)).map (·.2.2)
def putW (ws : Ws) (k : NestedKey) (y v : V) : Ws := if ws.any (fun x => decide (x.1 = k)) = true then ws.map (fun x => if x.1 = k then (x.1, x.2.1, v) else x) else ws ++ [(k, y, v)]
theorem rawO_ok {P : Program} {w : World} {H : Hp} {h : Heap} {a : Addr} {ws : Ws} (x : ∃ o es ep, h.get? a = some o ∧ o.ExactDict ∧ o.data = .dict es ep ∧ Paired entF ws es.toList) : ObjOk P w H h a (rawO a ws) :=
  ⟨x, let ⟨o, _, _, e, _⟩ := x; ⟨o, e⟩, fun h1 h2 q k => let ⟨o, es, ep, e, r⟩ := q; ⟨o, es, ep, k o e, r⟩⟩
def RdR (H : Hp) (a : Addr) (ws : Ws) : Prop := H a = some (rawO a ws) ∨ ∃ o, H a = some (.frz o (rawO a ws))
theorem rd_raw {P : Program} {w : World} {H : Hp} {h : Heap} {a : Addr} {ws : Ws} (ok : HOk P w H h) (e : RdR H a ws) : ∃ o es ep, h.get? a = some o ∧ o.ExactDict ∧ o.data = .dict es ep ∧ Paired entF ws es.toList := by
  rcases e with e | ⟨o, e⟩
  · exact (ok a _ e).1
  · exact (ok a _ e).2.1
section
variable {X : Cx} {pins : List (Addr × Obj)} {σ : L2.St} {H : Hp} {s : Shared} {p : Pl}
mutual
theorem nk_is (I : Inv X pins σ H s) : ∀ (d : D) (v : V) (u : Value) (k : NestedKey), RepV X.K H p d v → RelV v u → nkD d = some k → NestedIs s.heap k u
  | .non, v, u, k, r, ru, h => by cases h; cases (show v = .non from r); cases (show u = .none from ru); exact .none
  | .bl b, v, u, k, r, ru, h => by cases h; cases (show v = .bl b from r); cases (show u = .bool b from ru); exact .bool rfl
  | .int i, v, u, k, r, ru, h => by cases h; cases (show v = .int i from r); obtain ⟨t, rfl⟩ := ru; exact .int i t
  | .str _, _, _, _, _, _, h => by simp [nkD] at h
  | .lst _, _, _, _, _, _, h => by simp [nkD] at h
  | .ref _, _, _, _, _, _, h => by simp [nkD] at h
  | .scr _, _, _, _, _, _, h => by simp [nkD] at h
  | .rng _ _, _, _, _, _, _, h => by simp [nkD] at h
  | .tup ds, v, u, k, r, ru, h => by
    unfold nkD at h
    split at h
    · rename_i ks e
      cases h
      obtain ⟨a, xs, rfl, ht, l⟩ := r
      cases (show u = .ref a from ru)
      obtain ⟨its, rv, pt, hz⟩ := I.tuple ht.t
      obtain ⟨ot, hot, hct, nt, hdt⟩ := pt
      exact .tup hot hct hdt (by simpa using nkL_is I ds xs its ks l rv e)
    · cases h
theorem nkL_is (I : Inv X pins σ H s) : ∀ (ds : List D) (vs : List V) (us : List Value) (ks : List NestedKey), RepL X.K H p ds vs → Vals vs us → nkL ds = some ks → NestedAll s.heap ks us
  | [], vs, us, ks, r, ru, h => by cases h; cases (show vs = [] from r); cases ru; exact .nil
  | d :: ds, vs, us, ks, r, ru, h => by
    obtain ⟨v, vr, rfl, r1, r2⟩ := r
    cases ru with
    | cons ru1 ru2 =>
      unfold nkL at h
      split at h
      · rename_i k ks' e1 e2
        cases h
        exact .cons (nk_is I d v _ k r1 ru1 e1) (nkL_is I ds vr _ ks' r2 ru2 e2)
      · cases h
end
mutual
theorem nk_depth : ∀ (d : D) (k : NestedKey), nkD d = some k → k.depth = dpD d
  | .non, k, h => by cases h; rfl
  | .bl b, k, h => by cases h; rfl
  | .int i, k, h => by cases h; rfl
  | .str _, _, h => by simp [nkD] at h
  | .lst _, _, h => by simp [nkD] at h
  | .ref _, _, h => by simp [nkD] at h
  | .scr _, _, h => by simp [nkD] at h
  | .rng _ _, _, h => by simp [nkD] at h
  | .tup ds, k, h => by
    unfold nkD at h
    split at h
    · rename_i ks e
      cases h
      show NestedKey.depthAll ks + 1 = dpL ds + 1
      rw [nkL_depth ds ks e]
    · cases h
theorem nkL_depth : ∀ (ds : List D) (ks : List NestedKey), nkL ds = some ks → NestedKey.depthAll ks = dpL ds
  | [], ks, h => by cases h; rfl
  | d :: ds, ks, h => by
    unfold nkL at h
    split at h
    · rename_i k ks' e1 e2
      cases h
      show max k.depth (NestedKey.depthAll ks') = max (dpD d) (dpL ds)
      rw [nk_depth d k e1, nkL_depth ds ks' e2]
    · cases h
end
mutual
theorem nk_hash (w w' : World) : ∀ (d : D) (k : NestedKey), nkD d = some k → k.hash w = k.hash w'
  | .non, k, h => by cases h; rfl
  | .bl b, k, h => by cases h; rfl
  | .int i, k, h => by cases h; rfl
  | .str _, _, h => by simp [nkD] at h
  | .lst _, _, h => by simp [nkD] at h
  | .ref _, _, h => by simp [nkD] at h
  | .scr _, _, h => by simp [nkD] at h
  | .rng _ _, _, h => by simp [nkD] at h
  | .tup ds, k, h => by
    unfold nkD at h
    split at h
    · rename_i ks e
      cases h
      show reduceHash (Builtin.Tuple.tupleHashOf (NestedKey.hashes w ks)) = reduceHash (Builtin.Tuple.tupleHashOf (NestedKey.hashes w' ks))
      rw [nkL_hash w w' ds ks e]
    · cases h
theorem nkL_hash (w w' : World) : ∀ (ds : List D) (ks : List NestedKey), nkL ds = some ks → NestedKey.hashes w ks = NestedKey.hashes w' ks
  | [], ks, h => by cases h; rfl
  | d :: ds, ks, h => by
    unfold nkL at h
    split at h
    · rename_i k ks' e1 e2
      cases h
      show k.hash w :: NestedKey.hashes w ks' = k.hash w' :: NestedKey.hashes w' ks'
      rw [nk_hash w w' d k e1, nkL_hash w w' ds ks' e2]
    · cases h
end
end
/-! the two kinds of keys -/
def KeyI (ws : Ws) : Prop := ∀ x ∈ ws, ∃ i, x.1 = .num i ∧ x.2.1 = .int i
def KeyT (h : Heap) (ws : Ws) : Prop := ∀ x ∈ ws, ∃ b, x.2.1 = .ref b ∧ NestedIs h x.1 (.ref b) ∧ x.1.depth ≤ 8
theorem paired_mem {α β : Type} {F : α → β → Prop} : ∀ {xs : List α} {ys : List β}, Paired F xs ys → ∀ y ∈ ys, ∃ x ∈ xs, F x y
  | _, _, .nil, y, h => by cases h
  | _, _, .cons r t, y, h => by
    rcases List.mem_cons.mp h with rfl | h
    · exact ⟨_, List.mem_cons_self .., r⟩
    · obtain ⟨x, hx, e⟩ := paired_mem t y h
      exact ⟨x, List.mem_cons_of_mem _ hx, e⟩
theorem paired_nodup {α β γ δ : Type} {F : α → β → Prop} {f : α → γ} {g : β → δ} (inj : ∀ a b a' b', F a b → F a' b' → g b = g b' → f a = f a') : ∀ {xs : List α} {ys : List β}, Paired F xs ys → (xs.map f).Nodup → (ys.map g).Nodup
  | _, _, .nil, _ => List.nodup_nil
  | x :: xs, y :: ys, .cons r t, h => by
    rw [List.map_cons, List.nodup_cons] at h ⊢
    refine ⟨fun z => h.1 ?_, paired_nodup inj t h.2⟩
    obtain ⟨y', hy, e⟩ := List.mem_map.mp z
    obtain ⟨x', hx, r'⟩ := paired_mem t y' hy
    exact List.mem_map.mpr ⟨x', hx, inj _ _ _ _ r' r e⟩
def relK (x : NestedKey × V × V) (y : Key × Value) : Prop := (∃ i, x.1 = .num i ∧ x.2.1 = .int i ∧ y.1 = Sum.inl i) ∧ RelV x.2.2 y.2
def relT (x : NestedKey × V × V) (y : NestedKey × Addr × Value) : Prop := y.1 = x.1 ∧ x.2.1 = .ref y.2.1 ∧ RelV x.2.2 y.2.2
section
variable {P : Program} {w : World}
theorem raw_K : ∀ {ws : Ws} {es : List DictEntry}, Paired entF ws es → KeyI ws → ∃ vs : List (Key × Value), Pairs (mixKind P w) es vs ∧ (∀ e ∈ es, ∃ k, (mixKind P w).is k e.key = true ∧ e.hash = (mixKind P w).hash k) ∧ Paired relK ws vs
  | [], _, .nil, _ => ⟨[], .nil, fun e h => by simp at h, .nil⟩
  | x :: ws, e :: es, .cons r t, hk => by
    obtain ⟨vs, h1, h2, h3⟩ := raw_K t fun y hy => hk y (List.mem_cons_of_mem _ hy)
    obtain ⟨i, e1, e2⟩ := hk x (List.mem_cons_self ..)
    obtain ⟨r1, r2, r3⟩ := r
    rw [e2] at r1
    obtain ⟨t, et⟩ := r1
    have his : (mixKind P w).is (.inl i) e.key = true := by rw [et]; exact mixKind_int P w i t
    refine ⟨(.inl i, e.val) :: vs, .cons his rfl h1, fun e' he' => ?_, .cons ⟨⟨i, e1, e2, rfl⟩, r2⟩ h3⟩
    rcases List.mem_cons.mp he' with rfl | he'
    · exact ⟨.inl i, his, by rw [r3 w, e1]; rfl⟩
    · exact h2 e' he'
theorem raw_Kback : ∀ {ws : Ws} {es : List DictEntry} {vs : List (Key × Value)}, Pairs (mixKind P w) es vs → (∀ e ∈ es, ∃ k, (mixKind P w).is k e.key = true ∧ e.hash = (mixKind P w).hash k) → Paired relK ws vs → Paired entF ws es
  | _, _, _, .nil, _, .nil => .nil
  | x :: ws, e :: es, v :: vs, .cons a1 a2 a3, h, .cons r t => by
    refine .cons ?_ (raw_Kback a3 (fun e' he' => h e' (List.mem_cons_of_mem _ he')) t)
    obtain ⟨⟨i, e1, e2, e3⟩, rv⟩ := r
    obtain ⟨k, k1, k2⟩ := h e (List.mem_cons_self ..)
    have ek : k = Sum.inl i := by
      have := (mixKind P w).inj _ _ _ k1 a1
      rw [this, e3]
    subst ek
    rw [e3] at a1
    refine ⟨?_, by rw [a2]; exact rv, fun w' => by rw [k2, e1]; rfl⟩
    rw [e2]
    obtain ⟨t, et⟩ := Value.isInt_shape (k := i) (v := e.key) a1
    exact ⟨t, et⟩
theorem relK_val (i : Int) : ∀ {ws : Ws} {vs : List (Key × Value)}, Paired relK ws vs → RelO (wV ws (.num i)) (valueAt vs (Sum.inl i))
  | _, _, .nil => True.intro
  | x :: ws, v :: vs, .cons r t => by
    obtain ⟨⟨j, e1, e2, e3⟩, rv⟩ := r
    have ih := relK_val i t
    unfold wV valueAt at ih ⊢
    rw [List.find?_cons, List.find?_cons]
    by_cases h : j = i
    · subst h
      simp only [e1, e3, decide_true]
      exact rv
    · have h1 : ¬ x.1 = .num i := by rw [e1]; exact fun z => h (NestedKey.num.inj z)
      have h2 : ¬ v.1 = Sum.inl i := by rw [e3]; exact fun z => h (Sum.inl.inj z)
      simp only [decide_eq_false h1, decide_eq_false h2]
      exact ih
theorem relK_any (i : Int) : ∀ {ws : Ws} {vs : List (Key × Value)}, Paired relK ws vs → (ws.any fun x => decide (x.1 = .num i)) = vs.any fun kv => decide (kv.1 = Sum.inl i)
  | _, _, .nil => rfl
  | x :: ws, v :: vs, .cons r t => by
    obtain ⟨⟨j, e1, e2, e3⟩, rv⟩ := r
    rw [List.any_cons, List.any_cons, relK_any i t, e1, e3]
    congr 1
    by_cases h : j = i
    · subst h; simp
    · rw [decide_eq_false (fun z => h (NestedKey.num.inj z)), decide_eq_false (fun z => h (Sum.inl.inj z))]
theorem relK_repl (i : Int) {v : V} {r : Value} (rv : RelV v r) : ∀ {ws : Ws} {vs : List (Key × Value)}, Paired relK ws vs → Paired relK (ws.map fun x => if x.1 = .num i then (x.1, x.2.1, v) else x) (vs.map fun kv => if kv.1 = Sum.inl i then (kv.1, r) else kv)
  | _, _, .nil => .nil
  | x :: ws, y :: vs, .cons q t => by
    obtain ⟨⟨j, e1, e2, e3⟩, r0⟩ := q
    refine .cons ?_ (relK_repl i rv t)
    show relK (if x.1 = .num i then (x.1, x.2.1, v) else x) (if y.1 = Sum.inl i then (y.1, r) else y)
    by_cases h : j = i
    · subst h
      rw [if_pos e1, if_pos e3]
      exact ⟨⟨j, e1, e2, e3⟩, rv⟩
    · rw [if_neg (by rw [e1]; exact fun z => h (NestedKey.num.inj z)), if_neg (by rw [e3]; exact fun z => h (Sum.inl.inj z))]
      exact ⟨⟨j, e1, e2, e3⟩, r0⟩
theorem paired_snoc {α β : Type} {F : α → β → Prop} {x : α} {y : β} (r : F x y) : ∀ {xs : List α} {ys : List β}, Paired F xs ys → Paired F (xs ++ [x]) (ys ++ [y])
  | _, _, .nil => .cons r .nil
  | _, _, .cons q t => .cons q (paired_snoc r t)
theorem relK_put (i : Int) {v : V} {r : Value} (rv : RelV v r) {ws : Ws} {vs : List (Key × Value)} (h : Paired relK ws vs) : Paired relK (putW ws (.num i) (.int i) v) (stored vs (Sum.inl i) r) := by
  unfold putW stored
  rw [relK_any i h]
  split
  · exact relK_repl i rv h
  · exact paired_snoc ⟨⟨i, rfl, rfl, rfl⟩, rv⟩ h
theorem raw_T : ∀ {h : Heap} {ws : Ws} {es : List DictEntry}, Paired entF ws es → KeyT h ws → ∃ xs : List (NestedKey × Addr × Value), es = xs.map (entryOfKey (nestedKind P w)) ∧ Paired relT ws xs ∧ ∀ x ∈ xs, (nestedKind P w).is h x.1 x.2.1
  | _, [], _, .nil, _ => ⟨[], rfl, .nil, fun e h => by simp at h⟩
  | h, x :: ws, e :: es, .cons r t, hk => by
    obtain ⟨xs, h1, h2, h3⟩ := raw_T (h := h) t fun y hy => hk y (List.mem_cons_of_mem _ hy)
    obtain ⟨b, e1, e2, e3⟩ := hk x (List.mem_cons_self ..)
    obtain ⟨r1, r2, r3⟩ := r
    rw [e1] at r1
    have r1 : e.key = .ref b := r1
    refine ⟨(x.1, b, e.val) :: xs, ?_, .cons ⟨rfl, e1, r2⟩ h2, fun y hy => ?_⟩
    · rw [List.map_cons, h1]
      congr 1
      show e = ⟨x.1.hash w, .ref b, e.val⟩
      rw [← r1, ← r3 w]
    · rcases List.mem_cons.mp hy with rfl | hy
      · exact ⟨e2, e3⟩
      · exact h3 y hy
theorem raw_Tback (hh : ∀ k w w', NestedKey.hash w k = NestedKey.hash w' k ∨ True) : ∀ {ws : Ws} {xs : List (NestedKey × Addr × Value)}, Paired relT ws xs → (∀ x ∈ ws, ∀ w', x.1.hash w = x.1.hash w') → Paired entF ws (xs.map (entryOfKey (nestedKind P w)))
  | _, _, .nil, _ => .nil
  | x :: ws, y :: xs, .cons r t, hw => by
    obtain ⟨r1, r2, r3⟩ := r
    refine .cons ⟨?_, r3, fun w' => ?_⟩ (raw_Tback hh t fun z hz => hw z (List.mem_cons_of_mem _ hz))
    · rw [r2]; rfl
    · show y.1.hash w = x.1.hash w'
      rw [r1]; exact hw x (List.mem_cons_self ..) w'
theorem relT_val (k : NestedKey) : ∀ {ws : Ws} {xs : List (NestedKey × Addr × Value)}, Paired relT ws xs → RelO (wV ws k) ((atKey xs k).map (·.2))
  | _, _, .nil => True.intro
  | x :: ws, y :: xs, .cons r t => by
    obtain ⟨r1, r2, r3⟩ := r
    have ih := relT_val k t
    unfold wV atKey at ih ⊢
    rw [List.find?_cons, List.find?_cons, r1]
    by_cases h : x.1 = k
    · simp only [decide_eq_true h]
      exact r3
    · simp only [decide_eq_false h]
      exact ih
theorem relT_any (k : NestedKey) : ∀ {ws : Ws} {xs : List (NestedKey × Addr × Value)}, Paired relT ws xs → (ws.any fun x => decide (x.1 = k)) = (atKey xs k).isSome
  | _, _, .nil => rfl
  | x :: ws, y :: xs, .cons r t => by
    obtain ⟨r1, r2, r3⟩ := r
    have ih := relT_any k t
    unfold atKey at ih ⊢
    rw [List.any_cons, List.find?_cons, r1, ih]
    by_cases h : x.1 = k
    · simp [decide_eq_true h]
    · simp [decide_eq_false h]
theorem relT_repl (k : NestedKey) {v : V} {r : Value} (rv : RelV v r) : ∀ {ws : Ws} {xs : List (NestedKey × Addr × Value)}, Paired relT ws xs → Paired relT (ws.map fun x => if x.1 = k then (x.1, x.2.1, v) else x) (xs.map (putAt k r))
  | _, _, .nil => .nil
  | x :: ws, y :: xs, .cons q t => by
    refine .cons ?_ (relT_repl k rv t)
    show relT (if x.1 = k then (x.1, x.2.1, v) else x) (putAt k r y)
    obtain ⟨r1, r2, r3⟩ := q
    unfold putAt
    rw [r1]
    by_cases h : x.1 = k
    · rw [if_pos h, if_pos h]; exact ⟨rfl, r2, rv⟩
    · rw [if_neg h, if_neg h]; exact ⟨r1, r2, r3⟩
theorem relT_put (k : NestedKey) {b : Addr} {v : V} {r : Value} (rv : RelV v r) {ws : Ws} {xs : List (NestedKey × Addr × Value)} (h : Paired relT ws xs) : Paired relT (putW ws k (.ref b) v) (storedH xs k b r) := by
  unfold putW
  rw [relT_any k h]
  cases e : atKey xs k with
  | none =>
    rw [storedH_new e]
    simp only [Option.isSome_none, Bool.false_eq_true, if_false]
    exact paired_snoc ⟨rfl, rfl, rv⟩ h
  | some p =>
    rw [storedH_old e]
    simp only [Option.isSome_some, if_true]
    exact relT_repl k rv h
end
theorem putW_mem {ws : Ws} {k : NestedKey} {y v : V} {x : NestedKey × V × V} (h : x ∈ putW ws k y v) : (∃ x' ∈ ws, x'.1 = x.1 ∧ x'.2.1 = x.2.1) ∨ (x.1 = k ∧ x.2.1 = y) := by
  unfold putW at h
  split at h
  · obtain ⟨x', hx, rfl⟩ := List.mem_map.mp h
    refine .inl ⟨x', hx, ?_⟩
    split <;> exact ⟨rfl, rfl⟩
  · rcases List.mem_append.mp h with h | h
    · exact .inl ⟨x, h, rfl, rfl⟩
    · have : x = (k, y, v) := by simpa using h
      subst this; exact .inr ⟨rfl, rfl⟩
theorem putW_keys {ws : Ws} {k : NestedKey} {y v : V} : (putW ws k y v).map (·.1) = if ws.any (fun x => decide (x.1 = k)) = true then ws.map (·.1) else ws.map (·.1) ++ [k] := by
  unfold putW
  split
  · rw [List.map_map]
    apply List.map_congr_left
    intro x _
    simp only [Function.comp]
    split <;> rfl
  · simp
theorem putW_nodup {ws : Ws} {k : NestedKey} {y v : V} (h : (ws.map (·.1)).Nodup) : ((putW ws k y v).map (·.1)).Nodup := by
  rw [putW_keys]
  split
  · exact h
  · rename_i c
    refine List.nodup_append.mpr ⟨h, by simp, fun a ha b hb e => ?_⟩
    have : b = k := by simpa using hb
    subst this; subst e
    obtain ⟨x, hx, e⟩ := List.mem_map.mp ha
    exact c (List.any_eq_true.mpr ⟨x, hx, by simpa using e⟩)
/-- what is asked of a key -/
def KOk (h : Heap) (ws : Ws) (k : NestedKey) (y : V) : Prop := (KeyI ws ∧ ∃ i, k = .num i ∧ y = .int i) ∨ (KeyT h ws ∧ ∃ b, y = .ref b ∧ NestedIs h k (.ref b) ∧ k.depth ≤ 8)
section
variable {X : Cx} {pins : List (Addr × Obj)} {σ : L2.St} {H : Hp} {s : Shared} {a : Addr} {ws : Ws} {k : NestedKey} {y v d : V} {u r : Value} {A : Around} {E : Value → Shared → Prop}
theorem room8 (hu : A.units + 10 < cLine) : (nestedKind X.prog X.w).room A.in1 := by
  show A.in1.units + 8 < cLine
  rw [Around.in1_units]; omega
theorem rd_T (I : Inv X pins σ H s) (nd : (ws.map (·.1)).Nodup) (e : RdR H a ws) (hk : KeyT s.heap ws) : ∃ xs, s.heap.DictOfH (nestedKind X.prog X.w) a xs ∧ Paired relT ws xs := by
  obtain ⟨o, es, ep, h1, h2, h3, h4⟩ := rd_raw I.hok e
  obtain ⟨xs, q1, q2, q3⟩ := raw_T (P := X.prog) (w := X.w) h4 hk
  exact ⟨xs, ⟨o, es, ep, h1, h2, h3, q1, q3, paired_nodup (f := (·.1)) (g := (·.1)) (fun a b a' b' r r' e => by rw [← r.1, ← r'.1]; exact e) q2 nd⟩, q2⟩
theorem rd_K (I : Inv X pins σ H s) (nd : (ws.map (·.1)).Nodup) (e : RdR H a ws) (hk : KeyI ws) : ∃ vs, s.heap.DictOf (mixKind X.prog X.w) a vs ∧ Paired relK ws vs := by
  obtain ⟨o, es, ep, h1, h2, h3, h4⟩ := rd_raw I.hok e
  obtain ⟨vs, q1, q2, q3⟩ := raw_K (P := X.prog) (w := X.w) h4 hk
  refine ⟨vs, ⟨o, es, ep, h1, h2, h3, fun e he => q2 e (by simpa using he), q1, paired_nodup (f := (·.1)) (g := (·.1)) (fun a b a' b' r r' e => ?_) q3 nd⟩, q3⟩
  obtain ⟨⟨i, e1, _, e2⟩, _⟩ := r
  obtain ⟨⟨j, e3, _, e4⟩, _⟩ := r'
  rw [e2, e4] at e
  cases e
  rw [e1, e3]
theorem u_getItem {Q : Value → Shared → Prop} (hu : A.units + 10 < cLine) (I : Inv X pins σ H s) (nd : (ws.map (·.1)).Nodup) (e : RdR H a ws) (ko : KOk s.heap ws k y) (ry : RelV y u) (l : wV ws k = some v) (h : ∀ w' s', Inv X pins σ H s' → RelV v w' → Q w' s') :
    wpAny (model X.prog X.w) A (getItem (.ref a) u) Q E s := by
  rcases ko with ⟨hk, i, rfl, rfl⟩ | ⟨hk, b, rfl, hb, hd⟩
  · obtain ⟨vs, dd, rel⟩ := rd_K I nd e hk
    obtain ⟨w', hw, rw'⟩ := RelO.some_of (v := v) (o := valueAt vs (Sum.inl i)) (by rw [← l]; exact relK_val i rel)
    exact wpAny_getItem_of (kV_is (k := Sum.inl i) ry) dd.mapOf hw (h w' _ (I.tok _) rw')
  · cases (show u = Value.ref b from ry)
    obtain ⟨xs, dd, rel⟩ := rd_T I nd e hk
    obtain ⟨w', hw, rw'⟩ := RelO.some_of (v := v) (o := (atKey xs k).map (·.2)) (by rw [← l]; exact relT_val k rel)
    obtain ⟨p, hp, hp2⟩ := Option.map_eq_some_iff.mp hw
    refine wpAny_getItem_heap (room8 hu) ⟨hb, hd⟩ dd hp ?_
    rw [hp2]
    exact h w' _ (I.tok _) rw'
theorem u_setItem {Q : Unit → Shared → Prop} (hu : A.units + 10 < cLine) (I : Inv X pins σ H s) (nd : (ws.map (·.1)).Nodup) (e : H a = some (rawO a ws)) (hl : ws.length < sizeLine) (hf : ∀ x ∈ putW ws k y v, ∀ w w', x.1.hash w = x.1.hash w') (ko : KOk s.heap ws k y) (ry : RelV y u) (rv : RelV v r)
    (h : ∀ s', Inv X pins σ (upd H a (rawO a (putW ws k y v))) s' → Q () s') : wpAny (model X.prog X.w) A (setItem (.ref a) u r) Q E s := by
  have mu : Mut (H a) := by rw [e]; exact True.intro
  rcases ko with ⟨hk, i, rfl, rfl⟩ | ⟨hk, b, rfl, hb, hd⟩
  · obtain ⟨vs, dd, rel⟩ := rd_K I nd (.inl e) hk
    refine wpAny_setItem_pairs (hsz := by rw [← Paired.length rel]; omega) (kV_is (k := Sum.inl i) ry) dd fun h' dd' hs => h _ ?_
    obtain ⟨q, es, ep, hq, h2, h3, h4, h5, _⟩ := dd'
    exact d_write I mu hs ⟨q, hq⟩ (rawO_ok ⟨q, es, ep, hq, h2, h3, raw_Kback h5 (fun e' he' => h4 e' (by simpa using he')) (relK_put i rv rel)⟩)
  · cases (show u = Value.ref b from ry)
    obtain ⟨xs, dd, rel⟩ := rd_T I nd (.inl e) hk
    refine wpAny_setItem_heap (hsz := by rw [← Paired.length rel]; omega) (room8 hu) ⟨hb, hd⟩ dd fun h' dd' hs => h _ ?_
    obtain ⟨q, es, ep, hq, h2, h3, h4, _, h5⟩ := dd'
    exact d_write I mu hs ⟨q, hq⟩ (rawO_ok ⟨q, es, ep, hq, h2, h3, by rw [h4]; exact raw_Tback (fun _ _ _ => .inr True.intro) (relT_put k rv rel) fun x hx w' => hf x hx _ _⟩)
end
end DL

namespace DL
open PySem PySem.Spec PyProof.Rows L2
/-! ### dicts as data -/
def isI : D → Bool
  | .int _ => true
  | _ => false
def isTp : D → Bool
  | .tup _ => true
  | _ => false
abbrev Kvs := List (D × D)
def lookN (kvs : Kvs) (k : D) : Option D := (kvs.find? fun kv => decide (nkD kv.1 = nkD k)).map (·.2)
def putN (kvs : Kvs) (k v : D) : Kvs := if kvs.any (fun kv => decide (nkD kv.1 = nkD k)) = true then kvs.map (fun kv => if nkD kv.1 = nkD k then (kv.1, v) else kv) else kvs ++ [(k, v)]
def keyOkD (kvs : Kvs) (k : D) : Bool := match k with
  | .int _ => kvs.all fun kv => isI kv.1
  | .tup ds => (kvs.all fun kv => isTp kv.1) && (nkD (.tup ds)).isSome && decide (dpD (.tup ds) ≤ 8)
  | _ => false
def keysD (kvs : Kvs) : Bool := (kvs.all fun kv => isI kv.1) || (kvs.all fun kv => isTp kv.1)
def dctOf (S : Sto) : D → Option Kvs
  | .ref n => match S[n]? with
    | some (.dct kvs) => some kvs
    | some (.lkd kvs) => some kvs
    | _ => none
  | _ => none
section
variable {K : PySem.W.Frag} {H : Hp} {p : Pl} {S : Sto} {a : Addr}
theorem keyI_of : ∀ {kvs : Kvs} {ws : Ws}, kvs.map (fun kv => nkD kv.1) = ws.map (fun x => some x.1) → RepL K H p (kvs.map (·.1)) (ws.map (·.2.1)) → (kvs.all fun kv => isI kv.1) = true → KeyI ws
  | [], [], _, _, _ => fun x h => by cases h
  | [], _ :: _, e, _, _ => by cases e
  | _ :: _, [], e, _, _ => by cases e
  | kv :: kvs, x :: ws, e, r, c => by
    rw [List.map_cons, List.map_cons] at e r
    obtain ⟨e1, e2⟩ := List.cons.inj e
    obtain ⟨v, vr, e3, r1, r2⟩ := r
    obtain ⟨rfl, rfl⟩ := List.cons.inj e3
    rw [List.all_cons, Bool.and_eq_true] at c
    intro y hy
    rcases List.mem_cons.mp hy with rfl | hy
    · obtain ⟨k, w⟩ := kv
      cases k with
      | int i => exact ⟨i, (Option.some.inj e1).symm, r1⟩
      | _ => exact absurd c.1 (by simp [isI])
    · exact keyI_of e2 r2 c.2 y hy
theorem dct_look (nk : NestedKey) {k : D} (hk : nkD k = some nk) : ∀ {kvs : Kvs} {ws : Ws}, kvs.map (fun kv => nkD kv.1) = ws.map (fun x => some x.1) → RepL K H p (kvs.map (·.2)) (ws.map (·.2.2)) →
    (∃ d v, lookN kvs k = some d ∧ wV ws nk = some v ∧ RepV K H p d v) ∨ (lookN kvs k = none ∧ wV ws nk = none)
  | [], [], _, _ => .inr ⟨rfl, rfl⟩
  | [], _ :: _, e, _ => by cases e
  | _ :: _, [], e, _ => by cases e
  | kv :: kvs, x :: ws, e, r => by
    rw [List.map_cons, List.map_cons] at e r
    obtain ⟨e1, e2⟩ := List.cons.inj e
    obtain ⟨v, vr, e3, r1, r2⟩ := r
    obtain ⟨rfl, rfl⟩ := List.cons.inj e3
    have ih := dct_look nk hk e2 r2
    unfold lookN wV at ih ⊢
    rw [List.find?_cons, List.find?_cons]
    by_cases h : x.1 = nk
    · have h1 : nkD kv.1 = nkD k := by rw [hk, e1, h]
      simp only [decide_eq_true h, decide_eq_true h1]
      exact .inl ⟨_, _, rfl, rfl, r1⟩
    · have h1 : ¬ nkD kv.1 = nkD k := by rw [hk, e1]; exact fun z => h (Option.some.inj z)
      simp only [decide_eq_false h, decide_eq_false h1]
      exact ih
theorem dct_any (nk : NestedKey) {k : D} (hk : nkD k = some nk) : ∀ {kvs : Kvs} {ws : Ws}, kvs.map (fun kv => nkD kv.1) = ws.map (fun x => some x.1) → (kvs.any fun kv => decide (nkD kv.1 = nkD k)) = ws.any fun x => decide (x.1 = nk)
  | [], [], _ => rfl
  | [], _ :: _, e => by cases e
  | _ :: _, [], e => by cases e
  | kv :: kvs, x :: ws, e => by
    rw [List.map_cons, List.map_cons] at e
    obtain ⟨e1, e2⟩ := List.cons.inj e
    rw [List.any_cons, List.any_cons, dct_any nk hk e2]
    congr 1
    rw [hk, e1]
    by_cases h : x.1 = nk
    · rw [decide_eq_true h, h]; simp
    · rw [decide_eq_false h, decide_eq_false fun z => h (Option.some.inj z)]
theorem put_keys {kvs : Kvs} {k v : D} : (kvs.map fun kv => if nkD kv.1 = nkD k then (kv.1, v) else kv).map (·.1) = kvs.map (·.1) := by
  rw [List.map_map]
  apply List.map_congr_left
  intro x _
  simp only [Function.comp]
  split <;> rfl
theorem put_keysW {ws : Ws} {k : NestedKey} {v : V} : (ws.map fun x => if x.1 = k then (x.1, x.2.1, v) else x).map (fun x => (x.1, x.2.1)) = ws.map fun x => (x.1, x.2.1) := by
  rw [List.map_map]
  apply List.map_congr_left
  intro x _
  simp only [Function.comp]
  split <;> rfl
theorem put_vals (nk : NestedKey) {k d : D} {v : V} (hk : nkD k = some nk) (rv : RepV K H p d v) : ∀ {kvs : Kvs} {ws : Ws}, kvs.map (fun kv => nkD kv.1) = ws.map (fun x => some x.1) → RepL K H p (kvs.map (·.2)) (ws.map (·.2.2)) →
    RepL K H p ((kvs.map fun kv => if nkD kv.1 = nkD k then (kv.1, d) else kv).map (·.2)) ((ws.map fun x => if x.1 = nk then (x.1, x.2.1, v) else x).map (·.2.2))
  | [], [], _, _ => RepL.nil
  | [], _ :: _, e, _ => by cases e
  | _ :: _, [], e, _ => by cases e
  | kv :: kvs, x :: ws, e, r => by
    rw [List.map_cons, List.map_cons] at e r
    obtain ⟨e1, e2⟩ := List.cons.inj e
    obtain ⟨v', vr, e3, r1, r2⟩ := r
    obtain ⟨rfl, rfl⟩ := List.cons.inj e3
    refine RepL.cons (ds := (kvs.map fun kv => if nkD kv.1 = nkD k then (kv.1, d) else kv).map (·.2)) ?_ (put_vals nk hk rv e2 r2)
    show RepV K H p (if nkD kv.1 = nkD k then (kv.1, d) else kv).2 (if x.1 = nk then (x.1, x.2.1, v) else x).2.2
    by_cases h : x.1 = nk
    · have h1 : nkD kv.1 = nkD k := by rw [hk, e1, h]
      rw [if_pos h, if_pos h1]; exact rv
    · have h1 : ¬ nkD kv.1 = nkD k := by rw [hk, e1]; exact fun z => h (Option.some.inj z)
      rw [if_neg h, if_neg h1]; exact r1
theorem DctR.put {kvs : Kvs} {ws : Ws} {nk : NestedKey} {k d : D} {y v : V} (r : DctR K H p a kvs ws) (hk : nkD k = some nk) (hd : nk.depth ≤ 8) (rk : RepV K H p k y) (rv : RepV K H p d v) : DctR K H p a (putN kvs k d) (putW ws nk y v) := by
  refine ⟨r.sm, ?_, putW_nodup r.nd, fun x hx => ?_, ?_, ?_⟩
  · unfold putN putW
    rw [dct_any nk hk r.ks]
    split
    · have e1 : (kvs.map fun kv => if nkD kv.1 = nkD k then (kv.1, d) else kv).map (fun kv => nkD kv.1) = kvs.map fun kv => nkD kv.1 := by
        have := congrArg (List.map nkD) (put_keys (kvs := kvs) (k := k) (v := d))
        simpa only [List.map_map, Function.comp_def] using this
      have e2 : (ws.map fun x => if x.1 = nk then (x.1, x.2.1, v) else x).map (fun x => some x.1) = ws.map fun x => some x.1 := by
        have := congrArg (List.map fun x : NestedKey × V => some x.1) (put_keysW (ws := ws) (k := nk) (v := v))
        simpa only [List.map_map, Function.comp_def] using this
      rw [e1, e2]; exact r.ks
    · rw [List.map_append, List.map_append, r.ks]
      show _ ++ [nkD k] = _ ++ [some nk]
      rw [hk]
  · rcases putW_mem hx with ⟨x', hx', e, _⟩ | ⟨e, _⟩
    · rw [← e]; exact r.dp x' hx'
    · rw [e]; exact hd
  · unfold putN putW
    rw [dct_any nk hk r.ks]
    split
    · have e2 : (ws.map fun x => if x.1 = nk then (x.1, x.2.1, v) else x).map (·.2.1) = ws.map (·.2.1) := by
        have := congrArg (List.map fun x : NestedKey × V => x.2) (put_keysW (ws := ws) (k := nk) (v := v))
        simpa only [List.map_map, Function.comp_def] using this
      rw [put_keys, e2]; exact r.rk
    · rw [List.map_append, List.map_append]
      exact r.rk.append (RepL.cons rk RepL.nil)
  · unfold putN putW
    rw [dct_any nk hk r.ks]
    split
    · exact put_vals nk hk rv r.ks r.rv
    · rw [List.map_append, List.map_append]
      exact r.rv.append (RepL.cons rv RepL.nil)
theorem dct_hash {kvs : Kvs} {ws : Ws} (e : kvs.map (fun kv => nkD kv.1) = ws.map (fun x => some x.1)) : ∀ x ∈ ws, ∀ w w', x.1.hash w = x.1.hash w' := fun x hx w w' => by
  have h : some x.1 ∈ kvs.map fun kv => nkD kv.1 := by rw [e]; exact List.mem_map.mpr ⟨x, hx, rfl⟩
  obtain ⟨kv, _, e1⟩ := List.mem_map.mp h
  exact nk_hash w w' kv.1 x.1 e1
theorem dct_len {kvs : Kvs} {ws : Ws} (e : kvs.map (fun kv => nkD kv.1) = ws.map (fun x => some x.1)) : kvs.length = ws.length := by simpa using congrArg List.length e
theorem dct_rep {d : D} {v : V} {kvs : Kvs} (s : StRel K p S H) (r : RepV K H p d v) (e : dctOf S d = some kvs) : ∃ a ws, v = .ref a ∧ RdR H a ws ∧ DctR K H p a kvs ws := by
  unfold dctOf at e
  split at e
  · rename_i n
    obtain ⟨a, rfl, hn⟩ := r
    split at e
    · rename_i kvs' e'
      cases e
      obtain ⟨b, hb, ws, e2, l⟩ := s.obj n _ e'
      rw [hn] at hb; cases hb
      exact ⟨a, ws, rfl, .inl e2, l⟩
    · rename_i kvs' e'
      cases e
      obtain ⟨b, hb, ws, o, e2, l⟩ := s.obj n _ e'
      rw [hn] at hb; cases hb
      exact ⟨a, ws, rfl, .inr ⟨o, e2⟩, l⟩
    · cases e
  · cases e
end
section
variable {X : Cx} {pins : List (Addr × Obj)} {σ : L2.St} {H : Hp} {s : Shared} {p : Pl} {a : Addr} {kvs : Kvs} {ws : Ws}
theorem keyT_of (I : Inv X pins σ H s) : ∀ {kvs : Kvs} {ws : Ws}, kvs.map (fun kv => nkD kv.1) = ws.map (fun x => some x.1) → RepL X.K H p (kvs.map (·.1)) (ws.map (·.2.1)) → (∀ x ∈ ws, x.1.depth ≤ 8) → (kvs.all fun kv => isTp kv.1) = true → KeyT s.heap ws
  | [], [], _, _, _, _ => fun x h => by cases h
  | [], _ :: _, e, _, _, _ => by cases e
  | _ :: _, [], e, _, _, _ => by cases e
  | kv :: kvs, x :: ws, e, r, dp, c => by
    rw [List.map_cons, List.map_cons] at e r
    obtain ⟨e1, e2⟩ := List.cons.inj e
    obtain ⟨v, vr, e3, r1, r2⟩ := r
    obtain ⟨rfl, rfl⟩ := List.cons.inj e3
    rw [List.all_cons, Bool.and_eq_true] at c
    intro y hy
    rcases List.mem_cons.mp hy with rfl | hy
    · obtain ⟨k, w⟩ := kv
      cases k with
      | tup ds =>
        obtain ⟨b, xs, eb, _⟩ := id r1
        exact ⟨b, eb, nk_is I _ _ _ _ r1 (by rw [eb]; rfl) e1, dp _ (List.mem_cons_self ..)⟩
      | _ => exact absurd c.1 (by simp [isTp])
    · exact keyT_of I e2 r2 (fun z hz => dp z (List.mem_cons_of_mem _ hz)) c.2 y hy
theorem kok_of (I : Inv X pins σ H s) {k : D} {y : V} {nk : NestedKey} (r : DctR X.K H p a kvs ws) (rk : RepV X.K H p k y) (c : keyOkD kvs k = true) (en : nkD k = some nk) : KOk s.heap ws nk y := by
  cases k with
  | int i => cases en; exact .inl ⟨keyI_of r.ks r.rk c, i, rfl, rk⟩
  | tup ds =>
    simp only [keyOkD, Bool.and_eq_true, decide_eq_true_eq] at c
    obtain ⟨b, xs, eb, _⟩ := id rk
    exact .inr ⟨keyT_of I r.ks r.rk r.dp c.1.1, b, eb, nk_is I _ _ _ _ rk (by rw [eb]; rfl) en, by rw [nk_depth _ _ en]; exact c.2⟩
  | _ => cases c
theorem raw_typeIs (I : Inv X pins σ H s) (e : RdR H a ws) : s.TypeIs (.ref a) "dict" := by
  obtain ⟨o, es, ep, h1, h2, _⟩ := rd_raw I.hok e
  exact ⟨o, h1, h2.1⟩
theorem raw_noDict (I : Inv X pins σ H s) (e : RdR H a ws) : ∀ b, Value.ref a = .ref b → ∃ ob, s.heap.get? b = some ob ∧ ob.dict = none := fun b q => by
  cases q
  obtain ⟨o, es, ep, h1, h2, _⟩ := rd_raw I.hok e
  exact ⟨o, h1, h2.2.1⟩
theorem raw_empty {h : Heap} {P : Program} {w : World} {H : Hp} : ObjOk P w H (h.push { cls := .type "dict", data := .dict #[] }) h.objs.size (rawO h.objs.size []) := rawO_ok ⟨_, #[], 0, Heap.get?_push_size _ rfl, ⟨rfl, rfl, rfl⟩, rfl, .nil⟩
theorem raw_sm (I : Inv X pins σ H s) : (s.heap.objs.size == sysModules) = false := beq_eq_false_iff_ne.mpr (Ne.symm (Nat.ne_of_lt I.big))
end
/-! the key's side -/
def KeyAt (K : PySem.W.Frag) (H : Hp) (a : Addr) (y : V) (nk : NestedKey) (ws : Ws) : Prop := ∃ p kvs kd, DctR K H p a kvs ws ∧ RepV K H p kd y ∧ keyOkD kvs kd = true ∧ nkD kd = some nk
def rIxN (K : PySem.W.Frag) : R2 := fun x y H Q => ∃ a ws nk v, x = .ref a ∧ RdR H a ws ∧ KeyAt K H a y nk ws ∧ wV ws nk = some v ∧ Q v H
def rInN (K : PySem.W.Frag) (neg : Bool) : R2 := fun y x H Q => ∃ a ws nk, x = .ref a ∧ RdR H a ws ∧ KeyAt K H a y nk ws ∧ Q (.bl (if neg = true then !(wV ws nk).isSome else (wV ws nk).isSome)) H
def rSetN (K : PySem.W.Frag) : TSet := fun o i v H Q => ∃ a ws nk, o = .ref a ∧ H a = some (rawO a ws) ∧ KeyAt K H a i nk ws ∧ ws.length < sizeLine ∧ (∀ w w', nk.hash w = nk.hash w') ∧ Q (upd H a (rawO a (putW ws nk i v)))
def rLenN (K : PySem.W.Frag) : List V → Hp → VK → Prop := fun xs H Q => ∃ a ws p kvs, xs = [V.ref a] ∧ RdR H a ws ∧ DctR K H p a kvs ws ∧ keysD kvs = true ∧ ws.length ≤ sizeLine ∧ Q (.int ws.length) H
section
variable {X : Cx} {o i e f : Expr} {td ty tx : TE} {pos apos cpos : Pos}
theorem pe_ixN (hu : X.A.units + 10 < cLine) (ho : PE X o td) (hi : PE X i ty) (hs : NoSl i) : PE X (.Subscript o i pos) (tOp (rIxN X.K) td ty) := by
  refine ⟨fun pins s σ H Q I h => ?_⟩
  refine subD_of PySem.F.slot_dict_getitem.lookup hs (thn (ho.run pins s σ H _ I h) fun u s1 ⟨x, H1, I1, rx, q1⟩ => thn (hi.run pins s1 σ H1 _ I1 q1) fun iv s2 ⟨y, H2, I2, ry, q2⟩ => ?_)
  obtain ⟨a, ws, nk, v, rfl, e, ⟨p, kvs, kd, r, rk, c, en⟩, l, q⟩ := q2
  obtain rfl : u = Value.ref a := rx
  exact ⟨raw_typeIs I2 e, u_getItem hu I2 r.nd e (kok_of I2 r rk c en) ry l fun w' s3 I3 rw' => ⟨v, H2, I3, rw', q⟩⟩
theorem set_dct (hu : X.A.units + 10 < cLine) : PSet X (rSetN X.K) := by
  intro pins s σ H o i v ov iv u Q I ro ri rv h
  obtain ⟨a, ws, nk, rfl, e, ⟨p, kvs, kd, r, rk, c, en⟩, hl, hh, q⟩ := h
  obtain rfl : ov = Value.ref a := ro
  refine u_setItem hu I r.nd e hl (fun x hx => ?_) (kok_of I r rk c en) ri rv fun s' I' => ⟨_, I', q⟩
  rcases putW_mem hx with ⟨x', hx', e1, _⟩ | ⟨e1, _⟩
  · rw [← e1]; exact dct_hash r.ks x' hx'
  · rw [e1]; exact hh
def tGetN (K : PySem.W.Frag) (td ty tx : TE) : TE := fun σ H Q => td σ H fun x H1 => ∃ a ws, x = .ref a ∧ RdR H1 a ws ∧ ty σ H1 fun y H2 => tx σ H2 fun z H3 => ∃ ws' nk, RdR H3 a ws' ∧ KeyAt K H3 a y nk ws' ∧ Q ((wV ws' nk).getD z) H3
theorem pe_dnewR : PE X (.Dict [] [] pos) (fun _ H Q => ∀ p, H p = none → (p == sysModules) = false → Q (.ref p) (upd H p (rawO p []))) := ⟨fun pins s σ H Q I h =>
  wpAny_Dict_empty ⟨.ref s.heap.objs.size, _, I.laid (a := s.heap.objs.size) (o := rawO s.heap.objs.size []) (t' := s.toks) (fun _ _ q => Heap.get?_push_of_some _ q) (Nat.le_refl _) raw_empty, rfl, h _ (I.hok.fresh (Nat.le_refl _)) (raw_sm I)⟩⟩
def tTruN (K : PySem.W.Frag) (ta : TE) : TT := fun σ H Q => ta σ H fun x H1 => ∃ a ws p kvs, x = V.ref a ∧ RdR H1 a ws ∧ DctR K H1 p a kvs ws ∧ keysD kvs = true ∧ ws.length ≤ sizeLine ∧ Q (!ws.isEmpty) H1
end
/-! ### the mirrors -/
def opIxN (x k : D) (S : Sto) : R D := match dctOf S x with
  | some kvs => if keyOkD kvs k = true then (match lookN kvs k with
    | some d => .ok d S
    | none => .stuck) else .stuck
  | none => .stuck
def opInN (neg : Bool) (k x : D) (S : Sto) : R D := match dctOf S x with
  | some kvs => if keyOkD kvs k = true then .ok (.bl (if neg = true then !(lookN kvs k).isSome else (lookN kvs k).isSome)) S else .stuck
  | none => .stuck
theorem keyOk_some {kvs : Kvs} {k : D} (c : keyOkD kvs k = true) : ∃ nk, nkD k = some nk := by
  cases k with
  | int i => exact ⟨_, rfl⟩
  | tup ds =>
    simp only [keyOkD, Bool.and_eq_true] at c
    exact Option.isSome_iff_exists.mp c.1.2
  | _ => cases c
theorem hd_ixN {G : GC} : OpD G (rIxN G.K) opIxN := by
  intro p S H x y dx dy W Q s rx ry h
  unfold opIxN at h
  split at h
  · rename_i kvs e
    split at h
    · rename_i c
      obtain ⟨nk, en⟩ := keyOk_some c
      obtain ⟨a, ws, rfl, er, r⟩ := dct_rep s rx e
      rcases dct_look nk en r.ks r.rv with ⟨d, v, e1, e2, rv⟩ | ⟨e1, e2⟩
      · rw [e1] at h
        exact ⟨a, ws, nk, v, rfl, er, ⟨p, kvs, dy, r, ry, c, en⟩, e2, post_v h s rv⟩
      · rw [e1] at h; exact h.elim
    · exact h.elim
  · exact h.elim
def fLenN (ds : List D) (S : Sto) : R D := match ds with
  | [d] => match dctOf S d with
    | some kvs => if keysD kvs = true ∧ kvs.length ≤ 16777216 then .ok (.int kvs.length) S else .stuck
    | none => .stuck
  | _ => .stuck
def mTrN (m : ME) : MB := fun rho S => (m rho S).bind fun d S1 => match dctOf S1 d with
  | some kvs => if keysD kvs = true ∧ kvs.length ≤ 16777216 then .ok (!kvs.isEmpty) S1 else .stuck
  | none => .stuck
def mGetN (o e f : ME) : ME := fun rho S => (o rho S).bind fun x S1 => if (dctOf S1 x).isSome = true then (e rho S1).bind fun k S2 => (f rho S2).bind fun d S3 => match dctOf S3 x with
  | some kvs => if keyOkD kvs k = true then .ok ((lookN kvs k).getD d) S3 else .stuck
  | none => .stuck
  else .stuck
def mNewD : ME := fun _ S => .ok (.ref S.length) (S ++ [.dct []])
def mSubN (o i e : ME) : MS := fun rho S => match e rho S with
  | .ok d S1 => match o rho S1 with
    | .ok x S2 => match i rho S2 with
      | .ok k S3 => match x with
        | .ref n => match S3[n]? with
          | some (.dct kvs) => if keyOkD kvs k = true ∧ kvs.length < 16777216 then .nx rho (S3.set n (.dct (putN kvs k d))) else .stuck
          | _ => .stuck
        | _ => .stuck
      | _ => .stuck
    | _ => .stuck
  | .exc x S1 => .exc x rho S1
  | .stuck => .stuck
theorem u10 {X : Cx} {k : Nat} (hr : Room k X.A) : X.A.units + 10 < cLine := by have := u64 hr; omega
section
variable {X : Cx} {W : WX} {pos apos cpos : Pos} {a b e f o i : Expr} {ma mb me mf mo mi m : ME} {k : Nat}
theorem de_ixN (hr : Room k X.A) (ha : DE X W a ma) (hb : DE X W b mb) (hs : NoSl b := by exact fun _ _ => rfl) : DE X W (.Subscript a b pos) (mOp2 opIxN ma mb) :=
  pe_imp (pe_ixN (u10 hr) ha hb hs) fun _ _ _ h => rd_op2 hd_ixN h
theorem de_newD : DE X W (.Dict [] [] pos) mNewD :=
  pe_imp pe_dnewR fun sig H Q ⟨p, S, rho, hs, hr, h⟩ => by
    intro q hq hsm
    obtain ⟨x, s', r'⟩ := new_mo (mo := .dct []) (o := rawO q []) hs hq ⟨[], upd_same, hsm, rfl, List.nodup_nil, (fun x hx => by cases hx), RepL.nil, RepL.nil⟩
    exact h _ _ _ x s' r'
theorem ds_subN (hr : Room k X.A) {tpos : Pos} (he : DE X W e m) (ho : DE X W o mo) (hi : DE X W i mi) (ha : ∀ v, assign (.Subscript o i tpos) X.env v = (do
      let ov ← holding [v] (eval o X.env)
      let iv ← holding [v, ov] (eval i X.env)
      standAt tpos
      holding [v, ov, iv] (setItem ov iv v)
      release [v, ov, iv] []) := by intro _; rfl) (hs : swapsWithSole [.Subscript o i tpos] e pos.line X.env = Pure.pure false := by rfl) (hw : swappedStores [.Subscript o i tpos] e X.env = Pure.pure none := by rfl) (h1 : (assignEach [.Subscript o i tpos] X.env).map (·.2) = [assign (.Subscript o i tpos) X.env] := by rfl) :
    DS X W (.Assign [.Subscript o i tpos] e pos) (mSubN mo mi m) :=
  ps_imp (ps_asg he (pg_sub ho hi (set_dct (u10 hr)) ha) hs hw h1) fun Dn sig H ⟨p, S, rho, hs, hr, h⟩ => by
    unfold mSubN at h
    refine rd_useS (rel := fun G => RepV G.K) (m := m) (k := fun d S1 => match mo rho S1 with
      | .ok x S2 => match mi rho S2 with
        | .ok k S3 => match x with
          | .ref n => match S3[n]? with
            | some (.dct kvs) => if keyOkD kvs k = true ∧ kvs.length < 16777216 then .nx rho (S3.set n (.dct (putN kvs k d))) else .stuck
            | _ => .stuck
          | _ => .stuck
        | _ => .stuck
      | _ => .stuck) (Dn := Dn) hs hr (by cases hm : m rho S <;> rw [hm] at h <;> exact h) fun d S1 q H1 v x s1 e1 r1 h1 => ?_
    show dE (gOf X) W mo sig H1 fun o H1 => dE (gOf X) W mi sig H1 fun i H2 => rSetN X.K o i v H2 fun H3 => Dn.nx sig H3
    refine ⟨q, S1, rho, s1, e1, ?_⟩
    cases ho : mo rho S1 with
    | ok dx S2 =>
      rw [ho] at h1
      intro q2 H2 vx x2 s2 r2
      refine ⟨q2, S2, rho, s2, EnvRel.ext s1 x2 e1, ?_⟩
      cases hi : mi rho S2 with
      | ok dy S3 =>
        simp only [hi] at h1
        intro q3 H3 vy x3 s3 r3
        split at h1
        · rename_i n
          split at h1
          · rename_i kvs en
            split at h1
            · rename_i c
              obtain ⟨nk, ek⟩ := keyOk_some c.1
              obtain ⟨a, rfl, hn⟩ := RepV.ext s2 x3 _ _ r2
              obtain ⟨b, hb, ws, e2, l⟩ := s3.obj n _ en
              rw [hn] at hb; cases hb
              refine ⟨a, ws, nk, rfl, e2, ⟨q3, kvs, dy, l, r3, c.1, ek⟩, by rw [← dct_len l.ks]; exact lineL c.2, fun w w' => nk_hash w w' _ _ ek, ?_⟩
              have rv := RepV.ext s2 x3 _ _ (RepV.ext s1 x2 _ _ r1)
              have hd : nk.depth ≤ 8 := by
                rw [nk_depth _ _ ek]
                cases dy with
                | int i => exact Nat.zero_le _
                | tup ds =>
                  have := c.1
                  simp only [keyOkD, Bool.and_eq_true, decide_eq_true_eq] at this
                  exact this.2
                | _ => cases c.1
              obtain ⟨x4, s4⟩ := set_mo (mo := .dct (putN kvs dy d)) (o := rawO a (putW ws nk vy v)) s3 hn (by rw [e2]; simp [rawO]) ⟨by simp [rawO], by simp [rawO]⟩ fun x4 => ⟨_, upd_same, (l.put ek hd r3 rv).ext s3 x4⟩
              exact h1 q3 _ sig (x2.trans (x3.trans x4)) s4 (EnvRel.ext s3 x4 (EnvRel.ext s2 x3 (EnvRel.ext s1 x2 e1)))
            · exact h1.elim
          · exact h1.elim
        · exact h1.elim
      | exc x S3 => simp only [hi] at h1; exact h1.elim
      | stuck => simp only [hi] at h1; exact h1.elim
    | exc x S2 => rw [ho] at h1; exact h1.elim
    | stuck => rw [ho] at h1; exact h1.elim
end
end DL

namespace DL
open PySem PySem.Spec PyProof.Rows L2
/-! ### a dict is locked while it is walked -/
section
variable {K : PySem.W.Frag} {H : Hp} {p : Pl} {S : Sto} {a : Addr} {u : HO}
theorem sqX_wr {b : Addr} {xs : List V} (h0 : ∀ o, H a = some o → (∀ xs, o ≠ .tup xs) ∧ ∀ ob xs, o ≠ .frz ob (.tup xs)) (h : SqX K H b xs) : SqX K (upd H a u) b xs := by
  rcases h with ⟨o, h, c⟩ | h
  · exact .inl ⟨o, by rw [upd_ne (fun e => by rw [e] at h; exact (h0 _ h).2 _ _ rfl)]; exact h, c⟩
  · exact .inr h
mutual
theorem RepV.wr (ha : a ∈ p.mu) (h0 : ∀ o, H a = some o → (∀ xs, o ≠ .tup xs) ∧ ∀ ob xs, o ≠ .frz ob (.tup xs)) : ∀ (d : D) (v : V), RepV K H p d v → RepV K (upd H a u) p d v
  | .non, _, h => h
  | .bl _, _, h => h
  | .int _, _, h => h
  | .str _, _, h => h
  | .tup ds, _, h => by
    obtain ⟨b, xs, e, ht, l⟩ := h
    exact ⟨b, xs, e, sqX_wr h0 ht, RepL.wr ha h0 ds xs l⟩
  | .lst ds, _, h => by
    obtain ⟨b, xs, e, ht, hm, hh, l⟩ := h
    exact ⟨b, xs, e, by rw [upd_ne (fun z => hm (by rw [z]; exact ha))]; exact ht, hm, hh, RepL.wr ha h0 ds xs l⟩
  | .ref n, _, h => h
  | .scr ns, _, h => by
    obtain ⟨b, e, ⟨o, ht, hm⟩ | h⟩ := h
    · exact ⟨b, e, .inl ⟨o, by rw [upd_ne (fun z => hm (by rw [z]; exact ha))]; exact ht, hm⟩⟩
    · exact ⟨b, e, .inr h⟩
  | .rng lo hi, _, h => by
    obtain ⟨b, e, ht, hm, hh⟩ := h
    exact ⟨b, e, by rw [upd_ne (fun z => hm (by rw [z]; exact ha))]; exact ht, hm, hh⟩
theorem RepL.wr (ha : a ∈ p.mu) (h0 : ∀ o, H a = some o → (∀ xs, o ≠ .tup xs) ∧ ∀ ob xs, o ≠ .frz ob (.tup xs)) : ∀ (ds : List D) (vs : List V), RepL K H p ds vs → RepL K (upd H a u) p ds vs
  | [], _, h => h
  | d :: ds, _, h => by
    obtain ⟨v, vr, e, h1, h2⟩ := h
    exact ⟨v, vr, e, RepV.wr ha h0 d v h1, RepL.wr ha h0 ds vr h2⟩
end
theorem DctR.wr (ha : a ∈ p.mu) (h0 : ∀ o, H a = some o → (∀ xs, o ≠ .tup xs) ∧ ∀ ob xs, o ≠ .frz ob (.tup xs)) {b : Addr} {kvs : Kvs} {ws : Ws} (h : DctR K H p b kvs ws) : DctR K (upd H a u) p b kvs ws := ⟨h.sm, h.ks, h.nd, h.dp, RepL.wr ha h0 _ _ h.rk, RepL.wr ha h0 _ _ h.rv⟩
theorem MoRel.wr (ha : a ∈ p.mu) (h0 : ∀ o, H a = some o → (∀ xs, o ≠ .tup xs) ∧ ∀ ob xs, o ≠ .frz ob (.tup xs)) {b : Addr} {mo : MO} (hb : b ≠ a) (h : MoRel K H p mo b) : MoRel K (upd H a u) p mo b := by
  cases mo with
  | lst ds => obtain ⟨xs, e, l⟩ := h; exact ⟨xs, by rw [upd_ne hb]; exact e, RepL.wr ha h0 _ _ l⟩
  | dct ds => obtain ⟨xs, e, l⟩ := h; exact ⟨xs, by rw [upd_ne hb]; exact e, l.wr ha h0⟩
  | lkd ds => obtain ⟨xs, o, e, l⟩ := h; exact ⟨xs, o, by rw [upd_ne hb]; exact e, l.wr ha h0⟩
  | ins C fs => obtain ⟨C, dx, vs, g, e, k, l⟩ := h; exact ⟨C, dx, vs, g, by rw [upd_ne hb]; exact e, k, RepL.wr ha h0 _ _ l⟩
  | gone => obtain ⟨o, e, k⟩ := h; exact ⟨o, by rw [upd_ne hb]; exact e, k⟩
theorem StRel.wr (s : StRel K p S H) {n : Nat} {mo : MO} (hn : p.mu[n]? = some a) (m : MoRel K (upd H a u) p mo a) : StRel K p (S.set n mo) (upd H a u) := by
  have ha : a ∈ p.mu := List.mem_of_getElem? hn
  have h0 : ∀ o, H a = some o → (∀ xs, o ≠ .tup xs) ∧ ∀ ob xs, o ≠ .frz ob (.tup xs) := fun o e => by
    obtain ⟨o', e', n⟩ := s.has ha
    rw [e] at e'; cases e'; exact n
  refine ⟨by simp [s.len], s.nd, s.dis, fun b hb => ?_, fun k mo' e => ?_⟩
  · obtain ⟨o, e⟩ := s.hid b hb
    by_cases z : b = a
    · exact ⟨u, by rw [z]; exact upd_same⟩
    · exact ⟨o, by rw [upd_ne z]; exact e⟩
  · by_cases hk : k = n
    · subst hk
      by_cases hl : k < S.length
      · rw [List.getElem?_set_self hl] at e
        cases e
        exact ⟨a, hn, m⟩
      · rw [List.getElem?_eq_none (by simpa using hl)] at e; cases e
    · rw [List.getElem?_set_ne (Ne.symm hk)] at e
      obtain ⟨b, e1, m1⟩ := s.obj k mo' e
      refine ⟨b, e1, m1.wr ha h0 fun z => ?_⟩
      subst z
      obtain ⟨h1, q1⟩ := List.getElem?_eq_some_iff.mp hn
      obtain ⟨h2, q2⟩ := List.getElem?_eq_some_iff.mp e1
      exact hk ((List.getElem_inj s.nd).mp (q2.trans q1.symm))
theorem EnvRel.wr {rho : EnvD} {sig : L2.St} (ha : a ∈ p.mu) (h0 : ∀ o, H a = some o → (∀ xs, o ≠ .tup xs) ∧ ∀ ob xs, o ≠ .frz ob (.tup xs)) (h : EnvRel K H p rho sig) : EnvRel K (upd H a u) p rho sig :=
  ⟨h.1, fun i d e => let ⟨v, e1, r⟩ := h.2 i d e; ⟨v, e1, RepV.wr ha h0 d v r⟩⟩
end
def lockAt (i : Nat) (rho : EnvD) (S : Sto) : Option (Nat × Kvs) := match rho[i]? with
  | some (some (.ref n)) => match S[n]? with
    | some (.dct kvs) => some (n, kvs)
    | _ => none
  | _ => none
def unlS (n : Nat) (S : Sto) : Option Sto := match S[n]? with
  | some (.lkd kvs) => some (S.set n (.dct kvs))
  | _ => none
def unlR (n : Nat) : RS → RS
  | .nx r S => match unlS n S with
    | some S' => .nx r S'
    | none => .stuck
  | .rt d S => match unlS n S with
    | some S' => .rt d S'
    | none => .stuck
  | _ => .stuck
def unlL {A : Type} (n : Nat) : R A → R A
  | .ok a S => match unlS n S with
    | some S' => .ok a S'
    | none => .stuck
  | _ => .stuck
def mLock (i : Nat) (m : MS) : MS := fun rho S => match lockAt i rho S with
  | some nk => unlR nk.1 (m rho (S.set nk.1 (.lkd nk.2)))
  | none => .stuck
def mLockL (i : Nat) (m : ML) : ML := fun rho S => match lockAt i rho S with
  | some nk => unlL nk.1 (m rho (S.set nk.1 (.lkd nk.2)))
  | none => .stuck
section
variable {K : PySem.W.Frag} {H H' : Hp} {p q : Pl} {S S' : Sto} {rho : EnvD} {sig : L2.St} {i n : Nat} {kvs : Kvs}
theorem lock_get (s : StRel K p S H) (e : EnvRel K H p rho sig) (h : lockAt i rho S = some (n, kvs)) : ∃ d ws, p.mu[n]? = some d ∧ H d = some (rawO d ws) ∧ DctR K H p d kvs ws := by
  unfold lockAt at h
  split at h
  · rename_i n' e1
    split at h
    · rename_i kvs' e2
      cases h
      obtain ⟨v, _, a, rfl, hn⟩ := e.2 i _ e1
      obtain ⟨b, hb, ws, e3, l⟩ := s.obj _ _ e2
      rw [hn] at hb; cases hb
      exact ⟨a, ws, hn, e3, l⟩
    · cases h
  · cases h
theorem lock_do {d : Addr} {ws : Ws} (s : StRel K p S H) (hn : p.mu[n]? = some d) (e : H d = some (rawO d ws)) (l : DctR K H p d kvs ws) (od : Obj) : StRel K p (S.set n (.lkd kvs)) (upd H d (.frz od (rawO d ws))) :=
  s.wr hn ⟨ws, od, upd_same, l.wr (List.mem_of_getElem? hn) fun o e' => by rw [e] at e'; cases e'; exact ⟨by simp [rawO], by simp [rawO]⟩⟩
theorem unlock_do {d : Addr} {ws : Ws} {od : Obj} (hn : p.mu[n]? = some d) (e : H d = some (rawO d ws)) (x : Ext p (upd H d (.frz od (rawO d ws))) q H') (s' : StRel K q S' H') {S2 : Sto} (h : unlS n S' = some S2) :
    H' d = some (.frz od (rawO d ws)) ∧ Ext p H q (upd H' d (rawO d ws)) ∧ StRel K q S2 (upd H' d (rawO d ws)) ∧ d ∈ q.mu ∧ (∀ o, H' d = some o → (∀ xs, o ≠ .tup xs) ∧ ∀ ob xs, o ≠ .frz ob (.tup xs)) := by
  have hf : H' d = some (.frz od (rawO d ws)) := x.frz d _ _ upd_same
  have hn' : q.mu[n]? = some d := mu_ext x hn
  have hd : d ∈ p.mu := List.mem_of_getElem? hn
  have hd' : d ∈ q.mu := List.mem_of_getElem? hn'
  have h0 : ∀ o, H' d = some o → (∀ xs, o ≠ .tup xs) ∧ ∀ ob xs, o ≠ .frz ob (.tup xs) := fun o e' => by rw [hf] at e'; cases e'; exact ⟨by simp, by simp [rawO]⟩
  refine ⟨hf, ?_, ?_, hd', h0⟩
  · obtain ⟨more, e1, f1⟩ := x.pre
    have hx : ∀ a, (upd H d (.frz od (rawO d ws))) a = none → a ≠ d ∧ H a = none := fun a z => by
      by_cases c : a = d
      · rw [c, upd_same] at z; cases z
      · rw [upd_ne c] at z; exact ⟨c, z⟩
    refine ⟨x.hid1, fun a z => ?_, ⟨more, e1, fun a z => (hx a (f1 a z)).2⟩, fun b o eb nb => ?_, fun b o eb => ?_, fun b o u eb => ?_⟩
    · rcases x.hid2 a z with z | z
      · exact .inl z
      · exact .inr (hx a z).2
    · have c : b ≠ d := fun z => nb (by rw [z]; exact hd)
      rw [upd_ne c]
      exact x.keep b o (by rw [upd_ne c]; exact eb) nb
    · by_cases c : b = d
      · exact ⟨_, by rw [c]; exact upd_same⟩
      · rw [upd_ne c]
        exact x.there b o (by rw [upd_ne c]; exact eb)
    · have c : b ≠ d := fun z => by rw [z, e] at eb; cases eb
      rw [upd_ne c]
      exact x.frz b o u (by rw [upd_ne c]; exact eb)
  · unfold unlS at h
    split at h
    · rename_i kvs' ek
      cases h
      obtain ⟨b, hb, ws', o', e2, l⟩ := s'.obj n _ ek
      rw [hn'] at hb; cases hb
      rw [hf] at e2
      have e3 : rawO d ws = rawO d ws' := by injection e2 with z; injection z
      exact s'.wr hn' ⟨ws', by rw [e3]; exact upd_same, l.wr hd' h0⟩
    · cases h
end
section
variable {X : Cx} {W : WX} {st : Stmt} {e : Expr} {m : MS} {l : ML}
theorem ds_lock (i : Nat) (h : DS X W st m) : DS X W st (mLock i m) :=
  ps_imp (ps_lock h) fun Dn sig H ⟨p, S, rho, hs, hr, h⟩ => by
    unfold mLock at h
    split at h
    · rename_i nk e1
      obtain ⟨n, kvs⟩ := nk
      obtain ⟨d, ws, hn, e2, l⟩ := lock_get hs hr e1
      refine ⟨d, _, e2, True.intro, fun od => ⟨p, _, rho, lock_do hs hn e2 l od, EnvRel.wr (List.mem_of_getElem? hn) (fun o e' => by rw [e2] at e'; cases e'; exact ⟨by simp [rawO], by simp [rawO]⟩) hr, ?_⟩⟩
      have h : PostS (gOf X) p H W Dn (unlR n (m rho (S.set n (.lkd kvs)))) := h
      generalize m rho (S.set n (.lkd kvs)) = r at h ⊢
      cases r with
      | nx r S' =>
        unfold unlR at h
        intro q H' sig' x s' e'
        cases eu : unlS n S' with
        | none => simp only [eu] at h; exact h.elim
        | some S2 =>
          simp only [eu] at h
          obtain ⟨z1, z2, z3, z4, z5⟩ := unlock_do hn e2 x s' eu
          exact ⟨z1, h q _ sig' z2 z3 (EnvRel.wr z4 z5 e')⟩
      | rt d' S' =>
        unfold unlR at h
        intro q H' v x s' r'
        cases eu : unlS n S' with
        | none => simp only [eu] at h; exact h.elim
        | some S2 =>
          simp only [eu] at h
          obtain ⟨z1, z2, z3, z4, z5⟩ := unlock_do hn e2 x s' eu
          exact ⟨z1, h q _ v z2 z3 (RepV.wr z4 z5 _ _ r')⟩
      | _ => exact h.elim
    · exact h.elim
end
/-! the keys of a locked dict, one by one -/
def Itn (d : Addr) (o : Obj) (ws : Ws) : It :=
  ⟨fun i H => H d = some (.frz o (rawO d ws)) ∧ i < ws.length, fun i H x H' => H' = H ∧ ∃ y, ws[i]? = some y ∧ x = y.2.1, fun i H => H d = some (.frz o (rawO d ws)) ∧ ws.length ≤ i⟩
theorem paired_at {α β : Type} {F : α → β → Prop} : ∀ {xs : List α} {ys : List β}, Paired F xs ys → ∀ {i : Nat} {x : α}, xs[i]? = some x → ∃ y, ys[i]? = some y ∧ F x y
  | _, _, .nil, i, x, h => by simp at h
  | _, _, .cons r t, 0, x, h => by
    have e := Option.some.inj h
    subst e
    exact ⟨_, rfl, r⟩
  | _, _, .cons r t, i + 1, x, h => paired_at t (by simpa using h)
section
variable {X : Cx} {pins : List (Addr × Obj)} {σ : L2.St} {H : Hp} {s : Shared} {d : Addr} {o : Obj} {ws : Ws}
theorem frz_raw (I : Inv X pins σ H s) (h : H d = some (.frz o (rawO d ws))) : s.heap.get? d = some o ∧ o.ExactDict ∧ ∃ es ep, o.data = .dict es ep ∧ Paired entF ws es.toList := by
  obtain ⟨hg, ⟨o', es, ep, h1, h2, h3, h4⟩, _⟩ := I.hok d _ h
  rw [hg] at h1
  cases h1
  exact ⟨hg, h2, es, ep, h3, h4⟩
end
theorem turn_raw {P : Program} {w : World} {K : PySem.W.Frag} {tg : Expr} {d : Addr} {o : Obj} {ws : Ws} {es : Array DictEntry} {ep : Nat} (it : Addr) (hod : o.data = .dict es ep) : Turn P w K tg (Itn d o ws) [it] it (fun i h => h.IsKeyIter it d i ws.length ep) where
  mem := List.mem_singleton.mpr rfl
  obj := fun i h st b hb => by
    cases List.mem_singleton.mp hb
    obtain ⟨oi, e1, _, e3⟩ := st
    exact ⟨oi, e1, fun v z => by rw [e3] at z; cases z⟩
  keep := fun i h h' st k => st.at fun oi e => k it (List.mem_singleton.mpr rfl) oi e
  item := by
    intro X hP hw hK hc i pins s σ H E I hf st hg
    subst hP hw hK
    obtain ⟨hd, hi⟩ := hg
    have F := hf it (List.mem_singleton.mpr rfl)
    obtain ⟨hgd, hx, es', ep', hdt, pr⟩ := frz_raw I hd
    rw [hod] at hdt
    cases hdt
    obtain ⟨en, hen, hen1, _⟩ := paired_at pr (List.getElem?_eq_getElem hi)
    have hsz : es.size = ws.length := by rw [Paired.length pr, Array.length_toList]
    refine next_key_item st hgd hod hsz (by rw [← Array.getElem?_toList]; exact hen) fun h' st' sb => ?_
    have I1 : Inv X pins σ H { s with heap := h' } := I.turned (t' := s.toks) (fun b ob hb e => (sb.2 b hb).trans e) F.1 F.2.1 F.2.2.2.1 F.2.2.2.2.1 F.2.2.2.2.2
    obtain ⟨oi, e1, e2, e3⟩ := id st'
    exact ⟨en.key, rfl, go_of (s := { s with heap := h' }) e1 e2 e3 (by decide) ⟨ws[i].2.1, H, I1, hen1, ⟨rfl, ws[i], List.getElem?_eq_getElem hi, rfl⟩, st', fun b hb => (hf b hb).1⟩⟩
  done := by
    intro X hP hw hK hc i pins s σ H E I hf st hg
    subst hP hw hK
    obtain ⟨hd, hi⟩ := hg
    have F := hf it (List.mem_singleton.mpr rfl)
    obtain ⟨hgd, hx, es', ep', hdt, pr⟩ := frz_raw I hd
    rw [hod] at hdt
    cases hdt
    have hsz : es.size = ws.length := by rw [Paired.length pr, Array.length_toList]
    exact next_key_end (I.ok.hd hc) st hgd hod hsz hi fun h' eb => ⟨rfl, I.turned (t' := s.toks) (fun b o hb e => eb b o hb e) F.1 F.2.1 F.2.2.2.1 F.2.2.2.2.1 F.2.2.2.2.2⟩
  self := fun A i s Q E st h => wpAny_pyIter_keyiter st h
def iKeysR (td : TE) : TI := fun σ H R => td σ H fun x H1 => ∃ d o ws, x = .ref d ∧ (d == sysModules) = false ∧ H1 d = some (.frz o (rawO d ws)) ∧ R (Itn d o ws) H1
theorem pi_keysR {X : Cx} {tg e : Expr} {td : TE} (he : PE X e td) : PI X tg e (iKeysR td) := by
  refine ⟨fun pins s σ H R I h => thn (he.run pins s σ H _ I h) fun u s1 ⟨x, H1, I1, rx, d, o, ws, ex, sm, hd, q⟩ => ?_⟩
  subst ex
  obtain rfl : u = Value.ref d := rx
  obtain ⟨hgd, hx, es, ep, hdt, pr⟩ := frz_raw I1 hd
  have hsz : es.size = ws.length := by rw [Paired.length pr, Array.length_toList]
  refine iter_keys sm hgd hx hdt (pi_one (tk := s1.toks) I1 _ (turn_raw _ hdt) ⟨_, Heap.get?_push_size _ rfl, rfl, ?_⟩ q)
  rw [hsz] <;> rfl
def mItN (m : ME) : MI := fun rho S => (m rho S).bind fun d S1 => match d with
  | .ref n => match S1[n]? with
    | some (.lkd kvs) => .ok (none, kvs.map (·.1)) S1
    | _ => .stuck
  | _ => .stuck
theorem di_keysN {X : Cx} {W : WX} {tg e : Expr} {m : ME} (h : DE X W e m) : DI X W tg e (mItN m) :=
  pi_imp (pi_keysR h) fun sig H Rr ⟨p, S, rho, hs, hr, h⟩ => by
    refine dE_use (rel' := relI) hs hr h fun d S1 q H1 v x s1 e1 r1 h1 => ?_
    split at h1
    · rename_i n
      split at h1
      · rename_i kvs ek
        obtain ⟨a, rfl, hn⟩ := r1
        obtain ⟨b, hb, ws, o, e2, l⟩ := s1.obj n _ ek
        rw [hn] at hb; cases hb
        refine ⟨a, o, ws, rfl, l.sm, e2, h1 q H1 _ Ext.refl s1 fun q' H' S' x' s' _ => ?_⟩
        have hf := x'.frz _ _ _ e2
        have l' := RepL.ext s1 x' _ _ l.rk
        have hl := dct_len l.ks
        refine ⟨fun i d hd => ⟨hf, ?_⟩, fun i d v H2 hd y => ?_, ⟨hf, by rw [List.length_map, hl]; exact Nat.le_refl _⟩⟩
        · have := (List.getElem?_eq_some_iff.mp hd).1
          rw [List.length_map, hl] at this
          exact this
        · obtain ⟨rfl, y, hy, rfl⟩ := y
          refine ⟨fun _ _ z => z, ?_⟩
          obtain ⟨v, hv, rv⟩ := l'.get i d hd
          rw [List.getElem?_map, hy] at hv
          cases hv
          exact rv
      · exact h1.elim
    · exact h1.elim
end DL

namespace DL
open PySem PySem.Spec PyProof.Rows L2
/-! ### a display of one pair -/
def tDisp1 (ok : V → NestedKey → Hp → Prop) (tk tv : TE) : TE := fun σ H Q => ∀ p, H p = none → (p == sysModules) = false → tk σ (upd H p (rawO p [])) fun y H1 => tv σ H1 fun z H2 => ∃ nk, ok y nk H2 ∧ (∀ w w', nk.hash w = nk.hash w') ∧ H2 p = some (rawO p []) ∧ Q (.ref p) (upd H2 p (rawO p [(nk, y, z)]))
def okInt (y : V) (nk : NestedKey) (_ : Hp) : Prop := ∃ i, y = .int i ∧ nk = .num i
def okTup (K : PySem.W.Frag) (y : V) (nk : NestedKey) (H : Hp) : Prop := ∃ p ds, RepV K H p (.tup ds) y ∧ nkD (.tup ds) = some nk ∧ nk.depth ≤ 8
section
variable {X : Cx} {k v : Expr} {tk tv : TE} {pos : Pos}
end
def mDisp1 (ok : D → Bool) (k v : ME) : ME := fun rho S => (k rho (S ++ [.dct []])).bind fun x S1 => (v rho S1).bind fun y S2 => if ok x = true then (match S2[S.length]? with
  | some (.dct []) => .ok (.ref S.length) (S2.set S.length (.dct [(x, y)]))
  | _ => .stuck) else .stuck
def okTD : D → Bool
  | .tup ds => (nkD (.tup ds)).isSome && decide (dpD (.tup ds) ≤ 8)
  | _ => false
section
variable {G : GC} {W : WX} {mk mv : ME} {sig : L2.St} {H : Hp} {Q : VK}
end
section
variable {X : Cx} {W : WX} {pos : Pos} {ek ev : Expr} {mk mv : ME} {n : Nat}
end
/-! ### dict comprehensions -/
/-- one more pair -/
def rPutR (K : PySem.W.Frag) (b : Addr) (y z : V) (H : Hp) (Nx : Hp → Prop) : Prop := ∃ ws nk, H b = some (rawO b ws) ∧ KeyAt K H b y nk ws ∧ ws.length < sizeLine ∧ (∀ w w', nk.hash w = nk.hash w') ∧ Nx (upd H b (rawO b (putW ws nk y z)))
section
variable {X : Cx}
def tDcR (K : PySem.W.Frag) (wi : TI) (g : TG) (tt : TT) (tk tv : TE) (vs : List Nat) : TE := fun σ H Q => wi σ H fun J H1 => ∀ b, H1 b = none → (b == sysModules) = false → ∃ W : Nat → Nat → Hp → Prop, (∃ m, W 0 m (upd H1 b (rawO b []))) ∧ ∀ i m H, W i m H →
  (J.stop i H ∧ Q (.ref b) H) ∨ (J.go i H ∧ ∃ Nx : Hp → Prop, (∀ H', Nx H' → ∃ m', m' < m ∧ W (i + 1) m' H') ∧ ∀ x H', J.yld i H x H' → g x (L2.wipe σ vs) H' fun σ2 H2 => L2.wipe σ2 vs = L2.wipe σ vs ∧ tt σ2 H2 fun c H3 =>
    if c = true then tk σ2 H3 fun y H4 => tv σ2 H4 fun z H5 => rPutR K b y z H5 Nx else Nx H3)
end
end DL

namespace DL
open PySem PySem.Spec PyProof.Rows L2
open Classical in
noncomputable def foldK (g : Option (Nat × List D)) (step : D → Kvs → Sto → R Kvs) : List D → Kvs → Sto → R Kvs
  | [], acc, S => if Grd g S then .ok acc S else .stuck
  | d :: ds, acc, S => if Grd g S then (match step d acc S with
    | .ok acc' S' => foldK g step ds acc' S'
    | _ => .stuck) else .stuck
def dcPut (ek ev : ME) (r : EnvD) (acc : Kvs) (S : Sto) : R Kvs := match ek r S with
  | .ok k S2 => match ev r S2 with
    | .ok v S3 => if keyOkD acc k = true ∧ acc.length < 16777216 then .ok (putN acc k v) S3 else .stuck
    | _ => .stuck
  | _ => .stuck
def dcStep (T : Tg) (tt : MB) (ek ev : ME) (rho : EnvD) (d : D) (acc : Kvs) (S : Sto) : R Kvs := match tgSet T d rho with
  | some r => match tt r S with
    | .ok b S1 => if b = true then dcPut ek ev r acc S1 else .ok acc S1
    | _ => .stuck
  | none => .stuck
def dcEnd (r : R Kvs) : R D := r.bind fun kvs S => .ok (.ref S.length) (S ++ [.dct kvs])
noncomputable def mDc (it : MI) (T : Tg) (tt : MB) (ek ev : ME) (vs : List Nat) : ME := fun rho S => (it rho S).bind fun a S1 => dcEnd (foldK a.1 (dcStep T tt ek ev (wipeD rho vs)) a.2 [] S1)
structure DcAt (G : GC) (p0 : Pl) (H0 : Hp) (b : Addr) (rho : EnvD) (sig : L2.St) (q : Pl) (S : Sto) (acc : Kvs) (Hx : Hp) : Prop where
  x : Ext p0 H0 q (L2.del Hx b)
  s : StRel G.K q S (L2.del Hx b)
  e : EnvRel G.K (L2.del Hx b) q rho sig
  l : ∃ ws, Hx b = some (rawO b ws) ∧ DctR G.K (L2.del Hx b) q b acc ws
section
variable {G : GC} {p0 q q' : Pl} {H0 H' Hx : Hp} {b : Addr} {rho : EnvD} {sig : L2.St} {S S' : Sto} {acc : Kvs}
theorem DcAt.hn (a : DcAt G p0 H0 b rho sig q S acc Hx) : ¬ q.hid b := fun z => by
  obtain ⟨o, e⟩ := a.s.hid b z
  exact (del_some e).1 rfl
theorem DcAt.nm (a : DcAt G p0 H0 b rho sig q S acc Hx) : b ∉ q.mu := fun z => by
  obtain ⟨o, e, _⟩ := a.s.has z
  exact (del_some e).1 rfl
theorem DcAt.go (a : DcAt G p0 H0 b rho sig q S acc Hx) (x : Ext (q.hide b) Hx q' H') (s : StRel G.K q' S' H') : DcAt G p0 H0 b rho sig (q'.unhide b) S' acc H' := by
  obtain ⟨ws, hb, l⟩ := a.l
  have hb' : H' b = some (rawO b ws) := x.keep b _ hb a.nm
  have y := x.unhide a.hn
  exact ⟨a.x.trans y, s.unhide free_raw hb' (x.hid1 b (.inl rfl)), EnvRel.ext a.s y a.e, ws, hb', l.ext a.s y⟩
theorem DcAt.turns {it : It0} {J : It} (a : DcAt G p0 H0 b rho sig q S acc Hx) (h0 : H0 b = none) (r : relI G H0 p0 it J) (g : Grd it.1 S) : Turns G.K (q.hide b) Hx it.2 J := by
  obtain ⟨ws, hb, l⟩ := a.l
  obtain ⟨more, e1, f1⟩ := a.x.pre
  refine r (q.hide b) Hx S ⟨fun c h => .inr (a.x.hid1 c h), fun c h => ?_, ⟨more, e1, f1⟩, fun c o e n => (del_some (a.x.keep c o e n)).2, fun c o e => let ⟨o', e'⟩ := a.x.there c o e; ⟨o', (del_some e').2⟩, fun c o u e => (del_some (a.x.frz c o u e)).2⟩ (a.s.hide hb) g
  rcases h with rfl | h
  · exact .inr h0
  · exact a.x.hid2 c h
end
section
variable {X : Cx} {W : WX} {kx vx tg iter : Expr} {ifs : List Expr} {scope : Scope} {own : List (Str × Nat)} {pos : Pos} {it : MI} {T : Tg} {tt : MB} {mk mv : ME} {n : Nat}
end
end DL

namespace DL
open PySem PySem.Spec PyProof.Rows L2
/-! ### the order of data -/
mutual
def alikeD : D → D → Bool
  | .non, .non => true
  | .bl _, .bl _ => true
  | .int _, .int _ => true
  | .str _, .str _ => true
  | .lst xs, .lst ys => alikeL xs ys
  | .tup xs, .tup ys => alikeL xs ys
  | _, _ => false
def alikeL : List D → List D → Bool
  | x :: xs, y :: ys => alikeD x y && alikeL xs ys
  | [], _ => true
  | _ :: _, [] => true
end
mutual
def lessD : D → D → Bool
  | .bl a, .bl b => decide (b2i a < b2i b)
  | .int i, .int j => decide (i < j)
  | .str x, .str y => decide (x.cps.toList < y.cps.toList)
  | .lst xs, .lst ys => lessL xs ys
  | .tup xs, .tup ys => lessL xs ys
  | _, _ => false
def lessL : List D → List D → Bool
  | [], [] => false
  | [], _ :: _ => true
  | _ :: _, [] => false
  | x :: xs, y :: ys => if eqD x y = true then lessL xs ys else lessD x y
end
mutual
theorem alike_pd : ∀ (x y : D) (a b : PyData), pd0 x = some a → pd0 y = some b → W.alike a b = alikeD x y
  | .ref _, _, _, _, h, _ => by cases h
  | .scr _, _, _, _, h, _ => by cases h
  | .rng _ _, _, _, _, h, _ => by cases h
  | .non, y, a, b, h, k => by
    cases h
    cases y <;> simp only [pd0] at k <;> first | (cases k; done) | (cases k; rfl) | (split at k <;> cases k <;> rfl)
  | .bl u, y, a, b, h, k => by
    cases h
    cases y <;> simp only [pd0] at k <;> first | (cases k; done) | (cases k; rfl) | (split at k <;> cases k <;> rfl)
  | .int u, y, a, b, h, k => by
    cases h
    cases y <;> simp only [pd0] at k <;> first | (cases k; done) | (cases k; rfl) | (split at k <;> cases k <;> rfl)
  | .str u, y, a, b, h, k => by
    cases h
    cases y <;> simp only [pd0] at k <;> first | (cases k; done) | (cases k; rfl) | (split at k <;> cases k <;> rfl)
  | .tup ds, y, a, b, h, k => by
    unfold pd0 at h
    split at h
    · rename_i es e
      cases h
      cases y with
      | tup fs =>
        unfold pd0 at k
        split at k
        · rename_i gs g
          cases k
          exact alike_pdL ds fs es gs e g
        · cases k
      | _ => simp only [pd0] at k <;> first | (cases k; done) | (cases k; rfl) | (split at k <;> cases k <;> rfl)
    · cases h
  | .lst ds, y, a, b, h, k => by
    unfold pd0 at h
    split at h
    · rename_i es e
      cases h
      cases y with
      | lst fs =>
        unfold pd0 at k
        split at k
        · rename_i gs g
          cases k
          exact alike_pdL ds fs es gs e g
        · cases k
      | _ => simp only [pd0] at k <;> first | (cases k; done) | (cases k; rfl) | (split at k <;> cases k <;> rfl)
    · cases h
theorem alike_pdL : ∀ (xs ys : List D) (as bs : List PyData), pdL xs = some as → pdL ys = some bs → W.alikeAll as bs = alikeL xs ys
  | [], [], _, _, h, k => by cases h; cases k; rfl
  | [], y :: ys, _, _, h, k => by
    cases h
    unfold pdL at k
    split at k
    · cases k; rfl
    · cases k
  | x :: xs, [], _, _, h, k => by
    cases k
    unfold pdL at h
    split at h
    · cases h; rfl
    · cases h
  | x :: xs, y :: ys, _, _, h, k => by
    unfold pdL at h k
    split at h
    · rename_i a as e1 e2
      split at k
      · rename_i b bs f1 f2
        cases h; cases k
        show (W.alike a b && W.alikeAll as bs) = (alikeD x y && alikeL xs ys)
        rw [alike_pd x y a b e1 f1, alike_pdL xs ys as bs e2 f2]
      · cases k
    · cases h
end
theorem lexb {p q : Int ⊕ List Nat} (h : PyProof.Rows.lexLt itemOrd [p] [q] = true) (l m : List (Int ⊕ List Nat)) (hne : p ≠ q) : PyProof.Rows.lexLt itemOrd (p :: l) (q :: m) = true := by rw [W.lex_atom hne]; exact h
mutual
theorem less_pd : ∀ (x y : D) (a b : PyData), pd0 x = some a → pd0 y = some b → alikeD x y = true → W.dataLt a b = lessD x y
  | .ref _, _, _, _, h, _, _ => by cases h
  | .scr _, _, _, _, h, _, _ => by cases h
  | .rng _ _, _, _, _, h, _, _ => by cases h
  | .non, y, a, b, h, k, c => by
    cases h
    cases y <;> first | (simp [alikeD] at c; done) | (cases k; simp only [W.dataLt, W.keyToks, lessD, PyProof.Rows.lexLt])
  | .bl u, y, a, b, h, k, c => by
    cases h
    cases y <;> first | (simp [alikeD] at c; done) | (cases k; rw [W.dataLt_bool, lessD])
  | .int u, y, a, b, h, k, c => by
    cases h
    cases y <;> first | (simp [alikeD] at c; done) | (cases k; rw [W.dataLt_int, lessD])
  | .str u, y, a, b, h, k, c => by
    cases h
    cases y <;> first | (simp [alikeD] at c; done) | (cases k; rw [W.dataLt_str, lessD])
  | .tup ds, y, a, b, h, k, c => by
    unfold pd0 at h
    split at h
    · rename_i es e
      cases h
      cases y with
      | tup fs =>
        unfold pd0 at k
        split at k
        · rename_i gs g
          cases k
          rw [W.dataLt_tuple]
          exact less_pdL ds fs es gs e g c
        · cases k
      | _ => simp [alikeD] at c
    · cases h
  | .lst ds, y, a, b, h, k, c => by
    unfold pd0 at h
    split at h
    · rename_i es e
      cases h
      cases y with
      | lst fs =>
        unfold pd0 at k
        split at k
        · rename_i gs g
          cases k
          rw [W.dataLt_list]
          exact less_pdL ds fs es gs e g c
        · cases k
      | _ => simp [alikeD] at c
    · cases h
theorem less_pdL : ∀ (xs ys : List D) (as bs : List PyData), pdL xs = some as → pdL ys = some bs → alikeL xs ys = true → PyProof.Rows.lexLt itemOrd (W.keyToksAll as) (W.keyToksAll bs) = lessL xs ys
  | [], [], _, _, h, k, _ => by cases h; cases k; rfl
  | [], y :: ys, _, _, h, k, _ => by
    cases h
    unfold pdL at k
    split at k
    · cases k
      rw [W.toks_all_cons]
      exact lexb (by rw [W.lex_one]; rfl) _ _ (by simp)
    · cases k
  | x :: xs, [], _, _, h, k, _ => by
    cases k
    unfold pdL at h
    split at h
    · cases h
      rw [W.toks_all_cons]
      show PyProof.Rows.lexLt itemOrd (Sum.inl 1 :: _) [Sum.inl 0] = false
      rw [W.lex_atom (by simp), W.lex_one]; rfl
    · cases h
  | x :: xs, y :: ys, _, _, h, k, c => by
    unfold pdL at h k
    unfold alikeL at c
    rw [Bool.and_eq_true] at c
    split at h
    · rename_i a as e1 e2
      split at k
      · rename_i b bs f1 f2
        cases h; cases k
        have ha : W.alike a b = true := by rw [alike_pd x y a b e1 f1]; exact c.1
        unfold lessL
        rw [← eqv_D x y a b e1 f1]
        cases ev : PyData.eqv a b with
        | true => rw [if_pos rfl, W.dataLt_all_yes ha ev]; exact less_pdL xs ys as bs e2 f2 c.2
        | false => rw [if_neg Bool.false_ne_true, W.dataLt_all_no ha ev]; exact less_pd x y a b e1 f1 c.1
      · cases k
    · cases h
end
/-- an order's operator: what is compared, the answer -/
def rLtD (K : PySem.W.Frag) (f : PyData → PyData → Bool) : R2 := fun x y H Q => ∃ a b, Dp K H x a ∧ Dp K H y b ∧ W.alike a b = true ∧ a ≠ .none ∧ a.depth ≤ 64 ∧ Q (.bl (f a b)) H
section
variable {X : Cx} {n : Nat}
end
def opOrd (f : D → D → Bool) (x y : D) (S : Sto) : R D :=
  let a := seen S x
  let b := seen S y
  if okD a = true ∧ okD b = true ∧ alikeD a b = true ∧ isNon a = false ∧ dpD a ≤ 64 then .ok (.bl (f a b)) S else .stuck
abbrev opLtD := opOrd lessD
abbrev opGtD := opOrd fun x y => lessD y x
end DL
/-! ### sorting with empty tuples among others -/
namespace PySem.W
open PySem PySem.Calls PyProof.Rows PySem.SeqAt
section
variable {prog : Program} {w : World} {A : Around} {E : Value → Shared → Prop} {s : Shared}
end
end PySem.W

namespace PySem.W
open PySem PySem.Calls PyProof.Rows PySem.SeqAt
section
variable {prog : Program} {w : World} {A : Around} {E : Value → Shared → Prop} {s : Shared}
end
end PySem.W
namespace DL
open PySem PySem.Spec PyProof.Rows L2
/-! ### sorted(..) of a list, a tuple, a dict -/
def SrcV (K : PySem.W.Frag) (H : Hp) (a : Addr) (xs : List V) : Prop := SqL K H a xs ∨ SqT K H a xs ∨ ∃ ws, RdR H a ws ∧ (a == sysModules) = false ∧ xs = ws.map (·.2.1)
def rSortedD (K : PySem.W.Frag) : List V → Hp → VK → Prop := fun vs H Q => ∃ (a : Addr) (zs : List (V × PyData)), vs = [V.ref a] ∧ SrcV K H a (zs.map (·.1)) ∧ DpAll K H (zs.map (·.1)) (zs.map (·.2)) ∧ W.AllAlike (zs.map (·.2)) ∧ (∀ d ∈ zs.map (·.2), d ≠ .none) ∧ (∀ d ∈ zs.map (·.2), d.depth ≤ 60) ∧ zs.length ≤ sizeLine ∧
  ∀ p, H p = none → Q (.ref p) (upd H p (.lst ((zs.mergeSort (W.dataLe false Prod.snd)).map (·.1))))
section
variable {X : Cx} {n : Nat}
theorem vals_each {zs : List (V × PyData)} : ∀ {us : List Value}, Vals (zs.map (·.1)) us → W.EachIs (fun v z => RelV z.1 v) us zs := by
  induction zs with
  | nil => intro us h; cases h; exact .nil
  | cons z zs ih =>
    intro us h
    cases h with
    | cons h t => exact .cons h (ih t)
theorem reads_each {pins : List (Addr × Obj)} {σ : L2.St} {H : Hp} {s : Shared} (I : Inv X pins σ H s) : ∀ {zs : List (V × PyData)} {us : List Value}, DpAll X.K H (zs.map (·.1)) (zs.map (·.2)) → Vals (zs.map (·.1)) us → W.EachIs (fun v z => ∃ as, Reads s.heap v z.2 as) us zs
  | [], _, _, h => by cases h; exact .nil
  | z :: zs, _, d, h => by
    cases d with
    | cons d1 d2 =>
      cases h with
      | cons h t => exact .cons (Dp.reads I z.2 _ _ d1 h) (reads_each I d2 t)
end
def itemsD (S : Sto) (d : D) : Option (List D) := match dctOf S d with
  | some kvs => some (kvs.map (·.1))
  | none => seqOf S d
def leD (a b : D) : Bool := !lessD b a
def allAlike (ds : List D) : Bool := ds.all fun x => ds.all fun y => alikeD x y
def sortOk (ds : List D) : Bool := okL ds && allAlike ds && ds.all (fun d => !isNon d) && decide (dpL ds ≤ 60) && decide (ds.length ≤ 16777216)
def sortD (ds : List D) : List D := ds.mergeSort leD
def gSortedD (ds : List D) (S : Sto) : R (List D) := match ds with
  | [d] => match itemsD S d with
    | some xs => if sortOk xs = true then .ok (sortD xs) S else .stuck
    | none => .stuck
  | _ => .stuck
/-- items, values, data in one row -/
theorem zip3 {K : PySem.W.Frag} {H : Hp} {p : Pl} : ∀ {ds : List D} {xs : List V} {es : List PyData}, RepL K H p ds xs → pdL ds = some es → ∃ zs : List (D × V × PyData), zs.map (·.1) = ds ∧ zs.map (·.2.1) = xs ∧ zs.map (·.2.2) = es ∧ (∀ z ∈ zs, RepV K H p z.1 z.2.1 ∧ pd0 z.1 = some z.2.2)
  | [], xs, es, r, h => by cases h; cases (show xs = [] from r); exact ⟨[], rfl, rfl, rfl, fun z h => by cases h⟩
  | d :: ds, xs, es, r, h => by
    obtain ⟨v, vr, rfl, r1, r2⟩ := r
    unfold pdL at h
    split at h
    · rename_i a as e1 e2
      cases h
      obtain ⟨zs, h1, h2, h3, h4⟩ := zip3 r2 e2
      refine ⟨(d, v, a) :: zs, by rw [List.map_cons, h1], by rw [List.map_cons, h2], by rw [List.map_cons, h3], fun z hz => ?_⟩
      rcases List.mem_cons.mp hz with rfl | hz
      · exact ⟨r1, e1⟩
      · exact h4 z hz
    · cases h
theorem pdL_depth : ∀ {ds : List D} {es : List PyData}, okL ds = true → pdL ds = some es → ∀ e ∈ es, e.depth ≤ dpL ds := by
  intro ds es ho h e he
  obtain ⟨es', e1, hcan, e3⟩ := pdL_ok ds ho
  rw [h] at e1; cases e1
  rw [← e3]
  clear h ho e3 hcan
  induction es with
  | nil => cases he
  | cons a as ih =>
    show e.depth ≤ max a.depth (PyData.depthAll as)
    rcases List.mem_cons.mp he with rfl | he
    · exact Nat.le_max_left _ _
    · exact Nat.le_trans (ih he) (Nat.le_max_right _ _)
section
variable {X : Cx} {W : WX} {pos q0 : Pos} {e : Expr} {es : List Expr} {t : MA} {n : Nat}
end
/-! ### min(..), max(..) of a list -/
def rMinD (K : PySem.W.Frag) (f : PyData → List PyData → PyData) : List V → Hp → VK → Prop := fun vs H Q => ∃ (a : Addr) (x : V) (xs : List V) (d : PyData) (ds : List PyData), vs = [V.ref a] ∧ SqL K H a (x :: xs) ∧ DpAll K H (x :: xs) (d :: ds) ∧ PySem.W.AlikeAll (d :: ds) ∧ PyData.depthAll (d :: ds) ≤ 60 ∧
  ∀ (i : Nat) (v : V), (x :: xs : List V)[i]? = some v → (d :: ds : List PyData)[i]? = some (f d ds) → Q v H
end DL

namespace DL
open PySem PySem.Spec PyProof.Rows L2
/-! ### the words of dicts, order and sorting -/
section
variable {X : Ex → Sto → Prop} {Q : D → Sto → Prop} {QB : Bool → Sto → Prop} {QL : List D → Sto → Prop} {E : Es} {rho : EnvD} {S : Sto} {i n : Nat} {a b c : ME} {x y d k : D} {kvs : Kvs} {neg : Bool} {f : D → D → Bool}
theorem o_ixN : wE (opIxN x k S) X Q = ∃ kvs, dctOf S x = some kvs ∧ keyOkD kvs k = true ∧ ∃ d, lookN kvs k = some d ∧ Q d S := by
  unfold opIxN
  cases e : dctOf S x with
  | none => simp [wE_stuck]
  | some kvs =>
    cases c : keyOkD kvs k with
    | false => simp [wE_stuck, c]
    | true => cases l : lookN kvs k <;> simp [wE_stuck, wE_ok, c, l]
theorem w_trN : wE (mTrN a rho S) X QB = wE (a rho S) X fun d S1 => ∃ kvs, dctOf S1 d = some kvs ∧ (keysD kvs = true ∧ kvs.length ≤ 16777216) ∧ QB (!kvs.isEmpty) S1 := by
  unfold mTrN; rw [wE_bind]; congr 1; funext d S1
  cases e : dctOf S1 d with
  | none => simp [wE_stuck]
  | some kvs => simp [wE_guard, wE_ok]
theorem w_getN : wE (mGetN a b c rho S) X Q = wE (a rho S) X fun x S1 => (dctOf S1 x).isSome = true ∧ wE (b rho S1) X fun k S2 => wE (c rho S2) X fun d S3 => ∃ kvs, dctOf S3 x = some kvs ∧ keyOkD kvs k = true ∧ Q ((lookN kvs k).getD d) S3 := by
  unfold mGetN; rw [wE_bind]; congr 1; funext x S1
  rw [wE_guard, wE_bind]; congr 2; funext k S2; rw [wE_bind]; congr 1; funext d S3
  cases e : dctOf S3 x with
  | none => simp [wE_stuck]
  | some kvs => simp [wE_guard, wE_ok]
theorem w_newD : wE (mNewD rho S) X Q = Q (.ref S.length) (S ++ [.dct []]) := by unfold mNewD; exact wE_ok
theorem wS_mSubN {o i e : ME} : wS (mSubN o i e rho S) E = wE (e rho S) (fun x S' => E.ex x rho S') fun d S1 => wE (o rho S1) (fun _ _ => False) fun x S2 => wE (i rho S2) (fun _ _ => False) fun k S3 =>
    ∃ n, x = .ref n ∧ ∃ kvs, S3[n]? = some (.dct kvs) ∧ (keyOkD kvs k = true ∧ kvs.length < 16777216) ∧ E.nx rho (S3.set n (.dct (putN kvs k d))) := by
  unfold mSubN
  cases e rho S with
  | exc x S1 => rw [wE_exc, wS_z]; rfl
  | stuck => rw [wE_stuck, wS_stuck]
  | ok d S1 =>
    rw [wE_ok]
    cases h1 : o rho S1 with
    | exc x S2 => simp only [h1, wE_exc, wS_stuck]
    | stuck => simp only [h1, wE_stuck, wS_stuck]
    | ok x S2 =>
      rw [wE_ok]
      cases h2 : i rho S2 with
      | exc x S3 => simp only [h1, h2, wE_exc, wS_stuck]
      | stuck => simp only [h1, h2, wE_stuck, wS_stuck]
      | ok k S3 =>
        rw [wE_ok]
        simp only [h1, h2]
        cases x with
        | ref n =>
          dsimp only
          cases e3 : S3[n]? with
          | none => simp [wS_stuck, e3]
          | some mo =>
            cases mo with
            | dct kvs =>
              dsimp only
              by_cases c : keyOkD kvs k = true ∧ kvs.length < 16777216
              · simp only [if_pos c, wS_nx]
                exact propext ⟨fun h => ⟨n, rfl, kvs, e3, c, h⟩, fun ⟨n', e', kvs', e4, _, h⟩ => by cases e'; rw [e3] at e4; cases e4; exact h⟩
              · simp only [if_neg c, wS_stuck]
                exact propext ⟨fun h => h.elim, fun ⟨n', e', kvs', e4, c', h⟩ => by cases e'; rw [e3] at e4; cases e4; exact c c'⟩
            | _ => simp [wS_stuck, e3]
        | _ => simp [wS_stuck]
theorem w_disp1 {ok : D → Bool} : wE (mDisp1 ok a b rho S) X Q = wE (a rho (S ++ [.dct []])) X fun x S1 => wE (b rho S1) X fun y S2 => ok x = true ∧ S2[S.length]? = some (.dct []) ∧ Q (.ref S.length) (S2.set S.length (.dct [(x, y)])) := by
  unfold mDisp1; rw [wE_bind]; congr 1; funext x S1; rw [wE_bind]; congr 1; funext y S2; rw [wE_guard]; congr 1
  cases e : S2[S.length]? with
  | none => simp [wE_stuck]
  | some mo =>
    cases mo with
    | dct kvs => cases kvs <;> simp [wE_stuck, wE_ok]
    | _ => simp [wE_stuck]
theorem w_itN {QI : It0 → Sto → Prop} : wE (mItN a rho S) X QI = wE (a rho S) X fun d S1 => ∃ n, d = .ref n ∧ ∃ kvs, S1[n]? = some (.lkd kvs) ∧ QI (none, kvs.map (·.1)) S1 := by
  unfold mItN; rw [wE_bind]; congr 1; funext d S1
  cases d with
  | ref n =>
    cases e : S1[n]? with
    | none => simp [wE_stuck, e]
    | some mo => cases mo <;> simp [wE_stuck, wE_ok, e]
  | _ => simp [wE_stuck]
theorem w_itT {QI : It0 → Sto → Prop} : wE (mItT a rho S) X QI = wE (a rho S) X fun d S1 => ∃ ds, d = .tup ds ∧ QI (none, ds) S1 := by
  unfold mItT; rw [wE_bind]; congr 1; funext d S1
  cases d <;> simp [wE_stuck, wE_ok]
theorem lock_at (hi : rho[i]? = some (some (.ref n))) (e : S[n]? = some (.dct kvs)) : lockAt i rho S = some (n, kvs) := by unfold lockAt; simp only [hi, e]
theorem wS_lock {m : MS} (hi : rho[i]? = some (some (.ref n))) (e : S[n]? = some (.dct kvs)) (h : wS (m rho (S.set n (.lkd kvs))) ⟨fun r S' => ∃ kvs', S'[n]? = some (.lkd kvs') ∧ E.nx r (S'.set n (.dct kvs')), fun d S' => ∃ kvs', S'[n]? = some (.lkd kvs') ∧ E.rt d (S'.set n (.dct kvs')), fun _ _ => False, fun _ _ => False, fun _ _ _ => False⟩) : wS (mLock i m rho S) E := by
  unfold mLock
  simp only [lock_at hi e]
  generalize m rho (S.set n (.lkd kvs)) = r at h ⊢
  cases r with
  | nx r S' =>
    rw [wS_nx] at h
    obtain ⟨kvs', e1, h⟩ := h
    unfold unlR unlS
    simp only [e1]
    rw [wS_nx]; exact h
  | rt d S' =>
    rw [wS_rt] at h
    obtain ⟨kvs', e1, h⟩ := h
    unfold unlR unlS
    simp only [e1]
    rw [wS_rt]; exact h
  | bk r S' => rw [wS_z] at h; exact False.elim h
  | ct r S' => rw [wS_z] at h; exact False.elim h
  | exc x r S' => rw [wS_z] at h; exact False.elim h
  | stuck => rw [wS_stuck] at h; exact h.elim
end
/-! ### keys -/
theorem lookN_cons {kv : D × D} {kvs : Kvs} {k : D} : lookN (kv :: kvs) k = if nkD kv.1 = nkD k then some kv.2 else lookN kvs k := by
  unfold lookN
  rw [List.find?_cons]
  by_cases h : nkD kv.1 = nkD k
  · simp [h]
  · simp [h]
theorem putN_keys {kvs : Kvs} {k v : D} {kv : D × D} (h : kv ∈ putN kvs k v) : kv.1 = k ∨ ∃ kv' ∈ kvs, kv'.1 = kv.1 := by
  unfold putN at h
  split at h
  · obtain ⟨kv', h1, rfl⟩ := List.mem_map.mp h
    refine .inr ⟨kv', h1, ?_⟩
    split <;> rfl
  · rcases List.mem_append.mp h with h | h
    · exact .inr ⟨kv, h, rfl⟩
    · cases List.mem_singleton.mp h; exact .inl rfl
def putsN (kvs : Kvs) (l : List (D × D)) : Kvs := l.foldl (fun acc kv => putN acc kv.1 kv.2) kvs
/-- all the keys are of one kind -/
def KeysI (kvs : Kvs) : Prop := ∀ kv ∈ kvs, isI kv.1 = true
def KeysT (kvs : Kvs) : Prop := ∀ kv ∈ kvs, isTp kv.1 = true
theorem keyOk_tup {kvs : Kvs} {ds : List D} (h : KeysT kvs) (h1 : okTD (.tup ds) = true) : keyOkD kvs (.tup ds) = true := by
  unfold okTD at h1; unfold keyOkD
  dsimp only at h1 ⊢
  rw [Bool.and_assoc, h1, Bool.and_true, List.all_eq_true]; exact h
theorem KeysI.put {kvs : Kvs} {i : Int} {v : D} (h : KeysI kvs) : KeysI (putN kvs (.int i) v) := fun kv hk => by
  rcases putN_keys hk with e | ⟨kv', h1, h2⟩
  · rw [e]; rfl
  · rw [← h2]; exact h _ h1
theorem KeysT.put {kvs : Kvs} {ds : List D} {v : D} (h : KeysT kvs) : KeysT (putN kvs (.tup ds) v) := fun kv hk => by
  rcases putN_keys hk with e | ⟨kv', h1, h2⟩
  · rw [e]; rfl
  · rw [← h2]; exact h _ h1
/-! ### dict comprehensions -/
theorem w_dc {it : MI} {T : Tg} {tt : MB} {ek ev : ME} {vs : List Nat} {rho : EnvD} {S : Sto} {X : Ex → Sto → Prop} {Q : D → Sto → Prop} : wE (mDc it T tt ek ev vs rho S) X Q = wE (it rho S) X fun a S1 => wE (foldK a.1 (dcStep T tt ek ev (wipeD rho vs)) a.2 [] S1) X fun kvs S2 => Q (.ref S2.length) (S2 ++ [.dct kvs]) := by
  unfold mDc dcEnd; rw [wE_bind]; congr 1; funext a S1; rw [wE_bind]; congr 1; funext kvs S2; rw [wE_ok]
section
variable {T : Tg} {tt : MB} {ek ev : ME} {rho : EnvD} {X : Ex → Sto → Prop}
end
end DL

namespace DL
open PySem PySem.Spec PyProof.Rows L2
/-! ### a, b = a list -/
def mAsgL (Ts : List Tg) (m : ME) : MS := fun rho S => match m rho S with
  | .ok d S1 => match lstOf S1 d with
    | some ds => match tgSetL Ts ds rho with
      | some r => .nx r S1
      | none => .stuck
    | none => .stuck
  | .exc x S1 => .exc x rho S1
  | .stuck => .stuck
section
variable {X : Cx} {W : WX} {pos tpos : Pos} {es : List Expr} {e : Expr} {k : Nat} {m : ME}
end
theorem wS_mAsgL {Ts : List Tg} {m : ME} {rho : EnvD} {S : Sto} {E : Es} : wS (mAsgL Ts m rho S) E = wE (m rho S) (fun x S' => E.ex x rho S') fun d S' => ∃ ds, lstOf S' d = some ds ∧ ∃ r, tgSetL Ts ds rho = some r ∧ E.nx r S' := by
  unfold mAsgL
  cases m rho S with
  | exc x S1 => rw [wE_exc, wS_z]; rfl
  | stuck => rw [wE_stuck, wS_stuck]
  | ok d S1 =>
    rw [wE_ok]
    cases h : lstOf S1 d with
    | none => simp [wS_stuck, h]
    | some ds => cases h2 : tgSetL Ts ds rho <;> simp [wS_stuck, wS_nx, h, h2]
end DL

namespace PySem.W
open PySem PySem.Calls PyProof.Rows PySem.SeqAt
section
variable {prog : Program} {w : World} {A : Around} {E : Value → Shared → Prop} {s : Shared}
end
end PySem.W
namespace DL
open PySem PySem.Spec PyProof.Rows L2
/-- objects added -/
theorem inv_grow {X : Cx} {pins : List (Addr × Obj)} {σ : L2.St} {H H' : Hp} {s : Shared} {h' : Heap} {tk : Nat} (I : Inv X pins σ H s) (hk : ∀ b o, s.heap.get? b = some o → h'.get? b = some o) (kp : ∀ b u, H b = some u → H' b = some u)
    (nw : ∀ b u, H' b = some u → H b = some u ∨ (s.heap.objs.size ≤ b ∧ ObjOk X.prog X.w H' h' b u)) : Inv X pins σ H' { s with heap := h', toks := tk } := by
  refine I.call' (ch := []) rfl ⟨fun b o q _ _ _ => hk b o q, fun b o q _ _ _ => ⟨o.slots, hk b o q⟩, fun b o q n _ => ?_, fun b o q _ => ⟨o, hk b o q⟩, fun b xs q => kp b _ q, fun b o u q => kp b _ q, fun b ps q => ⟨#[], by rw [kp b _ q]; simp⟩⟩ (fun b u q => ?_) I.bare fun b z => by simp at z
  · cases e : H' b with
    | none => rfl
    | some u =>
      rcases nw b u e with z | z
      · rw [n] at z; cases z
      · exact absurd (Heap.lt_size q) (Nat.not_lt.mpr z.1)
  · rcases nw b u q with z | z
    · exact (I.hok b u z).stay (fun d v _ y => hk d v y) (fun d y => kp d _ y) fun d xs y => kp d _ y
    · exact z.2
/-- the object of a pair of a dict's items -/
def pairO (e : DictEntry) : Obj := { cls := .type "tuple", data := .seq #[e.key, e.val] }
/-- pairs tracked at their addresses -/
def putP : Hp → List Addr → List (Obj × V × V) → Hp
  | H, a :: as, w :: ws => putP (upd H a (.frz w.1 (.tup [w.2.1, w.2.2]))) as ws
  | H, _, _ => H
theorem putP_off {b : Addr} : ∀ (as : List Addr) (ws : List (Obj × V × V)) (H : Hp), b ∉ as → putP H as ws b = H b
  | [], _, _, _ => rfl
  | _ :: _, [], _, _ => rfl
  | a :: as, w :: ws, H, h => by
    show putP (upd H a (.frz w.1 (.tup [w.2.1, w.2.2]))) as ws b = H b
    rw [putP_off as ws _ (fun z => h (List.mem_cons_of_mem _ z)), upd_ne (fun z => h (by rw [z]; exact List.mem_cons_self))]
theorem putP_at : ∀ (as : List Addr) (ws : List (Obj × V × V)) (H : Hp), as.length = ws.length → as.Nodup → ∀ (j : Nat) (a : Addr) (w : Obj × V × V), as[j]? = some a → ws[j]? = some w → putP H as ws a = some (.frz w.1 (.tup [w.2.1, w.2.2]))
  | [], _, _, _, _, j, a, w, ha, _ => by simp at ha
  | _ :: _, [], _, h, _, _, _, _, _, _ => by cases h
  | a :: as, w :: ws, H, h, hn, j, b, u, ha, hu => by
    have hn' := List.nodup_cons.mp hn
    show putP (upd H a (.frz w.1 (.tup [w.2.1, w.2.2]))) as ws b = _
    cases j with
    | zero =>
      cases ha; cases hu
      rw [putP_off as ws _ hn'.1, upd_same]
    | succ j => exact putP_at as ws _ (Nat.succ.inj h) hn'.2 j b u (by simpa using ha) (by simpa using hu)
theorem pair_at {α β : Type} {F : α → β → Prop} : ∀ {xs : List α} {ys : List β}, Paired F xs ys → ∀ {i : Nat} {y : β}, ys[i]? = some y → ∃ x, xs[i]? = some x ∧ F x y
  | _, _, .nil, i, y, h => by simp at h
  | _, _, .cons r t, 0, y, h => by cases h; exact ⟨_, rfl, r⟩
  | _, _, .cons r t, i + 1, y, h => pair_at t (by simpa using h)
abbrev DE4 := (NestedKey × V × V) × PyData × PyData
def rSortItems (K : PySem.W.Frag) : List V → Hp → VK → Prop := fun vs H Q => ∃ (p a : Addr) (zs : List DE4), vs = [V.ref p] ∧ H p = some (DX.itemsO p a) ∧ RdR H a (zs.map (·.1)) ∧ (∀ z ∈ zs, Dp K H z.1.2.1 z.2.1 ∧ Dp K H z.1.2.2 z.2.2) ∧ W.AllAlike (zs.map fun z => .tuple [z.2.1, z.2.2]) ∧ (∀ z ∈ zs, (PyData.tuple [z.2.1, z.2.2]).depth ≤ 60) ∧ zs.length ≤ sizeLine ∧
  ∀ (H' : Hp) (l : Addr) (ts : List (Addr × DE4)), (∀ b o, H b = some o → H' b = some o) → H' l = none → ts.map (·.2) = zs.mergeSort (W.dataLe false fun z => .tuple [z.2.1, z.2.2]) → (∀ t ∈ ts, ∃ o, XT o ∧ H' t.1 = some (.frz o (.tup [t.2.1.2.1, t.2.1.2.2]))) → Q (.ref l) (upd H' l (.lst (ts.map fun t => V.ref t.1)))
section
variable {X : Cx} {n : Nat}
def rItemsR : V → List V → Hp → VK → Prop := fun x xs H Q => ∃ (a : Addr) (ws : Ws), x = .ref a ∧ xs = [] ∧ RdR H a ws ∧ (a == sysModules) = false ∧ ∀ p, H p = none → Q (.ref p) (upd H p (DX.itemsO p a))
theorem mt_itemsR : MtR X "dict.items" rItemsR := by
  intro pins s σ H x xs v us Q I rx rxs h
  obtain ⟨a, ws, rfl, rfl, hR, sm, q⟩ := h
  cases rx
  cases rxs
  obtain ⟨o, es, ep, h1, h2, h3, h4⟩ := rd_raw I.hok hR
  refine DT.callItems (es := es) (ep := ep) sm ⟨o, h1, h2, h3⟩ ?_
  have hf : H s.heap.objs.size = none := I.hok.fresh (Nat.le_refl _)
  exact ⟨.ref s.heap.objs.size, upd H s.heap.objs.size (DX.itemsO s.heap.objs.size a), I.laid (t' := s.toks) (fun b u e => Heap.get?_push_of_some _ e) (Nat.le_refl _) (DX.itemsO_ok (Heap.get?_push_size _ rfl)), rfl, q _ hf⟩
end
end DL

namespace DL
open PySem PySem.Spec PyProof.Rows L2
/-! ### sorted(d.items()), list(d.items()) -/
def tItemsR (to : TE) : TE := fun σ H Q => to σ H fun x H1 => ∃ (a : Addr) (ws : Ws), x = .ref a ∧ RdR H1 a ws ∧ (a == sysModules) = false ∧ ∀ p, H1 p = none → Q (.ref p) (upd H1 p (DX.itemsO p a))
theorem pe_itemsR {X : Cx} {o : Expr} {to : TE} {apos cpos : Pos} (ho : PE X o to) (hbase : attributeBase o "items" X.env (eval o X.env) = eval o X.env := by rfl) (hline : (apos.endLine == cpos.line) = true := by rfl) : PE X (.Call (.Attribute o "items" apos) [] [] cpos) (tItemsR to) := by
  refine ⟨fun pins s σ H Q I h => ?_⟩
  refine wpAny_Call_method0_late hbase hline (thn (ho.run pins s σ H _ I h) fun v s1 ⟨x, H1, I1, r1, a, ws, ex, hR, sm, q1⟩ => ?_)
  subst ex
  obtain rfl : v = Value.ref a := r1
  exact ⟨"dict", "dict.items", PySem.F.plainAttrs_dict, PySem.F.slot_dict_items, PySem.F.type_dict_items, raw_typeIs I1 hR, raw_noDict I1 hR, Calls.callWith_builtin rfl (PySem.evalArgs_none (mt_itemsR pins s1 σ H1 (.ref a) [] (.ref a) [] Q I1 rfl .nil ⟨a, ws, rfl, rfl, hR, sm, q1⟩))⟩
def itemsL (kvs : Kvs) : List D := kvs.map fun kv => .tup [kv.1, kv.2]
def mSortIt (m : ME) : ML := fun rho S => (m rho S).bind fun d S1 => match dctOf S1 d with
  | some kvs => if sortOk (itemsL kvs) = true then .ok (sortD (itemsL kvs)) S1 else .stuck
  | none => .stuck
abbrev TZ := (D × D) × DE4
section
variable {X : Cx} {W : WX} {pos cpos apos q0 : Pos} {e : Expr} {m : ME} {n : Nat}
end
theorem w_sortIt {m : ME} {rho : EnvD} {S : Sto} {X : Ex → Sto → Prop} {QL : List D → Sto → Prop} : wE (mSortIt m rho S) X QL = wE (m rho S) X fun d S1 => ∃ kvs, dctOf S1 d = some kvs ∧ sortOk (itemsL kvs) = true ∧ QL (sortD (itemsL kvs)) S1 := by
  unfold mSortIt; rw [wE_bind]; congr 1; funext d S1
  cases e : dctOf S1 d with
  | none => simp [wE_stuck]
  | some kvs => simp [wE_guard, wE_ok]
end DL

namespace HT
open PySem PySem.Spec PyProof.Rows PySem.SeqAt
section
variable {prog : Program} {w : World} {A : Around} {E : Value → Shared → Prop} {s : Shared}
end
end HT
namespace DL
open PySem PySem.Spec PyProof.Rows L2
/-! ### x[::-1] -/
def tRev (K : PySem.W.Frag) (te ts : TE) : TE := fun σ H Q => te σ H fun x H1 => ts σ H1 fun y H2 => y = .int (-1) ∧ ∃ a xs, x = .ref a ∧ ((SqT K H2 a xs ∧ NewT H2 Q xs.reverse) ∨ (SqL K H2 a xs ∧ ∀ p, H2 p = none → Q (.ref p) (upd H2 p (.lst xs.reverse))))
def mRev (m : ME) : ME := fun rho S => (m rho S).bind fun d S1 => match d with
  | .tup ds => .ok (.tup ds.reverse) S1
  | x => match lstOf S1 x with
    | some ds => .ok (.lst ds.reverse) S1
    | none => .stuck
theorem RepL.reverse {K : PySem.W.Frag} {H : Hp} {p : Pl} : ∀ {ds : List D} {xs : List V}, RepL K H p ds xs → RepL K H p ds.reverse xs.reverse
  | [], xs, h => by cases (show xs = [] from h); exact RepL.nil
  | d :: ds, xs, h => by
    obtain ⟨v, vr, rfl, r, t⟩ := h
    rw [List.reverse_cons, List.reverse_cons]
    exact (RepL.reverse t).append (RepL.cons r RepL.nil)
end DL

namespace DL
open PySem PySem.Spec PyProof.Rows L2
/-! ### x.index(y), x a list or a tuple of plain data -/
/-- d's first place among ds is j -/
def FirstP (ds : List PyData) (d : PyData) (j : Nat) : Prop := ∃ z, ds[j]? = some z ∧ PyData.eqv z d = true ∧ ∀ (m : Nat) (z' : PyData), m < j → ds[m]? = some z' → PyData.eqv z' d = false
def tIdx (K : PySem.W.Frag) (to : TE) (ta : TA) : TE := fun σ H Q => to σ H fun x H1 => ∃ a, x = .ref a ∧ ((∃ xs, SqL K H1 a xs ∧ ta σ H1 fun ys H2 => ∃ y d ds j, ys = [y] ∧ Dp K H2 (.ref a) (.list ds) ∧ Dp K H2 y d ∧ SeqAt.shaped (.list ds) = true ∧ SeqAt.shaped d = true ∧ FirstP ds d j ∧ Q (.int (j : Nat)) H2) ∨
  (∃ xs, SqX K H1 a xs ∧ ta σ H1 fun ys H2 => ∃ y d ds j zs, ys = [y] ∧ SqT K H2 a zs ∧ DpAll K H2 zs ds ∧ Dp K H2 y d ∧ SeqAt.shaped (.list ds) = true ∧ SeqAt.shaped d = true ∧ FirstP ds d j ∧ Q (.int (j : Nat)) H2))
/-- the index of y in x -/
def gIdx (x : D) (ds : List D) (S : Sto) : R D := match ds with
  | [y] => match seqOf S x with
    | some us => if okL us = true ∧ okD y = true ∧ dpL us < 64 ∧ dpD y ≤ 64 then (match us.findIdx? (fun z => eqD z y) with
      | some j => .ok (.int (j : Nat)) S
      | none => .stuck) else .stuck
    | none => .stuck
  | _ => .stuck
def isSeq (S : Sto) (d : D) : Bool := (seqOf S d).isSome
def mIdx (o : ME) (t : MA) : ME := fun rho S => (o rho S).bind fun x S1 => if isSeq S1 x = true then (t rho S1).bind fun ds S2 => gIdx x ds S2 else .stuck
theorem w_idx {a : ME} {t : MA} {rho : EnvD} {S : Sto} {X : Ex → Sto → Prop} {Q : D → Sto → Prop} : wE (mIdx a t rho S) X Q = wE (a rho S) X fun d S1 => (seqOf S1 d).isSome = true ∧ wE (t rho S1) X fun ds S2 => ∃ y us j, ds = [y] ∧ seqOf S2 d = some us ∧ (okL us = true ∧ okD y = true ∧ dpL us < 64 ∧ dpD y ≤ 64) ∧ us.findIdx? (fun z => eqD z y) = some j ∧ Q (.int (j : Nat)) S2 := by
  unfold mIdx; rw [wE_bind]; congr 1; funext d S1
  rw [wE_ite, wE_bind]
  unfold isSeq
  by_cases c : (seqOf S1 d).isSome = true
  · rw [if_pos c]
    simp only [c, true_and]
    congr 1; funext ds S2
    unfold gIdx
    rcases ds with _ | ⟨y, _ | ⟨z, r⟩⟩
    · simp [wE_stuck]
    · cases e : seqOf S2 d with
      | none => simp [wE_stuck, e]
      | some us =>
        simp only [e]
        by_cases k : okL us = true ∧ okD y = true ∧ dpL us < 64 ∧ dpD y ≤ 64
        · rw [if_pos k]
          cases f : us.findIdx? (fun z => eqD z y) with
          | none => simp [wE_stuck, f]
          | some j => simp [wE_ok, f, k]
        · rw [if_neg k, wE_stuck]
          simp [k]
    · simp [wE_stuck]
  · rw [if_neg c, wE_stuck]; simp [c]
end DL

namespace DL
open PySem PySem.Spec PyProof.Rows L2
/-! ### own exception classes: made and raised -/
/-- what an own __init__ does that only keeps its arguments -/
def spIni (C : Addr) (fs : List Str) : Sp := fun vs H Q _ => ∃ (a : Addr) (ys : List V), vs = .ref a :: ys ∧ ys.length = fs.length ∧ H a = some (exo a C none) ∧
  ∀ (dx : Addr) (H' : Hp), H dx = none → dx ≠ a → H' a = some (exo a C (some dx)) → H' dx = some (exd dx (fs.zip ys).reverse) → (∀ b, b ≠ a → b ≠ dx → H' b = H b) → Q .non H'
theorem spIni_len {C : Addr} {fs : List Str} : ∀ vs H Q E, spIni C fs vs H Q E → vs.length = fs.length + 1 := fun vs H Q E ⟨a, ys, e, hl, _⟩ => by rw [e, List.length_cons, hl]
theorem ini1 {K : PySem.W.Frag} {C : Addr} {f s p : Str} {vs : List V} {H : Hp} {Q : VK} {E : XK} (T : OexC K C) (hno : PySem.W.findIn K (.ref C) f = some none) (h : spIni C [f] vs H Q E) :
    tOst K f (tVar 0) (tVar 1) { nx := fun _ H' => Q .non H', rt := Q } (L2.start [s, p] vs) H := by
  obtain ⟨a, ys, rfl, hl, ha, k⟩ := h
  match ys, hl with
  | [y], _ =>
    refine ⟨y, rfl, _, rfl, a, C, rfl, T, hno, .inl ⟨ha, fun dx nx ne => k dx _ nx ne upd_same ?_ fun b h1 h2 => ?_⟩⟩
    · rw [upd_ne ne]; exact upd_same
    · rw [upd_ne h1, upd_ne h2]
/-- where an own exception class stands: its name, its __init__'s names, its fields -/
structure XC (P : Program) (w : World) (K : PySem.W.Frag) (mg : Str → Option Value) (base : Heap) (x : Str) (ps fs : List Str) : Prop where
  at_ : ∃ (C fI : Addr) (fd : FuncData), mg x = some (.ref C) ∧ OexC K C ∧ PySem.W.findIn K (.ref C) "__init__" = some (some (.ref fI)) ∧ PySem.W.typeIn K (.ref fI) = some (.type "function") ∧
    FnOk P w K mg base (L2.CX P w) 1 fI fd ps (spIni C fs) ∧ Binds K fd ps []
def mRz (x : Str) (fs : List Str) (t : MA) : MS := fun rho S => match t rho S with
  | .ok ds S1 => if ds.length = fs.length then .exc ⟨x, (fs.zip ds).reverse⟩ rho S1 else .stuck
  | .exc e S1 => .exc e rho S1
  | .stuck => .stuck
theorem RepL.rev {K : PySem.W.Frag} {H : Hp} {p : Pl} : ∀ {ds : List D} {vs : List V}, RepL K H p ds vs → RepL K H p ds.reverse vs.reverse
  | [], vs, h => by cases (show vs = [] from h); exact RepL.nil
  | d :: ds, _, h => by
    obtain ⟨v, vr, rfl, h1, h2⟩ := h
    rw [List.reverse_cons, List.reverse_cons]
    exact RepL.append (RepL.rev h2) (RepL.cons h1 RepL.nil)
theorem ds_raise {X : Cx} {W : WX} {x : Str} {ps fs : List Str} {k : Nat} {p pos pos2 : Pos} {e : Expr} {es : List Expr} {t : MA} (hc : X.calm = true) (C : XC X.prog X.w X.K X.mg X.base x ps fs) (hr : Room k X.A) (hk : 2 ≤ k) (hfs : fs.length ≤ 900) (tk : Takes X W) (ha : DA X W (e :: es) t)
    (hg : Gl X x := by rfl) (hdb : (x == ("__debug__" : Str)) = false := by decide) (he : starEach (e :: es) X.env = (false, eval e X.env) :: starEach es X.env := by rfl) (hpl : (backTo pos (starEach es X.env)).any (·.1) = false := by rfl) :
    DS X W (.Raise (some (.Call (.Name x p) (e :: es) [] pos)) none pos2) (mRz x fs t) := by
  obtain ⟨C, fI, fd, gC, T, iC, tI, F1, hb⟩ := C.at_
  refine ps_imp (ps_raise hc tk (pmk_oex (ds := []) (dvs := []) T iC tI F1 (hr.mono hk) hb .nil passL hg gC ha hdb he hpl)) fun Dn sig H ⟨p, S, rho, hs, hr, h⟩ => ?_
  refine rd_useS (rel := fun G => RepL G.K) (m := t) (k := fun ds S1 => if ds.length = fs.length then .exc ⟨x, (fs.zip ds).reverse⟩ rho S1 else .stuck) (Dn := Dn) hs hr (by unfold mRz at h; cases hm : t rho S <;> rw [hm] at h <;> exact h) fun ds S1 q H1 vs x1 s1 e1 r1 h1 => ?_
  split at h1
  case isFalse => exact h1.elim
  rename_i hl
  have hv : vs.length = fs.length := by rw [← RepL.length r1]; exact hl
  refine ⟨by omega, fun a na => ⟨a, vs ++ [], rfl, by rw [List.append_nil]; exact hv, upd_same, fun dx H' nx ne ea ed keep => ⟨rfl, dx, _, ea, ed, ?_, ?_⟩⟩⟩
  · rw [upd_ne ne] at nx; exact nx
  · rw [upd_ne ne] at nx
    have hH : upd (L2.del H' a) dx (HO.xd (fs.zip (vs ++ [])).reverse) = upd H1 dx (HO.xd (fs.zip (vs ++ [])).reverse) := by
      funext b
      by_cases hb : b = dx
      · rw [hb, upd_same, upd_same]
      · rw [upd_ne hb, upd_ne hb]
        by_cases h2 : b = a
        · rw [h2, del_same]; exact na.symm
        · rw [del_ne h2, keep b h2 hb, upd_ne h2]
    rw [hH, List.append_nil]
    have xx := Ext.of_same (p := q) (same_upd (o := HO.xd (fs.zip vs).reverse) nx)
    refine h1 q _ sig (.ref C) (some dx) xx (s1.same (same_upd nx)) (EnvRel.ext s1 xx e1) ⟨C, dx, (fs.zip vs).reverse, gC, rfl, rfl, upd_same, (s1.free nx).1, ?_, ?_⟩
    · rw [List.map_reverse, List.map_reverse, List.map_fst_zip (by omega), List.map_fst_zip (by omega)]
    · rw [List.map_reverse, List.map_reverse, List.map_snd_zip (by omega), List.map_snd_zip (by omega)]
      exact RepL.rev (RepL.ext s1 xx _ _ r1)
/-! ### what a suite knows of its exception -/
def SuR (G : GC) (i : Nat) (a : Addr) (cls : Value) (d : Option Addr) (x : Ex) (H : Hp) (p : Pl) (sig : L2.St) : Prop := sig[i]? = some (some (.ref a)) ∧ ExR G H p x cls d
theorem SuR.ext {G : GC} {i : Nat} {a : Addr} {cls : Value} {d : Option Addr} {x : Ex} {H H' : Hp} {p q : Pl} {S : Sto} {sig : L2.St} (s : StRel G.K p S H) (e : Ext p H q H') (h : SuR G i a cls d x H p sig) : SuR G i a cls d x H' q sig := by
  obtain ⟨h1, C, dx, vs, e1, e2, e3, e4, e5, e6, e7⟩ := h
  refine ⟨h1, C, dx, vs, e1, e2, e3, e.keep _ _ e4 e5, ?_, e6, RepL.ext s e _ _ e7⟩
  obtain ⟨more, em, fm⟩ := e.pre
  rw [em]
  intro z
  rcases List.mem_append.mp z with z | z
  · exact e5 z
  · rw [fm dx z] at e4; cases e4
abbrev UM (A : Type) := Ex → EnvD → Sto → R A
def ru {A B : Type} (rel : GC → Hp → Pl → A → B → Prop) (G : GC) (i : Nat) (a : Addr) (cls : Value) (d : Option Addr) (m : UM A) : L2.St → Hp → (B → Hp → Prop) → Prop := fun sig H Q =>
  ∃ p S rho x, StRel G.K p S H ∧ EnvRel G.K H p rho sig ∧ SuR G i a cls d x H p sig ∧ Post (rel G) G p H (fun _ _ _ => False) Q (m x rho S)
def uE (G : GC) (i : Nat) (a : Addr) (cls : Value) (d : Option Addr) (m : UM D) : TE := ru (fun G => RepV G.K) G i a cls d m
def uB (G : GC) (i : Nat) (a : Addr) (cls : Value) (d : Option Addr) (m : UM Bool) : TT := ru (fun _ => relB) G i a cls d m
def uA (G : GC) (i : Nat) (a : Addr) (cls : Value) (d : Option Addr) (m : UM (List D)) : TA := ru (fun G => RepL G.K) G i a cls d m
def uS (G : GC) (i : Nat) (a : Addr) (cls : Value) (d : Option Addr) (m : Ex → MS) : TS := fun Dn sig H => ∃ p S rho x, StRel G.K p S H ∧ EnvRel G.K H p rho sig ∧ SuR G i a cls d x H p sig ∧ PostS G p H (fun _ _ _ _ => False) Dn (m x rho S)
section
variable {X : Cx} {i : Nat} {a : Addr} {cls : Value} {d : Option Addr} {pos : Pos} {e e1 e2 c : Expr} {es : List Expr} {m m1 m2 : UM D} {n n1 n2 : UM Bool} {t : UM (List D)} {st : Stmt} {sts sts2 : List Stmt} {u v : Ex → MS}
def UE (X : Cx) (i : Nat) (a : Addr) (cls : Value) (d : Option Addr) (e : Expr) (m : UM D) : Prop := PE X e (uE (gOf X) i a cls d m)
def UT (X : Cx) (i : Nat) (a : Addr) (cls : Value) (d : Option Addr) (e : Expr) (m : UM Bool) : Prop := PT X e (uB (gOf X) i a cls d m)
def UW (X : Cx) (i : Nat) (a : Addr) (cls : Value) (d : Option Addr) (e : Expr) (m : UM Bool) : Prop := PW X e (uB (gOf X) i a cls d m)
def UA (X : Cx) (i : Nat) (a : Addr) (cls : Value) (d : Option Addr) (es : List Expr) (m : UM (List D)) : Prop := PA X es (uA (gOf X) i a cls d m)
def US (X : Cx) (i : Nat) (a : Addr) (cls : Value) (d : Option Addr) (st : Stmt) (m : Ex → MS) : Prop := PS X st (uS (gOf X) i a cls d m)
def USs (X : Cx) (i : Nat) (a : Addr) (cls : Value) (d : Option Addr) (st : List Stmt) (m : Ex → MS) : Prop := PSs X st (uS (gOf X) i a cls d m)
/-- a test that returns, then a further statement: the suite's slots stay -/
def mIfR (n : UM Bool) (m : UM D) (v : Ex → MS) : Ex → MS := fun x rho S => match n x rho S with
  | .ok k S1 => if k = true then mRet (m x) rho S1 else v x rho S1
  | .exc z S1 => .exc z rho S1
  | .stuck => .stuck
/-! ### the exception's fields -/
/-- the classes whose field f may be read -/
def XfX (K : PySem.W.Frag) (mg : Str → Option Value) (f : Str) (ok : List Str) : Prop := ∀ n ∈ ok, ∃ C, mg n = some (.ref C) ∧ XfC K C ∧ PySem.W.findIn K (.ref C) f = some none
def mXf (f : Str) (ok : List Str) : UM D := fun x _ S => if x.cls ∈ ok then (match x.fs.lookup f with
  | some y => .ok y S
  | none => .stuck) else .stuck
/-- which classes are subclasses of the class c, which are not -/
def IsX (K : PySem.W.Frag) (mg : Str → Option Value) (c : Value) (b : Bool) (l : List Str) : Prop := ∀ n ∈ l, ∃ C, mg n = some (.ref C) ∧ ExcC K C ∧ PySem.W.kitOne K (.ref C) c = some b
def mIsX (yes no : List Str) : UM Bool := fun x _ S => if x.cls ∈ yes then .ok true S else if x.cls ∈ no then .ok false S else .stuck
end
/-! ### try, with one clause that names its exception -/
/-- which classes the clause of the class c takes, which it passes by -/
def ExX (K : PySem.W.Frag) (mg : Str → Option Value) (c : Value) (b : Bool) (l : List Str) : Prop := ∀ n ∈ l, ∃ C, mg n = some (.ref C) ∧ PySem.W.exmOne K (.ref C) c = some b
/-- behind a suite its name is gone -/
def offS (i : Nat) : RS → RS
  | .nx r S => .nx (r.set i none) S
  | .rt d S => .rt d S
  | .bk r S => .bk (r.set i none) S
  | .ct r S => .ct (r.set i none) S
  | .exc _ _ _ => .stuck
  | .stuck => .stuck
def mTry1 (b : MS) (yes no : List Str) (i : Nat) (su : Ex → MS) : MS := fun rho S => match b rho S with
  | .exc x r S1 => if x.cls ∈ yes then (if i < r.length then offS i (su x (r.set i none) S1) else .stuck) else if x.cls ∈ no then .exc x r S1 else .stuck
  | r => r
end DL

namespace DL
open PySem PySem.Spec PyProof.Rows L2
/-! words for raise and try -/
section
variable {rho : EnvD} {S : Sto} {E : Es} {X : Ex → Sto → Prop}
theorem wS_exc {x : Ex} : wS (.exc x rho S) E = E.ex x rho S := by rw [wS_z]; rfl
theorem wS_bk : wS (.bk rho S) E = E.bk rho S := by rw [wS_z]; rfl
theorem wS_ct : wS (.ct rho S) E = E.ct rho S := by rw [wS_z]; rfl
theorem wS_mRz {x : Str} {fs : List Str} {t : MA} : wS (mRz x fs t rho S) E = wE (t rho S) (fun x S' => E.ex x rho S') fun ds S' => ds.length = fs.length ∧ E.ex ⟨x, (fs.zip ds).reverse⟩ rho S' := by
  unfold mRz
  cases t rho S with
  | exc x S1 => rw [wE_exc, wS_exc]
  | stuck => rw [wE_stuck, wS_stuck]
  | ok ds S1 =>
    rw [wE_ok]
    show wS (if ds.length = fs.length then _ else _) E = _
    by_cases c : ds.length = fs.length
    · rw [if_pos c, wS_exc]; simp [c]
    · rw [if_neg c, wS_stuck]; simp [c]
/-- behind a suite -/
abbrev esOff (i : Nat) (E : Es) : Es := ⟨fun r S => E.nx (r.set i none) S, E.rt, fun r S => E.bk (r.set i none) S, fun r S => E.ct (r.set i none) S, fun _ _ _ => False⟩
theorem wS_off {i : Nat} {r : RS} : wS (offS i r) E = wS r (esOff i E) := by
  cases r with
  | nx r S => show wS (.nx (r.set i none) S) E = _; rw [wS_nx, wS_nx]
  | rt r S => show wS (.rt r S) E = _; rw [wS_rt, wS_rt]
  | bk r S => show wS (.bk (r.set i none) S) E = _; rw [wS_bk, wS_bk]
  | ct r S => show wS (.ct (r.set i none) S) E = _; rw [wS_ct, wS_ct]
  | exc x r S => show wS .stuck E = _; rw [wS_stuck, wS_exc]
  | stuck => show wS .stuck E = _; rw [wS_stuck, wS_stuck]
theorem wS_mTry1 {b : MS} {yes no : List Str} {i : Nat} {su : Ex → MS} : wS (mTry1 b yes no i su rho S) E = wS (b rho S) { E with ex := fun x r S1 => if x.cls ∈ yes then i < r.length ∧ wS (su x (r.set i none) S1) (esOff i E) else x.cls ∈ no ∧ E.ex x r S1 } := by
  unfold mTry1
  cases b rho S with
  | nx r S' => show wS (.nx r S') E = _; rw [wS_nx, wS_nx]
  | rt d S' => show wS (.rt d S') E = _; rw [wS_rt, wS_rt]
  | bk r S' => show wS (.bk r S') E = _; rw [wS_bk, wS_bk]
  | ct r S' => show wS (.ct r S') E = _; rw [wS_ct, wS_ct]
  | stuck => show wS .stuck E = _; rw [wS_stuck, wS_stuck]
  | exc x r S1 =>
    rw [wS_exc]
    show wS (if x.cls ∈ yes then _ else _) E = if x.cls ∈ yes then _ else _
    by_cases c : x.cls ∈ yes
    · rw [if_pos c, if_pos c]
      by_cases c2 : i < r.length
      · rw [if_pos c2, wS_off]; simp [c2]
      · rw [if_neg c2, wS_stuck]; simp [c2]
    · rw [if_neg c, if_neg c]
      by_cases c2 : x.cls ∈ no
      · rw [if_pos c2, wS_exc]; simp [c2]
      · rw [if_neg c2, wS_stuck]; simp [c2]
theorem w_Xf {f : Str} {ok : List Str} {x : Ex} {Q : D → Sto → Prop} : wE (mXf f ok x rho S) X Q = (x.cls ∈ ok ∧ ∃ y, x.fs.lookup f = some y ∧ Q y S) := by
  unfold mXf
  by_cases c : x.cls ∈ ok
  · rw [if_pos c]
    cases e : x.fs.lookup f with
    | none => simp [wE_stuck]
    | some y => simp [wE_ok, c]
  · rw [if_neg c, wE_stuck]; simp [c]
theorem w_IsX {yes no : List Str} {x : Ex} {Q : Bool → Sto → Prop} : wE (mIsX yes no x rho S) X Q = if x.cls ∈ yes then Q true S else x.cls ∈ no ∧ Q false S := by
  unfold mIsX
  by_cases c : x.cls ∈ yes
  · rw [if_pos c, if_pos c, wE_ok]
  · rw [if_neg c, if_neg c]
    by_cases c2 : x.cls ∈ no
    · rw [if_pos c2, wE_ok]; simp [c2]
    · rw [if_neg c2, wE_stuck]; simp [c2]
theorem wS_mIfR {n : UM Bool} {m : UM D} {v : Ex → MS} {x : Ex} : wS (mIfR n m v x rho S) E = wE (n x rho S) (fun x S' => E.ex x rho S') fun k S' => if k = true then wS (mRet (m x) rho S') E else wS (v x rho S') E := by
  unfold mIfR
  cases n x rho S with
  | exc x S1 => rw [wE_exc, wS_exc]
  | stuck => rw [wE_stuck, wS_stuck]
  | ok k S1 =>
    rw [wE_ok]
    show wS (if k = true then _ else _) E = _
    exact wS_ite
end
end DL

namespace DL
open PySem PySem.Spec PyProof.Rows L2
/-! ### several clauses that name their exception -/
inductive HdsN (X : Cx) : List ExceptHandler → List (Value × Nat × (Addr → Value → Option Addr → TS)) → Prop
  | nil : HdsN X [] []
  | cons {x n : Str} {c : Value} {i : Nat} {ts : Addr → Value → Option Addr → TS} {b0 : Stmt} {su : List Stmt} {np hp : Pos} {hds : List ExceptHandler} {l : List (Value × Nat × (Addr → Value → Option Addr → TS))} (nm : Names X x c) (at_ : X.N[i]? = some n) (lo : X.env.kindOf n = some .local)
      (go : ∀ (a : Addr) (oe : Obj) (cls : Value) (d : Option Addr) (pn : List (Addr × Obj)), Zc cls d oe → (∃ vs, oe.data = .fields vs) → PSs (X.suite a ((a, oe) :: pn)) (b0 :: su) (ts a cls d)) (more : HdsN X hds l) :
      HdsN X (.ExceptHandler (some (.Name x np)) (some n) (b0 :: su) hp :: hds) ((c, i, ts) :: l)
/-- what is wanted behind a suite whose name is in slot i -/
abbrev endsOff (i : Nat) (D : Ends) : Ends := ⟨fun sg H => D.nx (sg.set i none) H, D.rt, fun sg H => D.bk (sg.set i none) H, fun sg H => D.ct (sg.set i none) H⟩
def wNam (K : PySem.W.Frag) (Wo : WX) (D : Ends) : List (Value × Nat × (Addr → Value → Option Addr → TS)) → WX
  | [] => Wo
  | (c, i, ts) :: r => fun cls d sg H => ∃ b, PySem.W.exmOne K cls c = some b ∧ (b = true → ∀ a, H a = none → ts a cls d (endsOff i D) (sg.set i (some (.ref a))) H) ∧ (b = false → wNam K Wo D r cls d sg H)
section
variable {X : Cx} {body : List Stmt} {hd0 : ExceptHandler} {hds : List ExceptHandler} {l : List (Value × Nat × (Addr → Value → Option Addr → TS))} {pos : Pos} {tb : WX → TS} {Wo : WX}
end
/-- a clause: the names that it takes, those that it passes by, its slot, its suite -/
structure Hx where
  yes : List Str
  no : List Str
  i : Nat
  su : Ex → MS
def hdlN : List Hx → Ex → EnvD → Sto → RS
  | [], x, r, S => .exc x r S
  | h :: t, x, r, S => if x.cls ∈ h.yes then (if h.i < r.length then offS h.i (h.su x (r.set h.i none) S) else .stuck) else if x.cls ∈ h.no then hdlN t x r S else .stuck
def mTryN (b : MS) (hs : List Hx) : MS := fun rho S => match b rho S with
  | .exc x r S1 => hdlN hs x r S1
  | r => r
inductive HdN (X : Cx) : List ExceptHandler → List Hx → List (Value × Nat × (Addr → Value → Option Addr → TS)) → Prop
  | nil : HdN X [] [] []
  | cons {x n : Str} {c : Value} {i : Nat} {yes no : List Str} {su : Ex → MS} {b0 : Stmt} {sus : List Stmt} {np hp : Pos} {hds : List ExceptHandler} {l : List Hx} {ls : List (Value × Nat × (Addr → Value → Option Addr → TS))} (nm : Names X x c) (hY : ExX X.K X.mg c true yes) (hNo : ExX X.K X.mg c false no)
      (go : ∀ (a : Addr) (oe : Obj) (cls : Value) (d : Option Addr) (pn : List (Addr × Obj)), Zc cls d oe → (∃ vs, oe.data = .fields vs) → USs (X.suite a ((a, oe) :: pn)) i a cls d (b0 :: sus) su) (more : HdN X hds l ls) (at_ : X.N[i]? = some n := by rfl) (lo : X.env.kindOf n = some .local := by rfl) :
      HdN X (.ExceptHandler (some (.Name x np)) (some n) (b0 :: sus) hp :: hds) (⟨yes, no, i, su⟩ :: l) ((c, i, fun a cls d => uS (gOf X) i a cls d su) :: ls)
/-! ### max(xs), min(xs) of whole numbers -/
def maxI : List Int → Option Int
  | [] => none
  | n :: ns => some (ns.foldl max n)
def minI : List Int → Option Int
  | [] => none
  | n :: ns => some (ns.foldl min n)
def fMaxL (ds : List D) (S : Sto) : R D := match ds with
  | [d] => match ((lstOf S d).bind intsD).bind maxI with
    | some m => .ok (.int m) S
    | none => .stuck
  | _ => .stuck
def fMinL (ds : List D) (S : Sto) : R D := match ds with
  | [d] => match ((lstOf S d).bind intsD).bind minI with
    | some m => .ok (.int m) S
    | none => .stuck
  | _ => .stuck
/-! ### xs.remove(n) of whole numbers -/
def gRemove (x : D) (ds : List D) (S : Sto) : R D := match x, ds with
  | .ref n, [.int k] => match S[n]? with
    | some (.lst us) => match intsD us with
      | some ns => match ns.findIdx? (· == k) with
        | some j => .ok .non (S.set n (.lst (us.eraseIdx j)))
        | none => .stuck
      | none => .stuck
    | _ => .stuck
  | _, _ => .stuck
end DL

namespace DL
open PySem PySem.Spec PyProof.Rows L2
/-! ### own classes -/
/-- where a class stands -/
structure Kls (K : PySem.W.Frag) (mg : Str → Option Value) (x : Str) (fs : List Str) : Prop where
  at_ : ∃ C, PySem.W.nsIn K mainGlobals x = some (some (.ref C)) ∧ Cls K C ∧ ∀ f ∈ fs, NoAttr K C f
/-- a method of it -/
structure MtC (P : Program) (w : World) (K : PySem.W.Frag) (mg : Str → Option Value) (base : Heap) (x nm : Str) (ps : List Str) (k : Nat) (m : MF) : Prop where
  at_ : ∃ (C f : Addr) (fd : FuncData), PySem.W.nsIn K mainGlobals x = some (some (.ref C)) ∧ Cls K C ∧ Meth K C nm f ∧ Binds K fd ps [] ∧ FnOk P w K mg base (L2.CX P w) k f fd ps (spOf ⟨K, mg⟩ m)
/-- its __init__ -/
structure MkC (P : Program) (w : World) (K : PySem.W.Frag) (mg : Str → Option Value) (base : Heap) (x : Str) (ps : List Str) (k : Nat) (m : MF) : Prop where
  at_ : ∃ (C f : Addr) (fd : FuncData), PySem.W.nsIn K mainGlobals x = some (some (.ref C)) ∧ mg x = some (.ref C) ∧ Mk K C f ∧ Binds K fd ps [] ∧ FnOk P w K mg base (L2.CX P w) k f fd ps (spOf ⟨K, mg⟩ m)
def putD (f : Str) (d : D) : List (Str × D) → List (Str × D)
  | [] => [(f, d)]
  | (g, y) :: r => if g = f then (g, d) :: r else (g, y) :: putD f d r
section
variable {K : PySem.W.Frag} {H : Hp} {p : Pl} {S : Sto}
end
/-! o.f -/
def fldOf (x f : Str) (S : Sto) (d : D) : Option D := match d with
  | .ref n => match S[n]? with
    | some (.ins y fs) => if y = x then fs.lookup f else none
    | _ => none
  | _ => none
def mFld (x f : Str) (o : ME) : ME := fun rho S => (o rho S).bind fun d S1 => match fldOf x f S1 d with
  | some y => .ok y S1
  | none => .stuck
section
variable {X : Cx} {W : WX} {pos apos p0 pos' : Pos} {o e : Expr} {es : List Expr} {mo me : ME} {t : MA} {x f nm : Str} {as : List Str} {k : Nat} {ps : List Str} {m : MF}
/-! o.f = e -/
def setFld (x f : Str) (y : D) (d : D) (S : Sto) : Option Sto := match d with
  | .ref n => match S[n]? with
    | some (.ins z fs) => if z = x ∧ fs.length < 900 then some (S.set n (.ins z (putD f y fs))) else none
    | _ => none
  | _ => none
def mSetF (x f : Str) (o e : ME) : MS := fun rho S => match e rho S with
  | .ok y S1 => match o rho S1 with
    | .ok d S2 => match setFld x f y d S2 with
      | some S3 => .nx rho S3
      | none => .stuck
    | _ => .stuck
  | .exc z S1 => .exc z rho S1
  | .stuck => .stuck
/-! o.m(..) -/
def isIns (x nm : Str) (S : Sto) (d : D) : Bool := match d with
  | .ref n => match S[n]? with
    | some (.ins y fs) => decide (y = x) && (fs.lookup nm).isNone
    | _ => false
  | _ => false
def mMeth (x nm : Str) (m : MF) (o : ME) (t : MA) : ME := fun rho S => (o rho S).bind fun d S1 => if isIns x nm S1 d = true then (t rho S1).bind fun ds S2 => m (d :: ds) S2 else .stuck
def tMethS (C : Addr) (m : Str) (sp : Sp) (E : L2.St → XK) (ta : TE) (t : TA) : TE := fun σ H Q => ta σ H fun x H1 => ∃ a dx fs, x = .ref a ∧ H1 a = some (.ins C dx fs) ∧ fs.lookup m = none ∧ t σ H1 fun vs H2 => sp (x :: vs) H2 Q (E σ)
/-! C(..) -/
def mMake (x : Str) (m : MF) (t : MA) : ME := fun rho S => (t rho S).bind fun ds S1 => (m (.ref S1.length :: ds) (S1 ++ [.ins x []])).bind fun d S2 => match d with
  | .non => .ok (.ref S1.length) S2
  | _ => .stuck
def tMakeS (C : Addr) (sp : Sp) (E : L2.St → XK) (t : TA) : TE := fun σ H Q => t σ H fun vs H1 => ∀ x dx, H1 x = none → H1 dx = none → dx ≠ x → sp (.ref x :: vs) (upd (upd H1 dx (.own x)) x (.ins C dx [])) (fun v H2 => v = .non ∧ Q (.ref x) H2) (E σ)
end
/-! words -/
section
variable {rho : EnvD} {S : Sto} {E : Es} {X : Ex → Sto → Prop} {Q : D → Sto → Prop} {o e : ME} {t : MA} {x f nm : Str} {m : MF}
theorem w_fld : wE (mFld x f o rho S) X Q = wE (o rho S) X fun d S1 => ∃ y, fldOf x f S1 d = some y ∧ Q y S1 := by
  unfold mFld; rw [wE_bind]; congr 1; funext d S1
  cases fldOf x f S1 d with
  | none => simp [wE_stuck]
  | some y => simp [wE_ok]
theorem w_meth : wE (mMeth x nm m o t rho S) X Q = wE (o rho S) X fun d S1 => isIns x nm S1 d = true ∧ wE (t rho S1) X fun ds S2 => wE (m (d :: ds) S2) X Q := by
  unfold mMeth; rw [wE_bind]; congr 1; funext d S1
  rw [wE_guard, wE_bind]
theorem w_make : wE (mMake x m t rho S) X Q = wE (t rho S) X fun ds S1 => wE (m (.ref S1.length :: ds) (S1 ++ [.ins x []])) X fun d S2 => d = .non ∧ Q (.ref S1.length) S2 := by
  unfold mMake; rw [wE_bind]; congr 1; funext ds S1
  rw [wE_bind]; congr 1; funext d S2
  cases d <;> simp [wE_stuck, wE_ok]
theorem wS_mSetF : wS (mSetF x f o e rho S) E = wE (e rho S) (fun z S' => E.ex z rho S') fun y S1 => wE (o rho S1) (fun _ _ => False) fun d S2 => ∃ S3, setFld x f y d S2 = some S3 ∧ E.nx rho S3 := by
  unfold mSetF
  cases e rho S with
  | exc z S1 => rw [wE_exc, wS_exc]
  | stuck => rw [wE_stuck, wS_stuck]
  | ok y S1 =>
    rw [wE_ok]
    show wS (match o rho S1 with | .ok d S2 => (match setFld x f y d S2 with | some S3 => .nx rho S3 | none => .stuck) | _ => .stuck) E = _
    cases o rho S1 with
    | exc z S1 => rw [wE_exc]; show wS .stuck E = _; rw [wS_stuck]
    | stuck => rw [wE_stuck]; show wS .stuck E = _; rw [wS_stuck]
    | ok d S2 =>
      rw [wE_ok]
      show wS (match setFld x f y d S2 with | some S3 => .nx rho S3 | none => .stuck) E = _
      cases setFld x f y d S2 with
      | none => show wS .stuck E = _; rw [wS_stuck]; simp
      | some S3 => show wS (.nx rho S3) E = _; rw [wS_nx]; simp
end
end DL

namespace DL
open PySem PySem.Spec PyProof.Rows L2
/-! ### a dict that an expression tells is locked while it is walked -/
def lockAtE (o : ME) (rho : EnvD) (S : Sto) : Option (Nat × Kvs) := match o rho S with
  | .ok (.ref n) _ => match S[n]? with
    | some (.dct kvs) => some (n, kvs)
    | _ => none
  | _ => none
def mLockE (o : ME) (m : MS) : MS := fun rho S => match lockAtE o rho S with
  | some nk => unlR nk.1 (m rho (S.set nk.1 (.lkd nk.2)))
  | none => .stuck
/-! ### all([..]) of whole numbers -/
def rAllI (K : PySem.W.Frag) : List V → Hp → VK → Prop := fun vs H Q => ∃ (a : Addr) (ns : List Int), vs = [V.ref a] ∧ SqL K H a (ns.map V.int) ∧ Q (.bl (ns.all fun n => n != 0)) H
def fAllI (ds : List D) (S : Sto) : R D := match ds with
  | [d] => match (lstOf S d).bind intsD with
    | some bs => .ok (.bl (bs.all fun n => n != 0)) S
    | none => .stuck
  | _ => .stuck
/-! ### xs.pop() -/
def gPop (x : D) (ds : List D) (S : Sto) : R D := match x, ds with
  | .ref n, [] => match S[n]? with
    | some (.lst us) => match us.getLast? with
      | some y => if us.length ≤ 16777216 then .ok y (S.set n (.lst us.dropLast)) else .stuck
      | none => .stuck
    | _ => .stuck
  | _, _ => .stuck
theorem RepL.dropLast {K : PySem.W.Frag} {H : Hp} {p : Pl} {ds : List D} {vs : List V} (l : RepL K H p ds vs) : RepL K H p ds.dropLast vs.dropLast := by
  rw [List.dropLast_eq_take, List.dropLast_eq_take, ← l.length]
  exact RepL.take _ l
/-! words -/
section
variable {rho : EnvD} {S : Sto} {E : Es} {X : Ex → Sto → Prop} {Q : D → Sto → Prop} {o : ME} {m : MS}
end
end DL

namespace DL
open PySem PySem.Spec PyProof.Rows L2
/-! ### a tuple told once, or not at all: t * 1, t * 0 -/
def rRep1 (K : PySem.W.Frag) : R2 := fun x y H Q => ∃ l k xs, x = .ref l ∧ y = .int k ∧ SqT K H l xs ∧ xs ≠ [] ∧ ((k = 1 ∧ Q x H) ∨ (k ≤ 0 ∧ -1000 ≤ k ∧ NewT H Q []))
def opMulN (x y : D) (S : Sto) : R D := match x, y with
  | .tup xs, .int k => if 0 < xs.length ∧ xs.length ≤ 1000 ∧ -1000 ≤ k ∧ k ≤ 1000 then .ok (.tup (List.replicate k.toNat xs).flatten) S else .stuck
  | _, _ => .stuck
def rMulN (K : PySem.W.Frag) : R2 := fun x y H Q => rRep1 K x y H Q ∨ rRepX K x y H Q
section
variable {X : Ex → Sto → Prop} {Q : D → Sto → Prop} {S : Sto}
theorem o_mulN {xs : List D} {n : Int} : wE (opMulN (.tup xs) (.int n) S) X Q = ((0 < xs.length ∧ xs.length ≤ 1000 ∧ -1000 ≤ n ∧ n ≤ 1000) ∧ Q (.tup (List.replicate n.toNat xs).flatten) S) := by
  unfold opMulN
  rw [wE_guard, wE_ok]
end
end DL

namespace DL
open PySem PySem.Spec PyProof.Rows L2
/-! ### a + b of two lists as a new list -/
def mAddL (a b : ME) : ML := fun rho S => (a rho S).bind fun x S1 => (b rho S1).bind fun y S2 => match lstOf S2 x, lstOf S2 y with
  | some us, some ws => if us.length + ws.length ≤ 16777216 then .ok (us ++ ws) S2 else .stuck
  | _, _ => .stuck
section
variable {X : Cx} {W : WX} {pos : Pos} {a b : Expr} {ma mb : ME}
end
section
variable {X : Ex → Sto → Prop} {QL : List D → Sto → Prop} {rho : EnvD} {S : Sto} {a b : ME}
end
end DL

namespace DL
open PySem PySem.Spec PyProof.Rows L2
/-! ### range(n) as a value -/
def fRng (ds : List D) (S : Sto) : R D := match ds with
  | [.int j] => .ok (.rng 0 j) S
  | _ => .stuck
section
variable {X : Cx} {W : WX} {pos p0 : Pos} {tg e a b c : Expr} {m ma mb mc : ME} {t : MA} {es : List Expr}
/-! a range that is held, walked -/
def iRngV (tl : TE) : TI := fun σ H R => tl σ H fun x H1 => ∃ a lo hi, x = .ref a ∧ H1 a = some (.rng lo hi) ∧ (-(2 ^ 62) ≤ lo ∧ lo < 2 ^ 62 ∧ -(2 ^ 62) ≤ hi ∧ hi < 2 ^ 62) ∧ R (Itr lo (hi - lo).toNat) H1
def mItG (m : ME) : MI := fun rho S => (m rho S).bind fun d S1 => match d with
  | .rng lo hi => if -4611686018427387904 ≤ lo ∧ lo < 4611686018427387904 ∧ -4611686018427387904 ≤ hi ∧ hi < 4611686018427387904 then .ok (none, rgD lo hi) S1 else .stuck
  | _ => .stuck
/-! sum(t) of a tuple -/
def rSumT (K : PySem.W.Frag) : List V → Hp → VK → Prop := fun vs H Q => ∃ (a : Addr) (ns : List Int), vs = [V.ref a] ∧ SqT K H a (ns.map V.int) ∧ Q (.int ns.sum) H
def fSumT (ds : List D) (S : Sto) : R D := match ds with
  | [.tup us] => match intsD us with
    | some bs => .ok (.int bs.sum) S
    | none => .stuck
  | _ => .stuck
/-! range(hi, lo, -1) -/
def dnD (i : Int) (n : Nat) : List D := (List.range n).map fun k : Nat => D.int (i - k)
def mItDn (ma mb mc : ME) : MI := fun rho S => (mCons ma (mCons mb (mCons mc mNil)) rho S).bind fun ds S1 => match ds with
  | [.int i, .int j, .int k] => if k = -1 ∧ -4611686018427387904 ≤ i ∧ i < 4611686018427387904 ∧ -4611686018427387904 ≤ j ∧ j < 4611686018427387904 then .ok (none, dnD i (i - j).toNat) S1 else .stuck
  | _ => .stuck
end
section
variable {X : Ex → Sto → Prop} {QI : It0 → Sto → Prop} {Q : D → Sto → Prop} {rho : EnvD} {S : Sto} {m ma mb mc : ME} {t : MA}
theorem f_rng {j : Int} : wE (fRng [.int j] S) X Q = Q (.rng 0 j) S := by
  unfold fRng
  rw [wE_ok]
theorem w_itG : wE (mItG m rho S) X QI = wE (m rho S) X fun d S1 => ∃ lo hi, d = .rng lo hi ∧ (-4611686018427387904 ≤ lo ∧ lo < 4611686018427387904 ∧ -4611686018427387904 ≤ hi ∧ hi < 4611686018427387904) ∧ QI (none, rgD lo hi) S1 := by
  unfold mItG
  rw [wE_bind]; congr 1; funext d S1
  cases d with
  | rng lo hi =>
    by_cases c : -4611686018427387904 ≤ lo ∧ lo < 4611686018427387904 ∧ -4611686018427387904 ≤ hi ∧ hi < 4611686018427387904
    · simp only [if_pos c, wE_ok]
      exact propext ⟨fun h => ⟨_, _, rfl, c, h⟩, fun ⟨_, _, e, _, h⟩ => by cases e; exact h⟩
    · simp only [if_neg c, wE_stuck]
      exact propext ⟨fun h => h.elim, fun ⟨_, _, e, c', _⟩ => by cases e; exact (c c').elim⟩
  | _ =>
    simp only [wE_stuck]
    exact propext ⟨fun h => h.elim, fun ⟨_, _, e, _⟩ => by cases e⟩
theorem w_itDn : wE (mItDn ma mb mc rho S) X QI = wE (ma rho S) X fun a S1 => wE (mb rho S1) X fun b S2 => wE (mc rho S2) X fun c S3 => ∃ i j, a = .int i ∧ b = .int j ∧ c = .int (-1) ∧ (-4611686018427387904 ≤ i ∧ i < 4611686018427387904 ∧ -4611686018427387904 ≤ j ∧ j < 4611686018427387904) ∧ QI (none, dnD i (i - j).toNat) S3 := by
  unfold mItDn
  rw [wE_bind, w_cons]; congr 1; funext a S1
  rw [w_cons]; congr 1; funext b S2
  rw [w_cons]; congr 1; funext c S3
  rw [w_nil]
  cases a with
  | int i =>
    cases b with
    | int j =>
      cases c with
      | int k =>
        by_cases h : k = -1 ∧ -4611686018427387904 ≤ i ∧ i < 4611686018427387904 ∧ -4611686018427387904 ≤ j ∧ j < 4611686018427387904
        · simp only [if_pos h, wE_ok]
          exact propext ⟨fun q => ⟨_, _, rfl, rfl, by rw [h.1], h.2, q⟩, fun ⟨_, _, e1, e2, _, _, q⟩ => by cases e1; cases e2; exact q⟩
        · simp only [if_neg h, wE_stuck]
          exact propext ⟨fun q => q.elim, fun ⟨_, _, e1, e2, e3, hh, _⟩ => by cases e1; cases e2; cases e3; exact h ⟨rfl, hh⟩⟩
      | _ =>
        simp only [wE_stuck]
        exact propext ⟨fun q => q.elim, fun ⟨_, _, _, _, e3, _⟩ => by cases e3⟩
    | _ =>
      simp only [wE_stuck]
      exact propext ⟨fun q => q.elim, fun ⟨_, _, _, e2, _⟩ => by cases e2⟩
  | _ =>
    simp only [wE_stuck]
    exact propext ⟨fun q => q.elim, fun ⟨_, _, e1, _⟩ => by cases e1⟩
end
end DL

namespace DL
open PySem PySem.Spec PyProof.Rows L2
/-! ### min of a list of alike data -/
def rMinZ (K : PySem.W.Frag) : List V → Hp → VK → Prop := fun vs H Q => ∃ (a : Addr) (zs : List (V × PyData)) (bt : Nat → Nat → Bool), vs = [V.ref a] ∧ SqL K H a (zs.map (·.1)) ∧ DpAll K H (zs.map (·.1)) (zs.map (·.2)) ∧ W.AllAlike (zs.map (·.2)) ∧ (∀ d ∈ zs.map (·.2), d ≠ .none) ∧ (∀ d ∈ zs.map (·.2), d.depth ≤ 60) ∧ 0 < zs.length ∧
  (∀ i j x y, zs[i]? = some x → zs[j]? = some y → bt i j = W.dataLt x.2 y.2) ∧ ∀ x, zs[argBest bt (zs.length - 1)]? = some x → Q x.1 H
theorem each_get {α β : Type} {R : α → β → Prop} : ∀ {us : List α} {zs : List β}, W.EachIs R us zs → ∀ {i : Nat} {u : α}, us[i]? = some u → ∃ z, zs[i]? = some z ∧ R u z
  | _, _, .nil, _, _, h => by simp at h
  | _, _, .cons h t, 0, u, e => by simp at e; subst e; exact ⟨_, rfl, h⟩
  | _, _, .cons h t, i + 1, u, e => by
    obtain ⟨z, ez, hz⟩ := each_get t (i := i) (by simpa using e)
    exact ⟨z, by simpa using ez, hz⟩
section
variable {X : Cx} {n : Nat}
theorem hc_minZ (hr : Room n X.A) (hc : X.calm = true) : CallR X (.builtin "min") (rMinZ X.K) := by
  intro pins s sg H vs us Q I r h
  obtain ⟨a, zs, bt, rfl, hs, hd, hal, hn, hdp, hz, hbt, q⟩ := h
  rw [Vals.ref1 r]
  obtain ⟨its, rv, pl, hz'⟩ := I.list hs
  have hv := vals_each rv
  have hrd := reads_each I hd rv
  have hl : its.length = zs.length := by rw [← rv.length, List.length_map]
  refine PySem.call_min_walkH (W.iter_listW (A := X.A.in1) (show X.A.in1.handled = none from I.ok.hd hc) pl.isList fun s₂ e W' st hfp hw hk => ?_)
  refine ⟨_, _, _, _, _, _, _, s.heap, bt, rfl, W', st, hfp, by show 0 < its.toArray.size; rw [List.size_toArray, hl]; exact hz, hw, hk, ?_, fun v s' hP m => ?_⟩
  · intro i j vi vj s' Q E hk hi hj hq
    obtain ⟨z1, e1, as1, r1⟩ := each_get hrd (i := i) (u := vi) (by simpa using hi)
    obtain ⟨z2, e2, as2, r2⟩ := each_get hrd (i := j) (u := vj) (by simpa using hj)
    have m1 : z1.2 ∈ zs.map (·.2) := List.mem_map.mpr ⟨z1, List.mem_of_getElem? e1, rfl⟩
    have m2 : z2.2 ∈ zs.map (·.2) := List.mem_map.mpr ⟨z2, List.mem_of_getElem? e2, rfl⟩
    rw [hbt i j z1 z2 e1 e2] at hq
    refine W.rcLt_alike _ _ X.A.in1 s' vi vj _ _ (W.reads_keeps hk r1) (W.reads_keeps hk r2) (hal _ m1 _ m2) (hn _ m1) ?_ _ _ E Q hq
    have h1 := hdp _ m1
    have h2 := u64 hr
    have h3 := Nat.min_le_left z1.2.depth z2.2.depth
    show X.A.units + 1 + _ < _
    omega
  · obtain ⟨h', tk, rfl, hk'⟩ := W.moved_old e rfl m
    have hP' : its[argBest bt (its.length - 1)]? = some v := by simpa using hP
    obtain ⟨z, ez, rz⟩ := each_get hv hP'
    rw [hl] at ez
    exact ⟨z.1, H, I.kept hk', rz, q z ez⟩
end
def minDD : List D → D
  | [] => .non
  | x :: xs => xs.foldl (fun a y => if lessD y a = true then y else a) x
def fMinD (ds : List D) (S : Sto) : R D := match ds with
  | [d] => match lstOf S d with
    | some xs => if sortOk xs = true ∧ xs ≠ [] then .ok (minDD xs) S else .stuck
    | none => .stuck
  | _ => .stuck
theorem hd_minD {G : GC} : CallD G (rMinZ G.K) fMinD := by
  intro p S H vs ds W Q s r h
  unfold fMinD at h
  split at h
  case h_2 => exact h.elim
  split at h
  case h_2 => exact h.elim
  rename_i xs ex
  split at h
  case isFalse => exact h.elim
  rename_i c
  obtain ⟨c, hne⟩ := c
  simp only [sortOk, Bool.and_eq_true, decide_eq_true_eq] at c
  obtain ⟨⟨⟨⟨c1, c2⟩, c3⟩, c4⟩, c5⟩ := c
  obtain ⟨v, rfl, r2⟩ := r.one
  obtain ⟨a, ys, rfl, ht, l⟩ := lst_rep s r2 ex
  obtain ⟨pes, p1, p2, p3⟩ := pdL_ok xs c1
  obtain ⟨zs, z1, z2, z3, z4⟩ := zip3 l p1
  have m1 : (zs.map (·.2)).map (·.1) = ys := by rw [List.map_map]; exact z2
  have m2 : (zs.map (·.2)).map (·.2) = pes := by rw [List.map_map]; exact z3
  have hal : PySem.W.AllAlike ((zs.map (·.2)).map (·.2)) := by
    intro d hd d' hd'
    rw [List.map_map] at hd hd'
    obtain ⟨z, hz, rfl⟩ := List.mem_map.mp hd
    obtain ⟨z', hz', rfl⟩ := List.mem_map.mp hd'
    show PySem.W.alike z.2.2 z'.2.2 = true
    rw [alike_pd _ _ _ _ (z4 z hz).2 (z4 z' hz').2]
    have h1 : z.1 ∈ xs := by rw [← z1]; exact List.mem_map.mpr ⟨z, hz, rfl⟩
    have h2 : z'.1 ∈ xs := by rw [← z1]; exact List.mem_map.mpr ⟨z', hz', rfl⟩
    unfold allAlike at c2
    rw [List.all_eq_true] at c2
    have := c2 _ h1
    rw [List.all_eq_true] at this
    exact this _ h2
  have hzl : zs.length = xs.length := by rw [← z1, List.length_map]
  have hpos : 0 < xs.length := List.length_pos_iff.mpr hne
  refine ⟨a, zs.map (·.2), fun i j => lessD (xs.getD i .non) (xs.getD j .non), rfl, by rw [m1]; exact SqL.of ht, by rw [m1, m2]; exact dpL_rep _ _ _ l p1, hal, fun d hd => ?_, fun d hd => ?_, by rw [List.length_map]; omega, fun i j x y ei ej => ?_, fun x ex => ?_⟩
  · rw [List.map_map] at hd
    obtain ⟨z, hz, rfl⟩ := List.mem_map.mp hd
    intro en
    have hx : z.1 ∈ xs := by rw [← z1]; exact List.mem_map.mpr ⟨z, hz, rfl⟩
    have c3' := (List.all_eq_true.mp c3) _ hx
    have e4 := (z4 z hz).2
    have en : z.2.2 = .none := en
    rw [en] at e4
    cases h0 : z.1 with
    | non => rw [h0] at c3'; simp [isNon] at c3'
    | tup ds => rw [h0] at e4; simp only [pd0] at e4; split at e4 <;> cases e4
    | lst ds => rw [h0] at e4; simp only [pd0] at e4; split at e4 <;> cases e4
    | _ => rw [h0] at e4; cases e4
  · rw [m2] at hd
    exact Nat.le_trans (pdL_depth c1 p1 d hd) c4
  · rw [List.getElem?_map, Option.map_eq_some_iff] at ei ej
    obtain ⟨zi, ezi, rfl⟩ := ei
    obtain ⟨zj, ezj, rfl⟩ := ej
    have hi := List.mem_of_getElem? ezi
    have hj := List.mem_of_getElem? ezj
    have gi : xs.getD i .non = zi.1 := by rw [← z1, List.getD_eq_getElem?_getD, List.getElem?_map, ezi]; rfl
    have gj : xs.getD j .non = zj.1 := by rw [← z1, List.getD_eq_getElem?_getD, List.getElem?_map, ezj]; rfl
    show lessD (xs.getD i .non) (xs.getD j .non) = _
    rw [gi, gj]
    exact (less_pd _ _ _ _ (z4 zi hi).2 (z4 zj hj).2 (by rw [← alike_pd _ _ _ _ (z4 zi hi).2 (z4 zj hj).2]; exact hal _ (by rw [List.map_map]; exact List.mem_map.mpr ⟨zi, hi, rfl⟩) _ (by rw [List.map_map]; exact List.mem_map.mpr ⟨zj, hj, rfl⟩))).symm
  · rw [List.getElem?_map, Option.map_eq_some_iff, List.length_map] at ex
    obtain ⟨z, ez, rfl⟩ := ex
    have hz := List.mem_of_getElem? ez
    have hm : minDD xs = z.1 := by
      cases xs with
      | nil => exact absurd rfl hne
      | cons x0 xr =>
        have e2 := (PySem.W.argBest_fold lessD D.non x0 xr xr.length (Nat.le_refl _)).2
        rw [List.take_length] at e2
        have hk : zs.length - 1 = xr.length := by rw [hzl, List.length_cons]; omega
        rw [hk] at ez
        show xr.foldl (fun a y => if lessD y a = true then y else a) x0 = z.1
        rw [← e2, List.getD_eq_getElem?_getD, ← z1, List.getElem?_map]
        rw [z1, ez]; rfl
    rw [hm] at h
    exact h p _ _ Ext.refl s (z4 z hz).1
section
variable {X : Ex → Sto → Prop} {Q : D → Sto → Prop} {S : Sto}
theorem f_minD {xs : List D} : wE (fMinD [.lst xs] S) X Q = ((sortOk xs = true ∧ xs ≠ []) ∧ Q (minDD xs) S) := by
  unfold fMinD lstOf
  simp only [wE_guard, wE_ok]
end
end DL

namespace DL
open PySem PySem.Spec PyProof.Rows L2
/-! ### all(..) and any(..) over plain data: lists and tuples -/
/-- truth of what is walked -/
def TruQ (K : PySem.W.Frag) (x : V) (H : Hp) (k : Bool) : Prop :=
  match x with
  | .non => k = false
  | .bl b => k = b
  | .int i => k = (i != 0)
  | .ref p => (∃ xs, SqL K H p xs ∧ k = !xs.isEmpty) ∨ (∃ xs, SqT K H p xs ∧ k = !xs.isEmpty)
  | _ => False
def truQ : D → Option Bool
  | .non => some false
  | .bl b => some b
  | .int i => some (i != 0)
  | .tup ds => some (!ds.isEmpty)
  | .lst ds => some (!ds.isEmpty)
  | _ => none
def trusD : List D → Option (List Bool)
  | [] => some []
  | d :: ds => match truQ d, trusD ds with
    | some b, some bs => some (b :: bs)
    | _, _ => none
def rAllQ (K : PySem.W.Frag) : List V → Hp → VK → Prop := fun vs H Q => ∃ (a : Addr) (xs : List V) (ks : List Bool), vs = [V.ref a] ∧ (SqL K H a xs ∨ SqT K H a xs) ∧ xs.length = ks.length ∧ (∀ (i : Nat) x k, xs[i]? = some x → ks[i]? = some k → TruQ K x H k) ∧ Q (.bl (ks.all id)) H
def rAnyQ (K : PySem.W.Frag) : List V → Hp → VK → Prop := fun vs H Q => ∃ (a : Addr) (xs : List V) (ks : List Bool), vs = [V.ref a] ∧ (SqL K H a xs ∨ SqT K H a xs) ∧ xs.length = ks.length ∧ (∀ (i : Nat) x k, xs[i]? = some x → ks[i]? = some k → TruQ K x H k) ∧ Q (.bl (ks.any id)) H
def seqQ : D → Option (List D)
  | .tup ds => some ds
  | .lst ds => some ds
  | _ => none
def fAllQ (ds : List D) (S : Sto) : R D := match ds with
  | [d] => match (seqQ d).bind trusD with
    | some bs => .ok (.bl (bs.all id)) S
    | none => .stuck
  | _ => .stuck
def fAnyQ (ds : List D) (S : Sto) : R D := match ds with
  | [d] => match (seqQ d).bind trusD with
    | some bs => .ok (.bl (bs.any id)) S
    | none => .stuck
  | _ => .stuck
/-! words -/
section
variable {X : Ex → Sto → Prop} {Q : D → Sto → Prop} {S : Sto} {ds : List D} {bs : List Bool}
end
end DL

namespace DL
open PySem PySem.Spec PyProof.Rows L2
section
variable {X : Cx} {pins : List (Addr × Obj)} {σ : L2.St} {H : Hp} {s : Shared}
end
/-! ### a display of two constant texts, looked up at once -/
def mMap2 (ka va kb vb : Str) (m : ME) : ME := fun rho S => (m rho S).bind fun d S1 => match d with
  | .str x => if x = ka then .ok (.str va) S1 else if x = kb then .ok (.str vb) S1 else .stuck
  | _ => .stuck
def tMap2 (ka va kb vb : Str) (ti : TE) : TE := fun σ H Q => ti σ H fun y H1 => ∃ x, y = .str x ∧ ((x = ka ∧ Q (.str va) H1) ∨ (x = kb ∧ Q (.str vb) H1))
end DL

/-! combinations(t, k): its pool is small, its items are new tuples -/
namespace DL
open PySem PySem.Spec PyProof.Rows L2
/-- the sublists of length k, in order -/
def cbL {α : Type} : Nat → List α → List (List α)
  | 0, _ => [[]]
  | _ + 1, [] => []
  | r + 1, x :: xs => (cbL r xs).map (fun l => x :: l) ++ cbL (r + 1) xs
theorem cbL_map {α β : Type} (f : α → β) : ∀ (r : Nat) (l : List α), cbL r (l.map f) = (cbL r l).map (List.map f)
  | 0, _ => by simp [cbL]
  | r + 1, [] => by simp [cbL]
  | r + 1, x :: xs => by
    rw [List.map_cons]
    unfold cbL
    rw [cbL_map f r xs, cbL_map f (r + 1) xs]
    simp [List.map_append, List.map_map, Function.comp_def]
/-- the next sequence of indexes -/
def cbN (n : Nat) (ix : List Nat) : Option (List Nat) :=
  ((List.range ix.length).reverse.find? fun i => ix.getD i 0 != i + n - ix.length).map fun i => ix.take i ++ (List.range (ix.length - i)).map fun k => ix.getD i 0 + 1 + k
def cbOk (n r : Nat) : Bool :=
  let cs := cbL r (List.range n)
  cs[0]? == some (List.range r) && (List.range cs.length).all (fun i => cbN n (cs.getD i []) == cs[i + 1]?) && cs.all fun c => c.all fun j => decide (j < n)
theorem cb_all : (List.range 8).all (fun n => (List.range (n + 1)).all fun r => cbOk n r) = true := by decide +kernel
theorem cb_ok {n r : Nat} (h : n ≤ 7) (h2 : r ≤ n) : cbOk n r = true :=
  List.all_eq_true.mp (List.all_eq_true.mp cb_all n (List.mem_range.mpr (by omega))) r (List.mem_range.mpr (by omega))
theorem cb_first {n r : Nat} (h : n ≤ 7) (h2 : r ≤ n) : (cbL r (List.range n))[0]? = some (List.range r) := by
  have := cb_ok h h2
  unfold cbOk at this
  simp only [Bool.and_eq_true, beq_iff_eq] at this
  exact this.1.1
theorem cb_next {n r i : Nat} {c : List Nat} (h : n ≤ 7) (h2 : r ≤ n) (hc : (cbL r (List.range n))[i]? = some c) : cbN n c = (cbL r (List.range n))[i + 1]? := by
  have := cb_ok h h2
  unfold cbOk at this
  simp only [Bool.and_eq_true, beq_iff_eq] at this
  have h3 := List.all_eq_true.mp this.1.2 i (List.mem_range.mpr (List.getElem?_eq_some_iff.mp hc).1)
  rw [beq_iff_eq, List.getD_eq_getElem?_getD, hc] at h3
  exact h3
theorem cb_lt {n r : Nat} {c : List Nat} (h : n ≤ 7) (h2 : r ≤ n) (hc : c ∈ cbL r (List.range n)) : ∀ j ∈ c, j < n := by
  have := cb_ok h h2
  unfold cbOk at this
  simp only [Bool.and_eq_true, beq_iff_eq] at this
  intro j hj
  exact of_decide_eq_true (List.all_eq_true.mp (List.all_eq_true.mp this.2 c hc) j hj)
end DL
namespace CBK
open PySem PySem.Spec
open Sem (wp)
/-! the library's facts -/
theorem cb_mro : mroOf (.type "itertools.combinations") = pure [.type "itertools.combinations", .type "object"] := by rw [mroOf_type]; kernel_rfl
theorem cb_lookN : typeLookup (.type "itertools.combinations") "__new__" = pure (some (.builtin "itertools.combinations.__new__")) := by rw [typeLookup_type, builtinLookup_eq_fast]; kernel_rfl
theorem cb_init : Slot "itertools.combinations" "__init__" "object.__init__" :=
  .of (owner := "object") (n := "__init__") (by rw [typeLookup_type, builtinLookup_eq_fast]; kernel_rfl) (by decide +kernel) (by decide +kernel) (by decide +kernel) (by first | exact .inl (by decide +kernel) | exact .inr (by decide +kernel)) (by rw [isSubtype_type]; kernel_rfl)
theorem cb_sub : isSubtype (.type "itertools.combinations") (.type "itertools.combinations") = pure true := by rw [isSubtype_type]; kernel_rfl
theorem cb_called : TypeCalled "itertools.combinations" "itertools.combinations.__new__" "object.__init__" :=
  ⟨by decide +kernel, by decide +kernel, ⟨_, _, cb_mro⟩, madeBy_type cb_mro cb_lookN (by decide +kernel), by decide +kernel, cb_sub, cb_init⟩
theorem cb_tc (a b : Value) : checkTypeCall "itertools.combinations" ⟨[a, b], []⟩ = pure () := by kernel_rfl
theorem cb_nc (a b : Value) : checkBuiltinCall "itertools.combinations.__new__" ⟨[.type "itertools.combinations", a, b], []⟩ = pure () := by kernel_rfl
theorem cb_entN : entryFor table "itertools.combinations.__new__" = some Builtin.«itertools.combinations.__new__» := entryFor_of_tree (by kernel_rfl)
theorem cb_iter : Slot "itertools.combinations" "__iter__" "itertools.combinations.__iter__" :=
  .of (owner := "itertools.combinations") (n := "__iter__") (by rw [typeLookup_type, builtinLookup_eq_fast]; kernel_rfl) (by decide +kernel) (by decide +kernel) (by decide +kernel) (by first | exact .inl (by decide +kernel) | exact .inr (by decide +kernel)) cb_sub
theorem cb_nxt : Slot "itertools.combinations" "__next__" "itertools.combinations.__next__" :=
  .of (owner := "itertools.combinations") (n := "__next__") (by rw [typeLookup_type, builtinLookup_eq_fast]; kernel_rfl) (by decide +kernel) (by decide +kernel) (by decide +kernel) (by first | exact .inl (by decide +kernel) | exact .inr (by decide +kernel)) cb_sub
theorem cb_entI : entryFor table "itertools.combinations.__iter__" = some Builtin.«dict_keyiterator.__iter__» :=
  entryFor_alias (id' := "dict_keyiterator.__iter__") (by kernel_rfl) (by first | rfl | decide +kernel | (unfold String.splitOn; simp +decide [String.splitOnAux])) (by decide +kernel) (by kernel_rfl)
theorem cb_entX : entryFor table "itertools.combinations.__next__" = some Builtin.«itertools.combinations.__next__» := entryFor_of_tree (by kernel_rfl)
theorem cb_own : Manifest.owners.lookup (String.ofList "snoitanibmoc.slootreti".toList.reverse) = some Manifest.sig_itertools_combinations := by kernel_rfl
theorem cb_argI (a : Value) : argsOk "itertools.combinations.__iter__" ⟨[a], []⟩ := by
  unfold argsOk; rw [signature?_of (id := "itertools.combinations.__iter__") (n := ['_', '_', 'r', 'e', 't', 'i', '_', '_']) (o := ['s', 'n', 'o', 'i', 't', 'a', 'n', 'i', 'b', 'm', 'o', 'c', '.', 's', 'l', 'o', 'o', 't', 'r', 'e', 't', 'i']) (by kernel_rfl) cb_own]; kernel_rfl
theorem cb_argX (a : Value) : argsOk "itertools.combinations.__next__" ⟨[a], []⟩ := by
  unfold argsOk; rw [signature?_of (id := "itertools.combinations.__next__") (n := ['_', '_', 't', 'x', 'e', 'n', '_', '_']) (o := ['s', 'n', 'o', 'i', 't', 'a', 'n', 'i', 'b', 'm', 'o', 'c', '.', 's', 'l', 'o', 'o', 't', 'r', 'e', 't', 'i']) (by kernel_rfl) cb_own]; kernel_rfl
theorem cb_nodict : typeHasDict (.type "itertools.combinations") = false := by decide +kernel
/-- the record of an iterator over combinations -/
def fs (P : Addr) (st : Int) (last : Value) (ix : List Nat) : Array Value := (.ref P :: .int st 0 :: last :: ix.map fun (i : Nat) => Value.int i 0).toArray
abbrev Is (h : Heap) (e P : Addr) (st : Int) (last : Value) (ix : List Nat) : Prop := h.get? e = some { cls := .type "itertools.combinations", dict := none, data := .fields (fs P st last ix), slots := #[] }
theorem plain_new : plainId "itertools.combinations.__new__" = true := by decide +kernel
section
variable {prog : Program} {w : World} {A : Around} {E : Value → Shared → Prop} {s : Shared}
theorem code_new {a : Value} {k : Int} {t : Tok} {P : List Value → Prop} {Q₁ : Value → Shared → Prop} (hh : A.handled = none) (h0 : 0 ≤ k) (h1 : k ≤ 7)
    (hcol : ∀ (B : Around) (Q : List Value → Shared → Prop) (E' : Value → Shared → Prop), B.handled = none → (∀ (h' : Heap) (tk : Nat) (us : List Value), (∀ b o, s.heap.get? b = some o → h'.get? b = some o) → P us → Q us { s with heap := h', toks := tk }) → wpAny (model prog w) B (collect a) Q E' s)
    (hP : ∀ us, P us → us.length ≤ 7 ∧ k ≤ us.length)
    (h : ∀ (h' : Heap) (tk : Nat) (us : List Value), (∀ b o, s.heap.get? b = some o → h'.get? b = some o) → P us →
      Q₁ (.ref (h'.objs.size + 1)) { s with heap := (h'.push { cls := .type "tuple", data := .seq us.toArray }).push { cls := .type "itertools.combinations", data := .fields (fs h'.objs.size 0 .none (List.range k.toNat)) }, toks := tk }) :
    codeAny (model prog w) A (.call (.builtin "itertools.combinations.__new__") ⟨[.type "itertools.combinations", a, .int k t], []⟩) (wants Q₁ E) s := by
  refine codeAny_of_tree ?_
  show wpAny _ A.in1 (do checkBuiltinCall "itertools.combinations.__new__" ⟨[.type "itertools.combinations", a, .int k t], []⟩; again (.builtin "itertools.combinations.__new__" ⟨[.type "itertools.combinations", a, .int k t], []⟩)) _ _ s
  refine wpAny_bind (wpAny_of_eq (cb_nc _ _) (wpAny_pure ⟨plainId_quiet plain_new _, codeAny_builtin cb_entN ?_⟩))
  rw [Around.under_plainId plain_new _]
  have hsub : isSubtype (.type "itertools.combinations") (.type ("itertools." ++ "combinations")) = pure true := cb_sub
  have hd := cb_nodict
  have hh1 : A.in1.handled = none := hh
  have hn : ¬ ((decide (k < -2 ^ 63) || decide (k ≥ 2 ^ 63)) = true) := by
    rw [decide_eq_false (show ¬ k < -2 ^ 63 by omega), decide_eq_false (show ¬ k ≥ 2 ^ 63 by omega)]
    decide
  have hn2 : ¬ k < 0 := by omega
  have hn3 : ¬ Builtin.Itertools.itTooMany k = true := by
    show ¬ decide (k > 2 ^ 20) = true
    rw [decide_eq_true_iff]; omega
  obtain ⟨hp, g, dd, tk, os⟩ := s
  repeat (first
    | with_reducible apply hcol A.in1 _ _ hh1
    | wp_step
    | simp only [List.head?_cons, Option.some_or, List.getElem?_cons_succ, List.getElem?_cons_zero, List.length_cons, List.length_nil, List.forIn_nil]
    | (refine wpAny_ite_false (decide_eq_false hn) ?_))
  intro h' tk us hk hp
  obtain ⟨hl1, hl2⟩ := hP us hp
  rw [if_neg hn2, if_neg hn3]
  have hr : (if k.toNat > us.length then (2 : Int) else 0) = 0 := by rw [if_neg (by omega)]
  refine wpAny_bind (wpAny_newObj_type ?_ (by show us.toArray.size ≤ sizeLine; rw [List.size_toArray, sizeLine_eq]; omega))
  refine wpAny_pure ?_
  simp only [Builtin.Itertools.itNewRecord, hd]
  rw [hr]
  refine wpAny_bind ?_
  rw [if_pos (show (!false) = true from rfl)]
  refine wpAny_newObj_type ?_ (by show (_ : List Value).toArray.size ≤ sizeLine + 2; simp; rw [sizeLine_eq]; omega)
  refine wpAny_pure ?_
  have q := h h' tk us hk hp
  rw [← Heap.size_push h' { cls := .type "tuple", data := .seq us.toArray }] at q
  exact q
end
/-- the tuple of the items with these indexes -/
def pk (its : Array Value) (ix : List Nat) : Obj := { cls := .type "tuple", data := .seq (ix.map fun i => its.getD i .none).toArray }
section
variable {prog : Program} {w : World} {A : Around} {E : Value → Shared → Prop} {s : Shared} {e P : Addr} {st : Int} {last : Value} {ix nx : List Nat} {its : Array Value}
theorem iter {Q : Value → Shared → Prop} (hit : Is s.heap e P st last ix) (h : Q (.ref e) s) : wpAny (model prog w) A (pyIter (.ref e)) Q E s := by
  have hT : s.TypeIs (.ref e) "itertools.combinations" := ⟨_, hit, rfl⟩
  refine wpAny_pyIter_slot hT cb_iter (wpAny_call_entry cb_iter hT cb_entI ?_ (cb_argI _))
  show wpAny _ _ (ret (.ref e)) _ _ s
  exact wpAny_pure ⟨_, rfl, "itertools.combinations", _, hT, cb_nxt.lookup, h⟩
theorem nums {Q : List Nat → Shared → Prop} (hit : Is s.heap e P st last ix) (h : Q ix s) : wpAny (model prog w) A (Builtin.Itertools.itNumbersFrom (.ref e) 3) Q E s := by
  unfold Builtin.Itertools.itNumbersFrom
  refine wpAny_bind (wpAny_load hit ?_)
  refine wpAny_pure ?_
  have q : ((fs P st last ix).toList.drop 3).map (fun | .int n _ => n.toNat | _ => 0) = ix := by
    unfold fs
    simp [Function.comp_def]
  exact cast (congrArg (fun l => Q l s) q.symm) h
theorem setn {Q : Unit → Shared → Prop} (hit : Is s.heap e P st last ix) (hl : nx.length ≤ 7) (h : ∀ h', Is h' e P st last nx → (∀ b o, b ≠ e → s.heap.get? b = some o → h'.get? b = some o) → h'.objs.size = s.heap.objs.size → Q () { s with heap := h' }) : wpAny (model prog w) A (Builtin.Itertools.itSetNumbersFrom (.ref e) 3 nx) Q E s := by
  unfold Builtin.Itertools.itSetNumbersFrom
  have q : (fs P st last ix).extract 0 3 ++ (nx.map fun (n : Nat) => rawInt n).toArray = fs P st last nx := by
    unfold fs
    simp [rawInt]
  refine wpAny_updateFields hit rfl (h _ ?_ (fun b o hb g => (Heap.get?_update_other _ _ (Ne.symm hb)).trans g) (Heap.size_after_update ..)) ?_
  · have z := Heap.get?_update_self (Obj.mapFields fun x => x.extract 0 3 ++ (nx.map fun (n : Nat) => rawInt n).toArray) hit rfl
    refine z.trans ?_
    exact congrArg (fun v => some ({ cls := Value.type "itertools.combinations", dict := none, data := Data.fields v, slots := #[] } : Obj)) q
  · show ((fs P st last ix).extract 0 3 ++ (nx.map fun (n : Nat) => rawInt n).toArray).size ≤ _
    rw [q]
    unfold fs
    simp; rw [sizeLine_eq]; omega
theorem set1 {Q : Unit → Shared → Prop} {x : Int} (hit : Is s.heap e P st last ix) (h : ∀ h', Is h' e P x last ix → (∀ b o, b ≠ e → s.heap.get? b = some o → h'.get? b = some o) → h'.objs.size = s.heap.objs.size → Q () { s with heap := h' }) : wpAny (model prog w) A (setField (.ref e) 1 (rawInt x)) Q E s :=
  wpAny_setField hit rfl (by unfold fs; simp) (h _ (Heap.get?_update_self _ hit rfl) (fun b o hb g => (Heap.get?_update_other _ _ (Ne.symm hb)).trans g) (Heap.size_after_update ..))
theorem set2 {Q : Unit → Shared → Prop} {x : Value} (hit : Is s.heap e P st last ix) (h : ∀ h', Is h' e P st x ix → (∀ b o, b ≠ e → s.heap.get? b = some o → h'.get? b = some o) → h'.objs.size = s.heap.objs.size → Q () { s with heap := h' }) : wpAny (model prog w) A (setField (.ref e) 2 x) Q E s :=
  wpAny_setField hit rfl (by unfold fs; simp) (h _ (Heap.get?_update_self _ hit rfl) (fun b o hb g => (Heap.get?_update_other _ _ (Ne.symm hb)).trans g) (Heap.size_after_update ..))
theorem pool {Q : Array Value → Shared → Prop} (ht : s.heap.IsTuple P its) (h : Q its s) : wpAny (model prog w) A (Builtin.Itertools.itPoolItems (.ref P)) Q E s := by
  obtain ⟨o, g, _, n, hd⟩ := ht
  unfold Builtin.Itertools.itPoolItems
  refine wpAny_bind ?_
  unfold seqItems?
  refine wpAny_bind (wpAny_load g ?_)
  rw [hd]
  exact wpAny_pure (wpAny_pure h)
/-- what a turn leaves -/
def Left (s : Shared) (e P : Addr) (its : Array Value) (ix : List Nat) (h' : Heap) : Prop :=
  Is h' e P 1 (.ref s.heap.objs.size) ix ∧ h'.get? s.heap.objs.size = some (pk its ix) ∧ ∀ b o, b ≠ e → s.heap.get? b = some o → h'.get? b = some o
theorem first {Q : Option Value → Shared → Prop} (hit : Is s.heap e P 0 last ix) (ht : s.heap.IsTuple P its) (hne : e ≠ P) (hl : ix.length ≤ 7) (hQ : ∀ h', Left s e P its ix h' → Q (some (.ref s.heap.objs.size)) { s with heap := h' }) :
    wpAny (model prog w) A (pyNext (.ref e)) Q E s := by
  have hT : s.TypeIs (.ref e) "itertools.combinations" := ⟨_, hit, rfl⟩
  unfold pyNext
  refine wpAny_bind (wpAny_attempt (wpAny_callSpecial?_slot (name := Str.ofString "__next__") hT cb_nxt (wpAny_call_entry cb_nxt hT cb_entX ?_ (cb_argX _))))
  show wpAny _ _ (field (.ref e) 0 >>= _) _ _ s
  refine wpAny_bind (wpAny_field hit rfl (x := .ref P) rfl ?_)
  show wpAny _ _ (Builtin.Itertools.itNumbersFrom (.ref e) 3 >>= _) _ _ s
  refine wpAny_bind (nums hit ?_)
  show wpAny _ _ (Builtin.Itertools.itIntField (.ref e) 1 >>= _) _ _ s
  refine wpAny_bind ?_
  show wpAny _ _ (field (.ref e) 1 >>= _) _ _ s
  refine wpAny_bind (wpAny_field hit rfl (x := .int 0 0) rfl (wpAny_pure ?_))
  show wpAny _ _ (setField (.ref e) 1 (rawInt 1) >>= _) _ _ s
  refine wpAny_bind (set1 hit fun h1 i1 k1 z1 => ?_)
  show wpAny _ _ ((Builtin.Itertools.itPoolItems (.ref P) >>= _) >>= _) _ _ _
  have ht1 : h1.IsTuple P its := let ⟨o, g, r⟩ := ht; ⟨o, k1 _ _ (Ne.symm hne) g, r⟩
  refine wpAny_bind (wpAny_bind (pool (s := { s with heap := h1 }) ht1 ?_))
  refine wpAny_newObj_type ?_ (by show (_ : List Value).toArray.size ≤ sizeLine; simp; rw [sizeLine_eq]; omega)
  show wpAny _ _ (field (.ref e) 2 >>= _) _ _ _
  have i2 : Is (h1.push (pk its ix)) e P 1 last ix := Heap.get?_push_of_some _ i1
  refine wpAny_bind (wpAny_field i2 rfl (x := last) rfl ?_)
  show wpAny _ _ (setField (.ref e) 2 (.ref h1.objs.size) >>= _) _ _ _
  refine wpAny_bind (set2 (s := { s with heap := h1.push (pk its ix) }) i2 fun h3 i3 k3 z3 => ?_)
  refine wpAny_bind (wpAny_letGo ?_)
  refine wpAny_pure ⟨_, rfl, wpAny_pure ?_⟩
  rw [z1] at i3 ⊢
  have hes : e ≠ s.heap.objs.size := Nat.ne_of_lt (Heap.lt_size hit)
  refine hQ h3 ⟨i3, (k3 _ _ (Ne.symm hes) (by rw [← z1]; exact Heap.get?_push_size _ rfl)), fun b o hb g => k3 b o hb (Heap.get?_push_of_some _ (k1 b o hb g))⟩
theorem cbN_def {n : Nat} {ix : List Nat} {r : Option (List Nat)} (h : (match (List.range ix.length).reverse.find? fun i => ix.getD i 0 != i + n - ix.length with
    | none => none
    | some i => some (ix.take i ++ (List.range (ix.length - i)).map (ix.getD i 0 + 1 + ·))) = r) : DL.cbN n ix = r := by
  subst h
  unfold DL.cbN
  cases (List.range ix.length).reverse.find? fun i => ix.getD i 0 != i + n - ix.length <;> rfl
theorem more {Q : Option Value → Shared → Prop} (hit : Is s.heap e P 1 last ix) (ht : s.heap.IsTuple P its) (hne : e ≠ P) (hl : nx.length ≤ 7) (hn : DL.cbN its.size ix = some nx) (hQ : ∀ h', Left s e P its nx h' → Q (some (.ref s.heap.objs.size)) { s with heap := h' }) :
    wpAny (model prog w) A (pyNext (.ref e)) Q E s := by
  have hT : s.TypeIs (.ref e) "itertools.combinations" := ⟨_, hit, rfl⟩
  unfold pyNext
  refine wpAny_bind (wpAny_attempt (wpAny_callSpecial?_slot (name := Str.ofString "__next__") hT cb_nxt (wpAny_call_entry cb_nxt hT cb_entX ?_ (cb_argX _))))
  show wpAny _ _ (field (.ref e) 0 >>= _) _ _ s
  refine wpAny_bind (wpAny_field hit rfl (x := .ref P) rfl ?_)
  show wpAny _ _ (Builtin.Itertools.itNumbersFrom (.ref e) 3 >>= _) _ _ s
  refine wpAny_bind (nums hit ?_)
  show wpAny _ _ (Builtin.Itertools.itIntField (.ref e) 1 >>= _) _ _ s
  refine wpAny_bind ?_
  show wpAny _ _ (field (.ref e) 1 >>= _) _ _ s
  refine wpAny_bind (wpAny_field hit rfl (x := .int 1 0) rfl (wpAny_pure ?_))
  show wpAny _ _ (Builtin.Itertools.itPoolItems (.ref P) >>= _) _ _ s
  refine wpAny_bind (pool ht ?_)
  split
  · rename_i nx' hm
    have e1 := cbN_def hm
    rw [hn] at e1
    cases e1
    refine wpAny_bind (setn hit hl fun h1 i1 k1 z1 => ?_)
    show wpAny _ _ ((Builtin.Itertools.itPoolItems (.ref P) >>= _) >>= _) _ _ _
    have ht1 : h1.IsTuple P its := let ⟨o, g, r⟩ := ht; ⟨o, k1 _ _ (Ne.symm hne) g, r⟩
    refine wpAny_bind (wpAny_bind (pool (s := { s with heap := h1 }) ht1 ?_))
    refine wpAny_newObj_type ?_ (by show (_ : List Value).toArray.size ≤ sizeLine; simp; rw [sizeLine_eq]; omega)
    show wpAny _ _ (field (.ref e) 2 >>= _) _ _ _
    have i2 : Is (h1.push (pk its nx)) e P 1 last nx := Heap.get?_push_of_some _ i1
    refine wpAny_bind (wpAny_field i2 rfl (x := last) rfl ?_)
    show wpAny _ _ (setField (.ref e) 2 (.ref h1.objs.size) >>= _) _ _ _
    refine wpAny_bind (set2 (s := { s with heap := h1.push (pk its nx) }) i2 fun h3 i3 k3 z3 => ?_)
    refine wpAny_bind (wpAny_letGo ?_)
    refine wpAny_pure ⟨_, rfl, wpAny_pure ?_⟩
    rw [z1] at i3 ⊢
    have hes : e ≠ s.heap.objs.size := Nat.ne_of_lt (Heap.lt_size hit)
    refine hQ h3 ⟨i3, (k3 _ _ (Ne.symm hes) (by rw [← z1]; exact Heap.get?_push_size _ rfl)), fun b o hb g => k3 b o hb (Heap.get?_push_of_some _ (k1 b o hb g))⟩
  · rename_i hm
    have e1 := cbN_def hm
    rw [hn] at e1
    cases e1
theorem stop {Q : Option Value → Shared → Prop} (hh : A.handled = none) (hit : Is s.heap e P 1 last ix) (ht : s.heap.IsTuple P its) (hne : e ≠ P) (hn : DL.cbN its.size ix = none) (hQ : ∀ h', Heap.ExtBut e s.heap h' → Q none { s with heap := h' }) :
    wpAny (model prog w) A (pyNext (.ref e)) Q E s := by
  have hT : s.TypeIs (.ref e) "itertools.combinations" := ⟨_, hit, rfl⟩
  unfold pyNext
  refine wpAny_bind (wpAny_attempt (wpAny_callSpecial?_slot (name := Str.ofString "__next__") hT cb_nxt (wpAny_call_entry cb_nxt hT cb_entX ?_ (cb_argX _))))
  show wpAny _ _ (field (.ref e) 0 >>= _) _ _ s
  refine wpAny_bind (wpAny_field hit rfl (x := .ref P) rfl ?_)
  show wpAny _ _ (Builtin.Itertools.itNumbersFrom (.ref e) 3 >>= _) _ _ s
  refine wpAny_bind (nums hit ?_)
  show wpAny _ _ (Builtin.Itertools.itIntField (.ref e) 1 >>= _) _ _ s
  refine wpAny_bind ?_
  show wpAny _ _ (field (.ref e) 1 >>= _) _ _ s
  refine wpAny_bind (wpAny_field hit rfl (x := .int 1 0) rfl (wpAny_pure ?_))
  show wpAny _ _ (Builtin.Itertools.itPoolItems (.ref P) >>= _) _ _ s
  refine wpAny_bind (pool ht ?_)
  split
  · rename_i nx' hm
    have e1 := cbN_def hm
    rw [hn] at e1
    cases e1
  · refine wpAny_bind (set1 hit fun h1 i1 k1 z1 => ?_)
    show wpAny _ _ (newExc (.type "StopIteration") [] >>= _) _ _ _
    refine wpAny_bind ?_
    simp only [newExc, newTuple]
    refine wpAny_bind (wpAny_newObj_type ?_ (by size_fits))
    refine wpAny_bind (m := firstArgMember _ _) (wpAny_of_eq (a := Value.none) (by first | rfl | (simp only [firstArgMember]; rfl)) ?_)
    refine wpAny_newObj_type ?_ (by size_fits)
    simp only [raiseNew]
    refine wpAny_bind (wpAny_handled ?_)
    first | rw [show A.in1.handled = none from hh] | rw [hh]
    refine wpAny_bind (wpAny_pure (wpAny_throw ?_))
    refine wpAny_bind (wpAny_isInstance (T := "StopIteration") (b := true) ⟨_, Heap.get?_push_size _ rfl, rfl⟩ isSubtype_stop ?_)
    refine wpAny_pure (hQ _ ?_)
    exact fun b o hb g => Heap.get?_push_of_some _ (Heap.get?_push_of_some _ (k1 b o hb g))
end
end CBK
namespace CBK
open PySem PySem.Spec
section
variable {prog : Program} {w : World} {A : Around} {E : Value → Shared → Prop} {s : Shared}
theorem called {a : Value} {k : Int} {t : Tok} {P : List Value → Prop} {Q : Value → Shared → Prop} (hh : A.handled = none) (h0 : 0 ≤ k) (h1 : k ≤ 7)
    (hcol : ∀ (B : Around) (Q : List Value → Shared → Prop) (E' : Value → Shared → Prop), B.handled = none → (∀ (h' : Heap) (tk : Nat) (us : List Value), (∀ b o, s.heap.get? b = some o → h'.get? b = some o) → P us → Q us { s with heap := h', toks := tk }) → wpAny (model prog w) B (collect a) Q E' s)
    (hP : ∀ us, P us → us.length ≤ 7 ∧ k ≤ us.length)
    (h : ∀ (h' : Heap) (tk : Nat) (us : List Value), (∀ b o, s.heap.get? b = some o → h'.get? b = some o) → P us →
      Q (.ref (h'.objs.size + 1)) { s with heap := (h'.push { cls := .type "tuple", data := .seq us.toArray }).push { cls := .type "itertools.combinations", data := .fields (fs h'.objs.size 0 .none (List.range k.toNat)) }, toks := tk }) :
    wpAny (model prog w) A (call (.type "itertools.combinations") [a, .int k t]) Q E s := by
  refine callType_codes (Q₁ := fun obj s₁ => s₁.TypeIs obj "itertools.combinations" ∧ Q obj s₁) cb_called (cb_tc _ _) F.entry_object_init
    (code_new (A := A.in1) hh h0 h1 hcol hP fun h' tk us hk hp => ⟨⟨{ cls := .type "itertools.combinations", data := .fields (fs h'.objs.size 0 .none (List.range k.toNat)) }, ?_, rfl⟩, h h' tk us hk hp⟩) fun obj s₁ h₁ => ?_
  · have z := Heap.get?_push_size (h'.push { cls := .type "tuple", data := .seq us.toArray }) (o := { cls := .type "itertools.combinations", data := .fields (fs h'.objs.size 0 .none (List.range k.toNat)) }) rfl
    rw [Heap.size_push] at z
    exact z
  · exact ⟨h₁.1, F.args_object_init_3 obj _ _, object_init_meets cb_called.init.lookup cb_called.made (by decide) prog w A.in1 _ s₁ ⟨h₁.1, rfl, h₁.2⟩⟩
end
end CBK
namespace DL
open PySem PySem.Spec PyProof.Rows L2
/-! combinations, walked -/
theorem cbL_len {r : Nat} {ix : List Nat} {n : Nat} (hn : n ≤ 7) (hr : r ≤ n) (h : ix ∈ cbL r (List.range n)) : ix.length ≤ 7 := by
  have key : ∀ (r : Nat) (l : List Nat), ∀ c ∈ cbL r l, c.length = r := by
    intro r
    induction r with
    | zero => intro l c hc; simp [cbL] at hc; simp [hc]
    | succ r ih =>
      intro l
      induction l with
      | nil => intro c hc; simp [cbL] at hc
      | cons x l ih2 =>
        intro c hc
        unfold cbL at hc
        rcases List.mem_append.mp hc with hc | hc
        · obtain ⟨d, hd, rfl⟩ := List.mem_map.mp hc
          simp [ih l d hd]
        · exact ih2 c hc
  rw [key r _ ix h]; omega
/-- the items of a list with these indexes -/
def pkV {α : Type} (d : α) (xs : List α) (ix : List Nat) : List α := ix.map fun i => xs.getD i d
theorem cb_pk {α : Type} (d : α) (xs : List α) (r : Nat) : cbL r xs = (cbL r (List.range xs.length)).map (pkV d xs) := by
  have e : xs = (List.range xs.length).map fun i => xs.getD i d := by
    apply List.ext_getElem?
    intro i
    by_cases h : i < xs.length
    · simp [h]
    · simp [h]
  conv => lhs; rw [e]
  rw [cbL_map]; rfl
def ItCb (r : Nat) (xs : List V) : It :=
  ⟨fun i _ => i < (cbL r xs).length, fun i H v H' => ∃ T o c, (cbL r xs)[i]? = some c ∧ v = .ref T ∧ H T = none ∧ XT o ∧ H' = upd H T (.frz o (.tup c)), fun i _ => (cbL r xs).length ≤ i⟩
theorem vals_pk {xs : List V} {its : List Value} (rv : Vals xs its) : ∀ {ix : List Nat}, (∀ i ∈ ix, i < xs.length) → Vals (pkV .non xs ix) (ix.map fun i => its.toArray.getD i .none)
  | [], _ => .nil
  | i :: ix, h => by
    have hi := h i (List.mem_cons_self ..)
    obtain ⟨u, hu, r⟩ := rv.get (List.getElem?_eq_getElem hi)
    refine .cons (show L2.RelV (xs.getD i .non) (its.toArray.getD i .none) from ?_) (vals_pk rv fun j hj => h j (List.mem_cons_of_mem _ hj))
    have e1 : xs.getD i .non = xs[i] := by simp [hi]
    have e2 : its.toArray.getD i .none = u := by
      have := (List.getElem?_eq_some_iff.mp hu)
      obtain ⟨h1, h2⟩ := this
      simp [Array.getD, h1, h2]
    rw [e1, e2]; exact r
def tnC (e P : Addr) (its : List Value) (n r : Nat) (i : Nat) (h : Heap) : Prop :=
  h.IsTuple P its.toArray ∧ e ≠ P ∧ match i with
    | 0 => CBK.Is h e P 0 .none (List.range r)
    | j + 1 => ∃ last ix, (cbL r (List.range n))[j]? = some ix ∧ CBK.Is h e P 1 last ix
theorem tnC_is {e P : Addr} {its : List Value} {n r i : Nat} {h : Heap} (t : tnC e P its n r i h) : ∃ st last ix, CBK.Is h e P st last ix := by
  obtain ⟨_, _, t⟩ := t
  cases i with
  | zero => exact ⟨_, _, _, t⟩
  | succ j => obtain ⟨last, ix, _, t⟩ := t; exact ⟨_, _, _, t⟩
theorem turn_comb {Pg : Program} {w : World} {K : PySem.W.Frag} {tg : Expr} {xs : List V} {its : List Value} {r : Nat} (rv : Vals xs its) (hn : xs.length ≤ 7) (hr : r ≤ xs.length) (e P : Addr) :
    Turn Pg w K tg (ItCb r xs) [e, P] e (tnC e P its xs.length r) where
  mem := by simp
  obj := fun i h st b hb => by
    have eb : b = e ∨ b = P := by simpa using hb
    rcases eb with rfl | rfl
    · obtain ⟨_, _, _, g⟩ := tnC_is st
      exact ⟨_, g, fun v q => nomatch q⟩
    · obtain ⟨⟨o, g, _, n, d⟩, _⟩ := st
      exact ⟨o, g, fun v q => by rw [d] at q; cases q⟩
  keep := fun i h h' st k => by
    obtain ⟨⟨o, g, r⟩, hne, t⟩ := st
    refine ⟨⟨o, k P (by simp) _ g, r⟩, hne, ?_⟩
    cases i with
    | zero => exact k e (by simp) _ t
    | succ j => obtain ⟨last, ix, c, t⟩ := t; exact ⟨last, ix, c, k e (by simp) _ t⟩
  item := by
    intro X hP hw hK hc i pins s sg H E I hf st hg
    subst hP hw hK
    obtain ⟨ht, hne, t⟩ := st
    have hlt : i < (cbL r xs).length := hg
    rw [cb_pk .non xs r, List.length_map] at hlt
    have hix : (cbL r (List.range xs.length))[i]? = some (cbL r (List.range xs.length))[i] := List.getElem?_eq_getElem hlt
    generalize (cbL r (List.range xs.length))[i] = ix at hix
    have hmem := List.mem_of_getElem? hix
    have hl7 := cbL_len hn hr hmem
    have hlts := cb_lt hn hr hmem
    have hsz : its.toArray.size = xs.length := by rw [List.size_toArray, rv.length]
    have key : ∀ h', CBK.Left s e P its.toArray ix h' → ∃ u, some (Value.ref s.heap.objs.size) = some u ∧
        wpAny (model X.prog X.w) X.A (letOwnedTupleGo tg (.ref e) u) (fun _ s2 => ∃ x H', Inv X pins sg H' s2 ∧ RelV x u ∧ (ItCb r xs).yld i H x H' ∧ tnC e P its xs.length r (i + 1) s2.heap ∧ ∀ b ∈ [e, P], H' b = none) E { s with heap := h' } := by
      intro h' ⟨i1, i2, i3⟩
      have hrv := vals_pk rv hlts
      have hle : e < s.heap.objs.size := by
        cases i with
        | zero => exact Heap.lt_size t
        | succ j => obtain ⟨_, _, _, t⟩ := t; exact Heap.lt_size t
      have hlP : P < s.heap.objs.size := let ⟨o, g, _⟩ := ht; Heap.lt_size g
      have I1 : Inv X pins sg (upd H s.heap.objs.size (.frz (CBK.pk its.toArray ix) (.tup (pkV .non xs ix)))) { s with heap := h' } :=
        I.turnedNew (t' := s.toks) (ch := [e]) (fun b o hb g => i3 b o (by simpa using hb) g) (fun b hb => hf b (by rw [List.mem_singleton.mp hb]; simp)) (Nat.le_refl _)
          (tup_ok (n := 0) (by unfold pkV; rw [List.length_map, sizeLine_eq]; omega) hrv i2 rfl rfl)
      refine ⟨_, rfl, go_of (s := { s with heap := h' }) (n := "itertools.combinations") i1 rfl rfl (by decide) ⟨.ref s.heap.objs.size, _, I1, rfl, ⟨_, _, _, ?_, rfl, I.hok.fresh (Nat.le_refl _), ⟨rfl, rfl⟩, rfl⟩, ⟨?_, hne, _, _, hix, i1⟩, fun b hb => ?_⟩⟩
      · rw [cb_pk .non xs r, List.getElem?_map, hix]; rfl
      · obtain ⟨o, g, r⟩ := ht
        exact ⟨o, i3 _ _ (Ne.symm hne) g, r⟩
      · have eb : b = e ∨ b = P := by simpa using hb
        rcases eb with rfl | rfl
        · rw [upd_ne (Nat.ne_of_lt hle)]; exact (hf _ hb).1
        · rw [upd_ne (Nat.ne_of_lt hlP)]; exact (hf _ hb).1
    cases i with
    | zero =>
      have e0 := cb_first hn hr
      rw [hix] at e0
      cases e0
      exact CBK.first t ht hne hl7 key
    | succ j =>
      obtain ⟨last, ix0, c0, t⟩ := t
      have e1 := cb_next hn hr c0
      rw [hix, ← hsz] at e1
      exact CBK.more t ht hne hl7 e1 key
  done := by
    intro X hP hw hK hc i pins s sg H E I hf st hg
    subst hP hw hK
    obtain ⟨ht, hne, t⟩ := st
    have hge : (cbL r xs).length ≤ i := hg
    rw [cb_pk .non xs r, List.length_map] at hge
    have hsz : its.toArray.size = xs.length := by rw [List.size_toArray, rv.length]
    obtain ⟨f0, f1, f2, f3, f4, f5⟩ := hf e (by simp)
    cases i with
    | zero =>
      have e0 := cb_first hn hr
      rw [List.getElem?_eq_none (by omega)] at e0
      cases e0
    | succ j =>
      obtain ⟨last, ix0, c0, t⟩ := t
      have e1 := cb_next hn hr c0
      rw [List.getElem?_eq_none hge, ← hsz] at e1
      exact CBK.stop (I.ok.hd hc) t ht hne e1 fun h' eb => ⟨rfl, I.turned (t' := s.toks) (fun b o hb q => eb b o hb q) f0 f1 f3 f4 f5⟩
  self := fun A i s Q E st h => by
    obtain ⟨_, _, _, g⟩ := tnC_is st
    exact CBK.iter g h
def iComb (K : PySem.W.Frag) (ta : TA) : TI := fun sg H R => ta sg H fun vs H1 => ∃ a k xs, vs = [.ref a, .int k] ∧ (SqT K H1 a xs ∨ ∃ n : Nat, H1 a = some (.rng 0 n) ∧ n ≤ 7 ∧ xs = rgV 0 n) ∧ xs.length ≤ 7 ∧ 0 ≤ k ∧ k ≤ xs.length ∧ R (ItCb k.toNat xs) H1
theorem pi_comb {X : Cx} {tg e e2 : Expr} {ta : TA} {p pos : Pos} (hc : X.calm = true) (hm : X.mg "combinations" = some (.type "itertools.combinations")) (ha : PA X [e, e2] ta) (hg : Gl X "combinations" := by rfl)
    (hs : starEach [e, e2] X.env = (false, eval e X.env) :: starEach [e2] X.env := by rfl) (hpl : (backTo pos (starEach [e2] X.env)).any (·.1) = false := by rfl) :
    PI X tg (.Call (.Name "combinations" p) [e, e2] [] pos) (iComb X.K ta) := by
  refine ⟨fun pins s σ H R I h => Call_ (ld_glob I hg hm (PyProof.Rows.callWith_type1 (thn (ha.run pos pins s σ H _ I h) fun us s1 ⟨vs, H1, I1, r1, a, k, xs, ex, hq, hn, h0, hk, q⟩ => ?_) hs hpl))⟩
  subst ex
  obtain ⟨u, v, rfl, ru, rw2⟩ := Vals.two r1
  cases ru
  obtain ⟨t, rfl⟩ := rw2
  refine CBK.called (P := fun us => Vals xs us) (I1.ok.hd hc) h0 (by omega) (fun B Q E' hB hk2 => ?_) (fun us hv => ⟨by rw [← hv.length]; exact hn, by rw [← hv.length]; exact hk⟩) fun h' tk us hk2 hv => ?_
  · rcases hq with hq | ⟨n, hq, hn7, rfl⟩
    · obtain ⟨its, rv, pt, hz⟩ := I1.tuple hq
      obtain ⟨o, g, c, n, d⟩ := pt
      exact wpAny_collect_seq a (.inr rfl) g c d (fun h' hk3 => hk2 h' s1.toks _ hk3 rv) (by rw [List.size_toArray, ← rv.length, sizeLine_eq]; omega)
    · obtain ⟨t1, t2, t3, ho⟩ := I1.hok a _ hq
      refine collect_range hB (show IsRange s1.heap a 0 n 1 t1 t2 t3 from ho) (small_one (by decide) (by decide) (by omega) (by omega)) (n := n) (by rw [rangeSize_nat]; omega) (by omega) fun h' tk acc hk3 hi => hk2 h' tk _ hk3 ?_
      exact vals_rg (a := 0) (b := (n : Int)) (by simpa using hi)
  · have i0 : CBK.Is ((h'.push { cls := .type "tuple", data := .seq us.toArray }).push { cls := .type "itertools.combinations", data := .fields (CBK.fs h'.objs.size 0 .none (List.range k.toNat)) }) (h'.objs.size + 1) h'.objs.size 0 .none (List.range k.toNat) := by
      have z := Heap.get?_push_size (h'.push { cls := .type "tuple", data := .seq us.toArray }) (o := { cls := .type "itertools.combinations", data := .fields (CBK.fs h'.objs.size 0 .none (List.range k.toNat)) }) rfl
      rw [Heap.size_push] at z
      exact z
    refine CBK.iter i0 ?_
    have I2 : Inv X pins σ H1 { s1 with heap := h', toks := tk } := I1.kept (t' := tk) hk2
    refine ⟨h'.objs.size + 1, [h'.objs.size + 1, h'.objs.size], _, _, H1, rfl, I1.kept (t' := tk) fun b o g => Heap.get?_push_of_some _ (Heap.get?_push_of_some _ (hk2 b o g)), turn_comb hv hn (by omega) _ _, ⟨⟨_, Heap.get?_push_of_some _ (Heap.get?_push_size _ rfl), rfl, 0, rfl⟩, Nat.succ_ne_self _, i0⟩, fun b hb => ?_, q⟩
    have hb' : h'.objs.size ≤ b := by
      have eb : b = h'.objs.size + 1 ∨ b = h'.objs.size := by simpa using hb
      rcases eb with rfl | rfl <;> omega
    exact I2.fpOk hb' (I2.hok.fresh hb')
end DL
namespace DL
open PySem PySem.Spec PyProof.Rows L2
theorem rep_pk {K : PySem.W.Frag} {H : Hp} {p : Pl} {us : List D} {xs : List V} (l : RepL K H p us xs) : ∀ {ix : List Nat}, (∀ i ∈ ix, i < us.length) → RepL K H p (pkV .non us ix) (pkV .non xs ix)
  | [], _ => RepL.nil
  | i :: ix, h => by
    have hi := h i (List.mem_cons_self ..)
    obtain ⟨v, hv, r⟩ := l.get i _ (List.getElem?_eq_getElem hi)
    refine RepL.cons (show RepV K H p (us.getD i .non) (xs.getD i .non) from ?_) (rep_pk l fun j hj => h j (List.mem_cons_of_mem _ hj))
    have e1 : us.getD i .non = us[i] := by simp [hi]
    have e2 : xs.getD i .non = v := by simp [hv]
    rw [e1, e2]; exact r
theorem relI_comb {G : GC} {H : Hp} {p : Pl} {S : Sto} {us : List D} {xs : List V} {r : Nat} (s : StRel G.K p S H) (l : RepL G.K H p us xs) (hn : xs.length ≤ 7) (hr : r ≤ xs.length) : relI G H p (none, (cbL r us).map .tup) (ItCb r xs) := fun q H' S' x s' _ => by
  have l' := RepL.ext s x _ _ l
  have hl := l.length
  have hlen : (cbL r us).length = (cbL r xs).length := by
    rw [cb_pk .non us r, cb_pk .non xs r, List.length_map, List.length_map, hl]
  refine { go := fun i d h => ?_, yld := fun i d v H2 h y => ?_, stop := ?_ }
  · have := (List.getElem?_eq_some_iff.mp h).1
    rw [List.length_map, hlen] at this
    exact this
  · obtain ⟨T, o, c, hc, rfl, hT, cx, rfl⟩ := y
    rw [List.getElem?_map, Option.map_eq_some_iff] at h
    obtain ⟨u, hu, rfl⟩ := h
    rw [cb_pk .non us r, List.getElem?_map, Option.map_eq_some_iff, hl] at hu
    rw [cb_pk .non xs r, List.getElem?_map, Option.map_eq_some_iff] at hc
    obtain ⟨ix, h1, rfl⟩ := hu
    obtain ⟨ix2, h2, rfl⟩ := hc
    rw [h1] at h2
    cases h2
    have hlt := cb_lt hn hr (List.mem_of_getElem? h1)
    exact ⟨same_upd hT, (new_tup s' hT cx (rep_pk l' fun j hj => by rw [hl]; exact hlt j hj)).2.2⟩
  · show (cbL r xs).length ≤ ((cbL r us).map D.tup).length
    rw [List.length_map, hlen]
    exact Nat.le_refl _
def mItC (ma mb : ME) : MI := fun rho S => (mCons ma (mCons mb mNil) rho S).bind fun ds S1 => match ds with
  | [.tup us, .int k] => if 0 ≤ k ∧ k ≤ us.length ∧ us.length ≤ 7 then .ok (none, (cbL k.toNat us).map .tup) S1 else .stuck
  | [.rng lo hi, .int k] => if lo = 0 ∧ 0 ≤ hi ∧ hi ≤ 7 ∧ 0 ≤ k ∧ k ≤ hi then .ok (none, (cbL k.toNat (rgD 0 hi)).map .tup) S1 else .stuck
  | _ => .stuck
section
variable {X : Cx} {W : WX} {pos p0 : Pos} {tg e e2 : Expr} {ma mb : ME}
theorem di_comb (hm : X.mg "combinations" = some (.type "itertools.combinations")) (ha : DE X W e ma) (hb : DE X W e2 mb) (hc : X.calm = true := by rfl) (hg : Gl X "combinations" := by rfl)
    (hs : starEach [e, e2] X.env = (false, eval e X.env) :: starEach [e2] X.env := by rfl) (hpl : (backTo pos (starEach [e2] X.env)).any (·.1) = false := by rfl) (hs' : starEach [e2] X.env = (false, eval e2 X.env) :: starEach [] X.env := by rfl) :
    DI X W tg (.Call (.Name "combinations" p0) [e, e2] [] pos) (mItC ma mb) :=
  pi_imp (pi_comb hc hm (da_cons ha (da_cons hb da_nil hs') hs) hg hs hpl) fun sig H Rr ⟨p, S, rho, hs, hr, h⟩ => by
    refine dA_use (rel' := relI) hs hr h fun ds S1 q H1 vs x s1 e1 r1 h1 => ?_
    split at h1
    · rename_i us k
      split at h1
      case isFalse => exact h1.elim
      rename_i c
      obtain ⟨v, u, rfl, r2, r3⟩ := r1.two
      obtain ⟨a, xs, rfl, ht, l⟩ := r2
      cases (show u = .int k from r3)
      have hl := l.length
      exact ⟨a, k, xs, rfl, .inl ht.t, by omega, c.1, by omega, h1 q H1 _ Ext.refl s1 (relI_comb s1 l (by omega) (by omega))⟩
    · rename_i lo hi k
      split at h1
      case isFalse => exact h1.elim
      rename_i c
      obtain ⟨c0, c1, c2, c3, c4⟩ := c
      subst c0
      obtain ⟨v, u, rfl, r2, r3⟩ := r1.two
      obtain ⟨a, rfl, ht, _⟩ := r2
      cases (show u = .int k from r3)
      obtain ⟨n, rfl⟩ : ∃ n : Nat, hi = n := ⟨hi.toNat, by omega⟩
      have hl : (rgV 0 (n : Int)).length = n := by rw [rgV_length]; omega
      exact ⟨a, k, rgV 0 n, rfl, .inr ⟨n, ht, by omega, rfl⟩, by omega, c3, by omega, h1 q H1 _ Ext.refl s1 (relI_comb s1 (rg_rep 0 n) (by omega) (by omega))⟩
    · exact h1.elim
end
section
variable {X : Ex → Sto → Prop} {QI : It0 → Sto → Prop} {rho : EnvD} {S : Sto} {ma mb : ME}
theorem w_itC : wE (mItC ma mb rho S) X QI = wE (ma rho S) X fun a S1 => wE (mb rho S1) X fun b S2 => ∃ us k, (a = .tup us ∨ ∃ n : Nat, a = .rng 0 n ∧ us = rgD 0 n) ∧ b = .int k ∧ (0 ≤ k ∧ k ≤ us.length ∧ us.length ≤ 7) ∧ QI (none, (cbL k.toNat us).map .tup) S2 := by
  unfold mItC
  rw [wE_bind, w_cons]; congr 1; funext a S1
  rw [w_cons]; congr 1; funext b S2
  rw [w_nil]
  cases a with
  | tup us =>
    cases b with
    | int k =>
      by_cases h : 0 ≤ k ∧ k ≤ us.length ∧ us.length ≤ 7
      · simp only [if_pos h, wE_ok]
        exact propext ⟨fun q => ⟨us, k, .inl rfl, rfl, h, q⟩, fun ⟨us', k', e1, e2, _, q⟩ => by
          cases e2
          rcases e1 with e1 | ⟨n, e1, _⟩
          · cases e1; exact q
          · cases e1⟩
      · simp only [if_neg h, wE_stuck]
        exact propext ⟨fun q => q.elim, fun ⟨us', k', e1, e2, hh, _⟩ => by
          cases e2
          rcases e1 with e1 | ⟨n, e1, _⟩
          · cases e1; exact h hh
          · cases e1⟩
    | _ =>
      simp only [wE_stuck]
      exact propext ⟨fun q => q.elim, fun ⟨_, _, _, e3, _⟩ => by cases e3⟩
  | rng lo hi =>
    cases b with
    | int k =>
      by_cases h : lo = 0 ∧ 0 ≤ hi ∧ hi ≤ 7 ∧ 0 ≤ k ∧ k ≤ hi
      · simp only [if_pos h, wE_ok]
        obtain ⟨rfl, h1, h2, h3, h4⟩ := h
        obtain ⟨n, rfl⟩ : ∃ n : Nat, hi = n := ⟨hi.toNat, by omega⟩
        have hl : (rgD 0 (n : Int)).length = n := by simp [rgD]
        exact propext ⟨fun q => ⟨rgD 0 n, k, .inr ⟨n, rfl, rfl⟩, rfl, by rw [hl]; omega, q⟩, fun ⟨us', k', e1, e2, _, q⟩ => by
          cases e2
          rcases e1 with e1 | ⟨n', e1, e3⟩
          · cases e1
          · cases e1; rw [e3] at q; exact q⟩
      · simp only [if_neg h, wE_stuck]
        exact propext ⟨fun q => q.elim, fun ⟨us', k', e1, e2, hh, _⟩ => by
          cases e2
          rcases e1 with e1 | ⟨n, e1, e3⟩
          · cases e1
          · cases e1
            have hl : (rgD 0 (n : Int)).length = n := by simp [rgD]
            rw [e3, hl] at hh
            exact h ⟨rfl, by omega, by omega, hh.1, hh.2.1⟩⟩
    | _ =>
      simp only [wE_stuck]
      exact propext ⟨fun q => q.elim, fun ⟨_, _, _, e3, _⟩ => by cases e3⟩
  | _ =>
    simp only [wE_stuck]
    exact propext ⟨fun q => q.elim, fun ⟨_, _, e1, _⟩ => by rcases e1 with e1 | ⟨n, e1, _⟩ <;> cases e1⟩
end
end DL

namespace DL
open PySem PySem.Spec PyProof.Rows L2
/-! ### module constants: a text, a tuple of texts -/
section
variable {X : Cx} {W : WX} {pos : Pos}
end
/-! ### list(d.items()) -/
def rListIt : List V → Hp → VK → Prop := fun vs H Q => ∃ (p a : Addr) (ws : Ws), vs = [V.ref p] ∧ H p = some (DX.itemsO p a) ∧ RdR H a ws ∧ ws.length ≤ sizeLine ∧
  ∀ (H' : Hp) (l : Addr) (ts : List (Addr × (NestedKey × V × V))), (∀ b o, H b = some o → H' b = some o) → H' l = none → ts.map (·.2) = ws → (∀ t ∈ ts, ∃ o, XT o ∧ H' t.1 = some (.frz o (.tup [t.2.2.1, t.2.2.2]))) → Q (.ref l) (upd H' l (.lst (ts.map fun t => V.ref t.1)))
section
variable {X : Cx} {n : Nat}
theorem hc_listIt (hc : X.calm = true) : CallR X (.type "list") rListIt := by
  intro pins s sg H vs us Q I r h
  obtain ⟨p, a, zs, rfl, hp, hR, hz, q⟩ := h
  obtain rfl := Vals.ref1 r
  have view : s.heap.IsItemsView p a := (show ObjOk X.prog X.w H s.heap p (DX.itemsO p a) from I.hok p _ hp).1
  obtain ⟨o, es, ep, h1, h2, h3, h4⟩ := rd_raw I.hok hR
  have hl : zs.length = es.size := by have := Paired.length h4; rw [Array.length_toList] at this; exact this
  refine W.dil_call (I.ok.hd hc) view ⟨o, h1, h2, h3⟩ (by rw [← hl]; exact hz) fun h' tk acc c as k1 hat hal hG hacc => ?_
  have nd : as.Nodup := List.Pairwise.imp (fun h => Nat.ne_of_lt h) hG.rise
  have low : ∀ t ∈ as, s.heap.objs.size ≤ t := fun t ht => Nat.le_of_lt (hG.above t ht)
  have fresh : ∀ t ∈ as, H t = none := fun t ht => I.hok.fresh (low t ht)
  have hl0 : H s.heap.objs.size = none := I.hok.fresh (Nat.le_refl _)
  have hla : s.heap.objs.size ∉ as := fun z => Nat.lt_irrefl _ (hG.above _ z)
  obtain ⟨ws, lw, wat⟩ : ∃ ws : List (Obj × V × V), ws.length = zs.length ∧ ∀ (j : Nat) (z : NestedKey × V × V) (e : DictEntry), zs[j]? = some z → es.toList[j]? = some e → ws[j]? = some (pairO e, z.2.1, z.2.2) :=
    ⟨List.zipWith (fun z e => (pairO e, z.2.1, z.2.2)) zs es.toList, by have : es.toList.length = es.size := Array.length_toList; rw [List.length_zipWith]; omega, fun j z e h1 h2 => by rw [List.getElem?_zipWith, h1, h2]⟩
  have la : as.length = ws.length := by rw [lw, hal, hl]
  have at_ := putP_at as ws H la nd
  have off : ∀ b, b ∉ as → putP H as ws b = H b := fun b hb => putP_off as _ H hb
  have kp : ∀ b u, H b = some u → putP H as ws b = some u := fun b u e => by
    rw [off b (fun z => by rw [fresh b z] at e; cases e)]; exact e
  have hl1 : putP H as ws s.heap.objs.size = none := by rw [off _ hla]; exact hl0
  obtain ⟨ts, ht1⟩ : ∃ ts : List (Addr × (NestedKey × V × V)), ts = as.zip zs := ⟨_, rfl⟩
  have hts : ts.map (·.1) = as := by rw [ht1, List.map_fst_zip (by rw [hal, hl]; exact Nat.le_refl _)]
  have hv : Vals (ts.map fun t => V.ref t.1) acc.toList := by
    rw [hacc, ← hts, List.map_map]
    clear hts ht1
    induction ts with
    | nil => exact .nil
    | cons t ts ih => exact .cons rfl ih
  have hlz : (ts.map fun t => V.ref t.1).length ≤ sizeLine := by
    have e : ts.length = as.length := by rw [← hts, List.length_map]
    rw [List.length_map, e, hal, ← hl]; exact hz
  have hfin : Inv X pins sg (upd (putP H as ws) s.heap.objs.size (.lst (ts.map fun t => V.ref t.1))) { s with heap := h', toks := tk } := inv_grow I k1 (fun b u e => by rw [upd_ne (ne_of_none (kp b u e) hl1)]; exact kp b u e) fun b u e => by
    by_cases hbl : b = s.heap.objs.size
    · subst hbl
      rw [upd_same] at e
      cases e
      exact .inr ⟨Nat.le_refl _, hlz, acc.toList, c, hv, by rw [Array.toArray_toList]; exact hat⟩
    · rw [upd_ne hbl] at e
      by_cases hb : b ∈ as
      · right
        obtain ⟨j, hj⟩ := List.mem_iff_getElem?.mp hb
        obtain ⟨hje, hg⟩ := hG.pairs j b hj
        have hze : (es.toList)[j]? = some es[j] := by rw [Array.getElem?_toList, Array.getElem?_eq_getElem hje]
        obtain ⟨z, hzj, r1, r2, _⟩ := pair_at h4 hze
        have ea := at_ j b (pairO es[j], z.2.1, z.2.2) hj (wat j z _ hzj hze)
        rw [ea] at e; cases e
        exact ⟨low b hb, tup_ok (its := [es[j].key, es[j].val]) (by show 2 ≤ sizeLine; decide) (.cons r1 (.cons r2 .nil)) hg rfl rfl⟩
      · rw [off b hb] at e; exact .inl e
  refine ⟨.ref s.heap.objs.size, _, hfin, rfl, q _ s.heap.objs.size ts kp hl1 ?_ fun t ht => ?_⟩
  · rw [ht1, List.map_snd_zip (by rw [hal, hl]; exact Nat.le_refl _)]
  · rw [ht1] at ht
    obtain ⟨j, hj, e⟩ := List.mem_iff_getElem.mp ht
    have hz' : (as.zip zs)[j]? = some t := by rw [List.getElem?_eq_getElem hj, e]
    have hz2 : (as.zip zs)[j]? = some (t.1, t.2) := hz'
    rw [List.getElem?_zip_eq_some] at hz2
    have hj2 : j < es.toList.length := by rw [Array.length_toList, ← hl]; exact (List.getElem?_eq_some_iff.mp hz2.2).1
    exact ⟨_, ⟨rfl, rfl⟩, at_ j t.1 (pairO es.toList[j], t.2.2.1, t.2.2.2) hz2.1 (wat j t.2 _ hz2.2 (List.getElem?_eq_getElem hj2))⟩
end
theorem rep_items {K : PySem.W.Frag} {H H1 : Hp} {p q : Pl} {S : Sto} (s : StRel K p S H) (x : Ext p H q H1) : ∀ {kvs : Kvs} {ts : List (Addr × (NestedKey × V × V))}, RepL K H p (kvs.map (·.1)) ((ts.map (·.2)).map (·.2.1)) → RepL K H p (kvs.map (·.2)) ((ts.map (·.2)).map (·.2.2)) →
    (∀ t ∈ ts, ∃ o, XT o ∧ H1 t.1 = some (.frz o (.tup [t.2.2.1, t.2.2.2]))) → RepL K H1 q (itemsL kvs) (ts.map fun t => V.ref t.1)
  | [], [], _, _, _ => RepL.nil
  | [], _ :: _, h, _, _ => by cases (show _ = [] from h)
  | _ :: _, [], h, _, _ => by obtain ⟨v, vr, e, _⟩ := h; cases e
  | kv :: kvs, t :: ts, hk, hv, ho => by
    obtain ⟨v1, t1, e1, r1, l1⟩ := hk
    obtain ⟨v2, t2, e2, r2, l2⟩ := hv
    cases e1; cases e2
    obtain ⟨o, c, g⟩ := ho t (List.mem_cons_self ..)
    refine RepL.cons ⟨t.1, _, rfl, .inl ⟨o, g, c⟩, RepL.cons (RepV.ext s x _ _ r1) (RepL.cons (RepV.ext s x _ _ r2) RepL.nil)⟩ (rep_items s x l1 l2 fun t h => ho t (List.mem_cons_of_mem _ h))
def mLIt (m : ME) : ML := fun rho S => (m rho S).bind fun d S1 => match dctOf S1 d with
  | some kvs => if kvs.length ≤ 16777216 then .ok (itemsL kvs) S1 else .stuck
  | none => .stuck
section
variable {X : Cx} {W : WX} {pos cpos apos q0 : Pos} {e : Expr} {m : ME} {n : Nat}
theorem df_listIt (hc : X.calm = true) (hm : X.mg "list" = none) (hd : DE X W e m) (hg : Gl X "list" := by rfl) (hbase : attributeBase e "items" X.env (eval e X.env) = eval e X.env := by rfl) (hline : (apos.endLine == cpos.line) = true := by rfl)
    (he : starEach [.Call (.Attribute e "items" apos) [] [] cpos] X.env = (false, eval (.Call (.Attribute e "items" apos) [] [] cpos) X.env) :: starEach [] X.env := by rfl) (hpl : (backTo pos (starEach [] X.env)).any (·.1) = false := by rfl) :
    DF X W (.Call (.Name "list" q0) [.Call (.Attribute e "items" apos) [] [] cpos] [] pos) (mLIt m) :=
  pe_imp (pe_callTy (hc_listIt hc) hg hm (by decide +kernel) (pa_cons (pe_itemsR hd hbase hline) pa_nil he) (by decide) (by decide) he hpl) fun sig H Q ⟨p, S, rho, hs, hr, h⟩ => by
    refine dE_use (rel' := fun G => RepL G.K) hs hr h fun d S1 q H1 v x s1 e1 r1 h1 => ?_
    split at h1
    case h_2 => exact h1.elim
    rename_i kvs ek
    split at h1
    case isFalse => exact h1.elim
    rename_i c
    obtain ⟨a, ws, rfl, er, r⟩ := dct_rep s1 r1 ek
    refine ⟨a, ws, rfl, er, r.sm, fun pv hpv => ?_⟩
    have k2 : ∀ b o, H1 b = some o → upd H1 pv (DX.itemsO pv a) b = some o := fun b o e => by rw [upd_ne (fun z => by rw [z, hpv] at e; cases e)]; exact e
    have hlen : ws.length = kvs.length := by have := r.rk.length; simpa using this.symm
    refine ⟨pv, a, ws, rfl, upd_same, ?_, by rw [hlen]; exact lineN c, fun H' l ts k3 hl hts hat => ?_⟩
    · rcases er with er | ⟨o, er⟩
      · exact .inl (k2 _ _ er)
      · exact .inr ⟨o, k2 _ _ er⟩
    · have k4 : ∀ b o, H1 b = some o → H' b = some o := fun b o e => k3 b o (k2 b o e)
      have sB := s1.same k4
      have xB : Ext q H1 q H' := Ext.of_same k4
      exact h1 q H' _ xB sB (rep_items s1 xB (by rw [hts]; exact r.rk) (by rw [hts]; exact r.rv) hat) l hl
end
theorem w_lIt {m : ME} {rho : EnvD} {S : Sto} {X : Ex → Sto → Prop} {QL : List D → Sto → Prop} : wE (mLIt m rho S) X QL = wE (m rho S) X fun d S1 => ∃ kvs, dctOf S1 d = some kvs ∧ kvs.length ≤ 16777216 ∧ QL (itemsL kvs) S1 := by
  unfold mLIt; rw [wE_bind]; congr 1; funext d S1
  cases e : dctOf S1 d with
  | none => simp [wE_stuck]
  | some kvs => simp [wE_guard, wE_ok]
/-! ### list(d.values()) -/
def valsO (p d : Addr) : HO := .ext fun h => h.IsValuesView p d
def rValsR : V → List V → Hp → VK → Prop := fun x xs H Q => ∃ (a : Addr) (ws : Ws), x = .ref a ∧ xs = [] ∧ RdR H a ws ∧ (a == sysModules) = false ∧ ∀ p, H p = none → Q (.ref p) (upd H p (valsO p a))
def tValsR (to : TE) : TE := fun σ H Q => to σ H fun x H1 => ∃ (a : Addr) (ws : Ws), x = .ref a ∧ RdR H1 a ws ∧ (a == sysModules) = false ∧ ∀ p, H1 p = none → Q (.ref p) (upd H1 p (valsO p a))
def rListVs : List V → Hp → VK → Prop := fun vs H Q => ∃ (p a : Addr) (ws : Ws), vs = [V.ref p] ∧ H p = some (valsO p a) ∧ RdR H a ws ∧ ws.length ≤ sizeLine ∧ ∀ l, H l = none → Q (.ref l) (upd H l (.lst (ws.map (·.2.2))))
def mLVs (m : ME) : ML := fun rho S => (m rho S).bind fun d S1 => match dctOf S1 d with
  | some kvs => if kvs.length ≤ 16777216 then .ok (kvs.map (·.2)) S1 else .stuck
  | none => .stuck
section
variable {X : Cx} {W : WX} {pos cpos apos q0 : Pos} {e : Expr} {m : ME} {n : Nat}
end
theorem w_lVs {m : ME} {rho : EnvD} {S : Sto} {X : Ex → Sto → Prop} {QL : List D → Sto → Prop} : wE (mLVs m rho S) X QL = wE (m rho S) X fun d S1 => ∃ kvs, dctOf S1 d = some kvs ∧ kvs.length ≤ 16777216 ∧ QL (kvs.map (·.2)) S1 := by
  unfold mLVs; rw [wE_bind]; congr 1; funext d S1
  cases e : dctOf S1 d with
  | none => simp [wE_stuck]
  | some kvs => simp [wE_guard, wE_ok]
end DL

namespace DL
open PySem PySem.Spec PyProof.Rows L2
/-! ### sorted(set(t)), t of ints -/
def insU (x : Int) : List Int → List Int
  | [] => [x]
  | y :: l => if x < y then x :: y :: l else if x = y then y :: l else y :: insU x l
def usort (ns : List Int) : List Int := ns.foldr insU []
def rSetT (K : PySem.W.Frag) (w : World) : List V → Hp → VK → Prop := fun vs H Q => ∃ (p : Addr) (ns : List Int), vs = [.ref p] ∧ SqT K H p (ns.map V.int) ∧ ns.length ≤ 60 ∧ ∀ c ≤ ns.length, ∀ a, H a = none → Q (.ref a) (upd H a (SetO w a (fun j => decide (j ∈ ns)) c))
theorem intsD_inv : ∀ {us : List D} {ns : List Int}, intsD us = some ns → us = ns.map .int
  | [], ns, h => by cases h; rfl
  | d :: us, ns, h => by
    cases d with
    | int b =>
      have h : (intsD us).map (b :: ·) = some ns := h
      obtain ⟨ms, e, rfl⟩ := Option.map_eq_some_iff.mp h
      rw [intsD_inv e]; rfl
    | _ => cases h
def mSortSet (m : ME) : ML := fun rho S => (m rho S).bind fun d S1 => match d with
  | .tup us => match intsD us with
    | some ns => if ns.length ≤ 60 then .ok ((usort ns).map .int) S1 else .stuck
    | none => .stuck
  | _ => .stuck
section
variable {X : Cx} {W : WX} {pos cpos q0 p0 : Pos} {e : Expr} {m : ME}
end
theorem w_sortSet {m : ME} {rho : EnvD} {S : Sto} {X : Ex → Sto → Prop} {QL : List D → Sto → Prop} : wE (mSortSet m rho S) X QL = wE (m rho S) X fun d S1 => ∃ ns : List Int, d = .tup (ns.map .int) ∧ ns.length ≤ 60 ∧ QL ((usort ns).map .int) S1 := by
  unfold mSortSet; rw [wE_bind]; congr 1; funext d S1
  cases d with
  | tup us =>
    cases e : intsD us with
    | some ns =>
      simp only [e]
      have eu : us = ns.map .int := intsD_inv e
      rw [wE_guard, wE_ok]
      exact propext ⟨fun ⟨c, q⟩ => ⟨ns, by rw [eu], c, q⟩, fun ⟨ns', e1, c, q⟩ => by
        cases e1
        rw [intsD_map] at e; cases e
        exact ⟨c, q⟩⟩
    | none =>
      simp only [e, wE_stuck]
      exact propext ⟨fun h => h.elim, fun ⟨ns', e1, c, q⟩ => by cases e1; rw [intsD_map] at e; cases e⟩
  | _ =>
    simp only [wE_stuck]
    exact propext ⟨fun h => h.elim, fun ⟨ns', e1, c, q⟩ => by cases e1⟩
end DL

namespace DL
open PySem PySem.Spec PyProof.Rows L2
/-! ### t.count(y), t a tuple of plain data -/
def tCnt (K : PySem.W.Frag) (to : TE) (ta : TA) : TE := fun σ H Q => to σ H fun x H1 => ∃ a xs, x = .ref a ∧ SqX K H1 a xs ∧ ta σ H1 fun ys H2 => ∃ y d ds zs, ys = [y] ∧ SqT K H2 a zs ∧ DpAll K H2 zs ds ∧ Dp K H2 y d ∧ SeqAt.shaped (.list ds) = true ∧ SeqAt.shaped d = true ∧ Q (.int ((ds.countP fun z => PyData.eqv z d : Nat) : Int)) H2
def isTu : D → Bool
  | .tup _ => true
  | _ => false
def mCntT (o : ME) (t : MA) : ME := fun rho S => (o rho S).bind fun x S1 => if isTu x = true then (t rho S1).bind fun ds S2 => match x, ds with
  | .tup us, [y] => if okL us = true ∧ okD y = true ∧ dpL us < 64 ∧ dpD y ≤ 64 then .ok (.int ((us.countP fun z => eqD z y : Nat) : Int)) S2 else .stuck
  | _, _ => .stuck
  else .stuck
theorem w_cntT {a : ME} {t : MA} {rho : EnvD} {S : Sto} {X : Ex → Sto → Prop} {Q : D → Sto → Prop} : wE (mCntT a t rho S) X Q = wE (a rho S) X fun d S1 => isTu d = true ∧ wE (t rho S1) X fun ds S2 => ∃ y us, ds = [y] ∧ d = .tup us ∧ (okL us = true ∧ okD y = true ∧ dpL us < 64 ∧ dpD y ≤ 64) ∧ Q (.int ((us.countP fun z => eqD z y : Nat) : Int)) S2 := by
  unfold mCntT; rw [wE_bind]; congr 1; funext d S1
  cases d with
  | tup us =>
    simp only [isTu, if_true, true_and]
    rw [wE_bind]
    congr 1; funext ds S2
    rcases ds with _ | ⟨y, _ | ⟨z, r⟩⟩
    · simp [wE_stuck]
    · simp only [wE_guard, wE_ok]
      exact propext ⟨fun ⟨c, q⟩ => ⟨y, us, rfl, rfl, c, q⟩, fun ⟨y', us', e1, e2, c, q⟩ => by cases e1; cases e2; exact ⟨c, q⟩⟩
    · simp [wE_stuck]
  | _ => simp [isTu, wE_stuck]
end DL

namespace LW
open PySem PySem.Spec PyProof.Rows L2 DL
def topS (i : Nat) : Stmt := PySem.Challenge.pw_rulerows_k60_whole_shortest_rows.main.body.getD i (.Pass ⟨0, 0, 0, 0⟩)
noncomputable def b_is_between : MS := (mRet (mAndV (mIsi .int (mVar 0)) (mAndV (mNotV (mIsi .bool (mVar 0))) (mChain opLe opLe (mVar 1) (mVar 0) (mVar 2)))))
noncomputable def m_is_between : MF := mkF 3 3 false b_is_between
noncomputable def b_is_widths : MS := (mSeq (mIf (mOr (mNot (mTr (mIsi .tuple (mVar 0)))) (mNot (mT (mChain opLe opLe (mC (.int 1)) (mCall fLen (mCons (mVar 0) mNil)) (mC (.int 3)))))) (mRet (mC (.bl false))) mNx) (mRet (mCall fAll (mCons (mFz (mLc (mItV (mVar 0)) (.name 1) mYes (mCall m_is_between (mCons (mVar 1) (mCons (mC (.int 1)) (mCons (mC (.int 8)) mNil)))) [1])) mNil))))
noncomputable def m_is_widths : MF := mkF 1 2 false b_is_widths
noncomputable def b_is_range : MS := (mSeq (mIf (mOr (mNot (mTr (mIsi .tuple (mVar 0)))) (mOr (mT (mOp2 (opEq true) (mCall fLen (mCons (mVar 0) mNil)) (mC (.int 2)))) (mNot (mTr (mCall m_is_between (mCons (mOp2 opIx (mVar 0) (mC (.int 0))) (mCons (mC (.int 0)) (mCons (mOp2 opSub (mVar 1) (mC (.int 1))) mNil)))))))) (mRet (mC (.bl false))) mNx) (mRet (mCall m_is_between (mCons (mOp2 opIx (mVar 0) (mC (.int 1))) (mCons (mOp2 opIx (mVar 0) (mC (.int 0))) (mCons (mOp2 opSub (mVar 1) (mC (.int 1))) mNil))))))
noncomputable def m_is_range : MF := mkF 2 2 false b_is_range
noncomputable def b_is_rule : MS := (mSeq (mIf (mOr (mNot (mTr (mIsi .tuple (mVar 0)))) (mOr (mT (mOp2 (opEq true) (mCall fLen (mCons (mVar 0) mNil)) (mC (.int 2)))) (mNot (mTr (mCall m_is_between (mCons (mOp2 opIx (mVar 0) (mC (.int 0))) (mCons (mC (.int 0)) (mCons (mC (.int 5)) mNil)))))))) (mRet (mC (.bl false))) mNx) (mSeq (mIf (mOr (mNot (mTr (mIsi .tuple (mOp2 opIx (mVar 0) (mC (.int 1)))))) (mT (mOp2 (opEq true) (mCall fLen (mCons (mOp2 opIx (mVar 0) (mC (.int 1))) mNil)) (mCall fLen (mCons (mVar 1) mNil))))) (mRet (mC (.bl false))) mNx) (mRet (mCall fAll (mCons (mFz (mLc (mItE (mVar 1)) (.tup [(.name 2), (.name 3)]) mYes (mCall m_is_range (mCons (mOp2 opIx (mOp2 opIx (mVar 0) (mC (.int 1))) (mVar 2)) (mCons (mVar 3) mNil))) [2, 3])) mNil)))))
noncomputable def m_is_rule : MF := mkF 2 4 false b_is_rule
noncomputable def b_is_list : MS := (mSeq (mIf (mOr (mNot (mTr (mIsi .tuple (mVar 0)))) (mOr (mT (mOp2 (opEq true) (mCall fLen (mCons (mVar 0) mNil)) (mC (.int 3)))) (mNot (mTr (mCall m_is_widths (mCons (mOp2 opIx (mVar 0) (mC (.int 0))) mNil)))))) (mRet (mC (.bl false))) mNx) (mSeq (mIf (mOr (mNot (mTr (mIsi .tuple (mOp2 opIx (mVar 0) (mC (.int 1)))))) (mOr (mT (mOp2 opGt (mCall fLen (mCons (mOp2 opIx (mVar 0) (mC (.int 1))) mNil)) (mC (.int 7)))) (mNot (mTr (mCall m_is_between (mCons (mOp2 opIx (mVar 0) (mC (.int 2))) (mCons (mC (.int 0)) (mCons (mC (.int 5)) mNil)))))))) (mRet (mC (.bl false))) mNx) (mRet (mCall fAll (mCons (mFz (mLc (mItV (mOp2 opIx (mVar 0) (mC (.int 1)))) (.name 1) mYes (mCall m_is_rule (mCons (mVar 1) (mCons (mOp2 opIx (mVar 0) (mC (.int 0))) mNil))) [1])) mNil)))))
noncomputable def m_is_list : MF := mkF 1 2 false b_is_list
noncomputable def b_cases_of : MS := (mSeq (mSet 1 (mFz (mDisp (mCons (mTup mNil) mNil)))) (mSeq (mFor (mItV (mVar 0)) (.name 2) (mSet 1 (mFz (mLc2 (mItV (mVar 1)) (.name 3) mYes (mItR (mR1 (mVar 2))) (.name 4) mYes (mOp2 opAdd (mVar 3) (mTup (mCons (mVar 4) mNil))) [3, 4] [4])))) (mRet (mVar 1))))
noncomputable def m_cases_of : MF := mkF 1 5 false b_cases_of
noncomputable def b_matches_in : MS := (mSeq (mSet 3 (mOp2 opIx (mOp2 opIx (mOp2 opIx (mVar 0) (mC (.int 1))) (mVar 1)) (mC (.int 1)))) (mRet (mCall fAll (mCons (mFz (mLc (mItE (mVar 2)) (.tup [(.name 4), (.name 5)]) mYes (mChain opLe opLe (mOp2 opIx (mOp2 opIx (mVar 3) (mVar 4)) (mC (.int 0))) (mVar 5) (mOp2 opIx (mOp2 opIx (mVar 3) (mVar 4)) (mC (.int 1)))) [4, 5])) mNil))))
noncomputable def m_matches_in : MF := mkF 3 6 false b_matches_in
noncomputable def b_check_list : MS := (mIf (mNot (mTr (mCall m_is_list (mCons (mVar 0) mNil)))) (mRz "BadValue" ["name"] (mCons (mC (.str "listed")) mNil)) mNx)
noncomputable def m_check_list : MF := mkF 1 1 false b_check_list
noncomputable def b_ascending : MS := (mRet (mRgT (mR1 (mCall fLen (mCons (mOp2 opIx (mVar 0) (mC (.int 1))) mNil)))))
noncomputable def m_ascending : MF := mkF 1 1 false b_ascending
noncomputable def b_kinds : MS := (mSeq (mSet 1 mNewD) (mSeq (mFor (mItV (mCall m_cases_of (mCons (mOp2 opIx (mVar 0) (mC (.int 0))) mNil))) (.name 2) (mSeq (mSet 3 (mCall fTuple (mCons (mFz (mLc (mItV (mCall m_ascending (mCons (mVar 0) mNil))) (.name 4) (mTr (mCall m_matches_in (mCons (mVar 0) (mCons (mVar 4) (mCons (mVar 2) mNil))))) (mVar 4) [4])) mNil))) (mSubN (mVar 1) (mVar 3) (mIte (mTr (mVar 3)) (mOp2 opIx (mOp2 opIx (mOp2 opIx (mVar 0) (mC (.int 1))) (mOp2 opIx (mVar 3) (mC (.int 0)))) (mC (.int 0))) (mOp2 opIx (mVar 0) (mC (.int 2))))))) (mRet (mFz (mLIt (mVar 1))))))
noncomputable def m_kinds : MF := mkF 1 5 false b_kinds
noncomputable def b_is_alike : MS := (mSeq (mFor (mItV (mVar 1)) (.tup [(.name 3), (.name 4)]) (mSeq (mSet 5 (mSl (mFz (mLc (mItV (mVar 2)) (.name 7) (mT (mOp2 (opIn false) (mVar 7) (mVar 3))) (mVar 7) [7])) mNoP (mPart (mC (.int 1))))) (mSeq (mSet 6 (mIte (mTr (mVar 5)) (mOp2 opIx (mOp2 opIx (mOp2 opIx (mVar 0) (mC (.int 1))) (mOp2 opIx (mVar 5) (mC (.int 0)))) (mC (.int 0))) (mOp2 opIx (mVar 0) (mC (.int 2))))) (mIf (mT (mOp2 (opEq true) (mVar 6) (mVar 4))) (mRet (mC (.bl false))) mNx)))) (mRet (mC (.bl true))))
noncomputable def m_is_alike : MF := mkF 3 8 false b_is_alike
noncomputable def b_smallest_set : MS := (mSeq (mDrop (mCall m_check_list (mCons (mVar 0) mNil))) (mSeq (mSet 1 (mCall m_kinds (mCons (mVar 0) mNil))) (mSeq (mFor (mItR (mR1 (mCall fLen (mCons (mOp2 opIx (mVar 0) (mC (.int 1))) mNil)))) (.name 2) (mFor (mItC (mCall m_ascending (mCons (mVar 0) mNil)) (mVar 2)) (.name 3) (mIf (mTr (mCall m_is_alike (mCons (mVar 0) (mCons (mVar 1) (mCons (mVar 3) mNil))))) (mRet (mVar 3)) mNx))) (mRet (mCall m_ascending (mCons (mVar 0) mNil))))))
noncomputable def m_smallest_set : MF := mkF 1 4 false b_smallest_set
noncomputable def b_is_ready : MS := (mSeq (mFor (mItV (mVar 1)) (.tup [(.name 5), (.name 6)]) (mIf (mAnd (mT (mOp2 (opIn false) (mVar 4) (mVar 5))) (mAnd (mNot (mTr (mCall fAny (mCons (mFz (mLc (mItV (mVar 5)) (.name 7) mYes (mOp2 (opIn false) (mVar 7) (mVar 3)) [7])) mNil)))) (mT (mOp2 (opEq true) (mOp2 opIx (mOp2 opIx (mOp2 opIx (mVar 0) (mC (.int 1))) (mVar 4)) (mC (.int 0))) (mVar 6))))) (mRet (mC (.bl false))) mNx)) (mRet (mC (.bl true))))
noncomputable def m_is_ready : MF := mkF 5 8 false b_is_ready
noncomputable def b_least_row : MS := (mSeq (mSet 3 (mTup mNil)) (mSeq (mFor (mItR (mR1 (mCall fLen (mCons (mVar 2) mNil)))) (.name 4) (mSeq (mSet 5 (mFz (mLc (mItV (mVar 2)) (.name 7) (mT (mOp2 (opIn true) (mVar 7) (mVar 3))) (mVar 7) [7]))) (mSeq (mSet 6 (mFz (mLc (mItV (mVar 5)) (.name 7) (mTr (mCall m_is_ready (mCons (mVar 0) (mCons (mVar 1) (mCons (mVar 2) (mCons (mVar 3) (mCons (mVar 7) mNil))))))) (mVar 7) [7]))) (mSeq (mIf (mNot (mTr (mVar 6))) (mRet (mC .non)) mNx) (mSet 3 (mOp2 opAdd (mVar 3) (mTup (mCons (mOp2 opIx (mVar 6) (mC (.int 0))) mNil)))))))) (mRet (mIte (mTr (mCall m_is_alike (mCons (mVar 0) (mCons (mVar 1) (mCons (mVar 3) mNil))))) (mVar 3) (mC .non)))))
noncomputable def m_least_row : MF := mkF 3 8 false b_least_row
noncomputable def b_shortest_row : MS := (mSeq (mDrop (mCall m_check_list (mCons (mVar 0) mNil))) (mSeq (mSet 1 (mCall m_kinds (mCons (mVar 0) mNil))) (mSeq (mFor (mItR (mR1 (mOp2 opAdd (mCall fLen (mCons (mOp2 opIx (mVar 0) (mC (.int 1))) mNil)) (mC (.int 1))))) (.name 2) (mSeq (mSet 3 (mFz (mLc (mItC (mCall m_ascending (mCons (mVar 0) mNil)) (mVar 2)) (.name 5) mYes (mCall m_least_row (mCons (mVar 0) (mCons (mVar 1) (mCons (mVar 5) mNil)))) [5]))) (mSeq (mSet 4 (mFz (mLc (mItV (mVar 3)) (.name 6) (mT (mOp2 (opIs true) (mVar 6) (mC .non))) (mVar 6) [6]))) (mIf (mTr (mVar 4)) (mRet (mCall fMinD (mCons (mVar 4) mNil))) mNx)))) (mRet (mCall m_ascending (mCons (mVar 0) mNil))))))
noncomputable def m_shortest_row : MF := mkF 1 7 false b_shortest_row
noncomputable def b__law_stream : MS := (mRet (mAl (mDisp (mCons (mFz (mCallL gList (mCons (mVar 0) mNil))) (mCons (mC (.int 0)) (mCons (mC (.int 0)) mNil))))))
noncomputable def m__law_stream : MF := mkF 1 1 true b__law_stream
noncomputable def b__law_next : MS := (mSeq (mIf (mT (mOp2 (opEq false) (mOp2 opIx (mVar 0) (mC (.int 1))) (mC (.int 0)))) (mSeq (mSet 2 (mOp2 opIx (mVar 0) (mC (.int 2)))) (mSeq (mSet 3 (mOp2 opAdd (mC (.int 7)) (mVar 2))) (mSeq (mIf (mT (mOp2 opLt (mVar 2) (mCall fLen (mCons (mOp2 opIx (mVar 0) (mC (.int 0))) mNil)))) (mSet 3 (mCall fAbs (mCons (mOp2 opIx (mOp2 opIx (mVar 0) (mC (.int 0))) (mVar 2)) mNil))) mNx) (mSeq (mIf (mT (mOp2 opLt (mVar 3) (mOp2 opPow (mC (.int 10)) (mC (.int 18))))) (mSeq (mSet 3 (mOp2 opMod (mCall fInt (mCons (mOp2 opAdd (mOp2 opAdd (mOp2 opMul (mVar 3) (mC (.int 48271))) (mOp2 opMul (mVar 2) (mC (.int 69621)))) (mC (.int 11))) mNil)) (mC (.int 2147483647)))) (mSet 3 (mOp2 opAdd (mOp2 opMul (mOp2 opMod (mCall fInt (mCons (mOp2 opAdd (mOp2 opMul (mVar 3) (mC (.int 16807))) (mC (.int 13))) mNil)) (mC (.int 2147483647))) (mC (.int 65537))) (mVar 3)))) mNx) (mSeq (mSub (mVar 0) (mC (.int 1)) (mVar 3)) (mSub (mVar 0) (mC (.int 2)) (mOp2 opAdd (mVar 2) (mC (.int 1))))))))) mNx) (mSeq (mSet 4 (mOp2 opMod (mCall fInt (mCons (mOp2 opIx (mVar 0) (mC (.int 1))) mNil)) (mVar 1))) (mSeq (mSub (mVar 0) (mC (.int 1)) (mOp2 opDiv (mOp2 opIx (mVar 0) (mC (.int 1))) (mVar 1))) (mRet (mVar 4)))))
noncomputable def m__law_next : MF := mkF 2 5 false b__law_next
noncomputable def b__law_is_integer : MS := (mRet (mAndV (mIsi .int (mVar 0)) (mNotV (mIsi .bool (mVar 0)))))
noncomputable def m__law_is_integer : MF := mkF 1 1 false b__law_is_integer
noncomputable def b__law_equal (self : MF) : MS := (mSeq (mIf (mT (mOp2 (opIs false) (mVar 1) (mC .non))) (mRet (mOp2 (opIs false) (mVar 0) (mC .non))) mNx) (mSeq (mIf (mTr (mIsi .bool (mVar 1))) (mRet (mAndV (mIsi .bool (mVar 0)) (mOp2 (opEq false) (mVar 0) (mVar 1)))) mNx) (mSeq (mIf (mTr (mIsi .int (mVar 1))) (mRet (mAndV (mCall m__law_is_integer (mCons (mVar 0) mNil)) (mOp2 (opEq false) (mVar 0) (mVar 1)))) mNx) (mSeq (mIf (mTr (mIsi .str (mVar 1))) (mRet (mAndV (mIsi .str (mVar 0)) (mOp2 (opEq false) (mVar 0) (mVar 1)))) mNx) (mSeq (mIf (mAnd (mTr (mIsi .tuple (mVar 1))) (mNot (mTr (mIsi .tuple (mVar 0))))) (mRet (mC (.bl false))) mNx) (mSeq (mIf (mAnd (mTr (mIsi .list (mVar 1))) (mNot (mTr (mIsi .list (mVar 0))))) (mRet (mC (.bl false))) mNx) (mSeq (mIf (mT (mOp2 (opEq true) (mCall fLen (mCons (mVar 0) mNil)) (mCall fLen (mCons (mVar 1) mNil)))) (mRet (mC (.bl false))) mNx) (mRet (mCall fAll (mCons (mFz (mLc (mItR (mR1 (mCall fLen (mCons (mVar 1) mNil)))) (.name 2) mYes (mCall self (mCons (mOp2 opIx (mVar 0) (mVar 2)) (mCons (mOp2 opIx (mVar 1) (mVar 2)) mNil))) [2])) mNil))))))))))
noncomputable def r__law_equal : Nat → MF
  | 0 => fun _ _ => .stuck
  | n + 1 => mkF 2 3 false (b__law_equal (r__law_equal n))
noncomputable abbrev m__law_equal : MF := r__law_equal 16
noncomputable def b__law_range : MS := (mSeq (mSet 2 (mCall m__law_next (mCons (mVar 0) (mCons (mVar 1) mNil)))) (mRet (mTup (mCons (mVar 2) (mCons (mOp2 opAdd (mVar 2) (mCall m__law_next (mCons (mVar 0) (mCons (mOp2 opSub (mVar 1) (mVar 2)) mNil)))) mNil)))))
noncomputable def m__law_range : MF := mkF 2 3 false b__law_range
noncomputable def b__law_rule : MS := (mRet (mTup (mCons (mCall m__law_next (mCons (mVar 0) (mCons (mVar 2) mNil))) (mCons (mCall fTuple (mCons (mFz (mLc (mItV (mVar 1)) (.name 3) mYes (mCall m__law_range (mCons (mVar 0) (mCons (mVar 3) mNil))) [3])) mNil)) mNil))))
noncomputable def m__law_rule : MF := mkF 3 4 false b__law_rule
noncomputable def b__law_list : MS := (mSeq (mSet 4 (mCall fTuple (mCons (mFz (mLc (mItR (mR1 (mOp2 opAdd (mC (.int 1)) (mCall m__law_next (mCons (mVar 0) (mCons (mVar 1) mNil)))))) (.name 7) mYes (mOp2 opAdd (mC (.int 1)) (mCall m__law_next (mCons (mVar 0) (mCons (mVar 2) mNil)))) [7])) mNil))) (mSeq (mSet 5 (mOp2 opAdd (mC (.int 2)) (mCall m__law_next (mCons (mVar 0) (mCons (mC (.int 2)) mNil))))) (mSeq (mSet 6 (mCall fTuple (mCons (mFz (mLc (mItR (mR1 (mCall m__law_next (mCons (mVar 0) (mCons (mOp2 opAdd (mVar 3) (mC (.int 1))) mNil))))) (.name 7) mYes (mCall m__law_rule (mCons (mVar 0) (mCons (mVar 4) (mCons (mVar 5) mNil)))) [7])) mNil))) (mRet (mTup (mCons (mVar 4) (mCons (mVar 6) (mCons (mCall m__law_next (mCons (mVar 0) (mCons (mVar 5) mNil))) mNil))))))))
noncomputable def m__law_list : MF := mkF 4 8 false b__law_list
noncomputable def b__law_cases : MS := (mSeq (mSet 1 (mFz (mDisp (mCons (mTup mNil) mNil)))) (mSeq (mFor (mItV (mVar 0)) (.name 2) (mSeq (mSet 3 (mFz (mDisp mNil))) (mSeq (mFor (mItV (mVar 1)) (.name 4) (mSet 3 (mOp2 opAdd (mVar 3) (mFz (mLc (mItR (mR1 (mVar 2))) (.name 5) mYes (mOp2 opAdd (mVar 4) (mTup (mCons (mVar 5) mNil))) [5]))))) (mSet 1 (mVar 3))))) (mRet (mVar 1))))
noncomputable def m__law_cases : MF := mkF 1 6 false b__law_cases
noncomputable def b__law_matches : MS := (mRet (mCall fAll (mCons (mFz (mLc (mItR (mR1 (mCall fLen (mCons (mVar 1) mNil)))) (.name 2) mYes (mChain opLe opLe (mOp2 opIx (mOp2 opIx (mOp2 opIx (mVar 0) (mC (.int 1))) (mVar 2)) (mC (.int 0))) (mOp2 opIx (mVar 1) (mVar 2)) (mOp2 opIx (mOp2 opIx (mOp2 opIx (mVar 0) (mC (.int 1))) (mVar 2)) (mC (.int 1)))) [2])) mNil)))
noncomputable def m__law_matches : MF := mkF 2 3 false b__law_matches
noncomputable def b__law_decided : MS := (mSeq (mFor (mItV (mVar 1)) (.name 3) (mIf (mTr (mCall m__law_matches (mCons (mOp2 opIx (mOp2 opIx (mVar 0) (mC (.int 1))) (mVar 3)) (mCons (mVar 2) mNil)))) (mRet (mTup (mCons (mOp2 opIx (mOp2 opIx (mOp2 opIx (mVar 0) (mC (.int 1))) (mVar 3)) (mC (.int 0))) (mCons (mVar 3) mNil)))) mNx)) (mRet (mTup (mCons (mOp2 opIx (mVar 0) (mC (.int 2))) (mCons (mC .non) mNil)))))
noncomputable def m__law_decided : MF := mkF 3 4 false b__law_decided
noncomputable def b__law_ascending : MS := (mRet (mRgT (mR1 (mCall fLen (mCons (mOp2 opIx (mVar 0) (mC (.int 1))) mNil)))))
noncomputable def m__law_ascending : MF := mkF 1 1 false b__law_ascending
noncomputable def b__law_decision : MS := (mRet (mOp2 opIx (mCall m__law_decided (mCons (mVar 0) (mCons (mCall m__law_ascending (mCons (mVar 0) mNil)) (mCons (mVar 1) mNil)))) (mC (.int 0))))
noncomputable def m__law_decision : MF := mkF 2 2 false b__law_decision
noncomputable def b__law_matching : MS := (mRet (mCall fTuple (mCons (mFz (mLc (mItR (mR1 (mCall fLen (mCons (mOp2 opIx (mVar 0) (mC (.int 1))) mNil)))) (.name 2) (mTr (mCall m__law_matches (mCons (mOp2 opIx (mOp2 opIx (mVar 0) (mC (.int 1))) (mVar 2)) (mCons (mVar 1) mNil)))) (mVar 2) [2])) mNil)))
noncomputable def m__law_matching : MF := mkF 2 3 false b__law_matching
noncomputable def b__law_alike : MS := (mRet (mCall fAll (mCons (mFz (mLc (mItV (mCall m__law_cases (mCons (mOp2 opIx (mVar 0) (mC (.int 0))) mNil))) (.name 2) mYes (mOp2 (opEq false) (mOp2 opIx (mCall m__law_decided (mCons (mVar 0) (mCons (mVar 1) (mCons (mVar 2) mNil)))) (mC (.int 0))) (mCall m__law_decision (mCons (mVar 0) (mCons (mVar 2) mNil)))) [2])) mNil)))
noncomputable def m__law_alike : MF := mkF 2 3 false b__law_alike
noncomputable def b__law_short_rows : MS := (mSeq (mSet 1 (mFz (mDisp (mCons (mTup mNil) mNil)))) (mSeq (mSet 2 (mFz (mDisp (mCons (mTup mNil) mNil)))) (mSeq (mFor (mItR (mR1 (mVar 0))) (.name 3) (mSeq (mSet 4 (mFz (mDisp mNil))) (mSeq (mFor (mItV (mVar 1)) (.name 5) (mSet 4 (mOp2 opAdd (mVar 4) (mFz (mLc (mItR (mR1 (mVar 0))) (.name 6) (mT (mOp2 (opIn true) (mVar 6) (mVar 5))) (mOp2 opAdd (mVar 5) (mTup (mCons (mVar 6) mNil))) [6]))))) (mSeq (mSet 1 (mVar 4)) (mSet 2 (mOp2 opAdd (mVar 2) (mVar 1))))))) (mRet (mVar 2)))))
noncomputable def m__law_short_rows : MF := mkF 1 7 false b__law_short_rows
noncomputable def b_law : MS := (mSeq (mSet 1 (mCall m__law_stream (mCons (mVar 0) mNil))) (mSeq (mSet 2 (mCall m__law_list (mCons (mVar 1) (mCons (mC (.int 2)) (mCons (mC (.int 4)) (mCons (mC (.int 4)) mNil)))))) (mSeq (mIf (mT (mOp2 (opEq false) (mCall m__law_next (mCons (mVar 1) (mCons (mC (.int 8)) mNil))) (mC (.int 0)))) (mSeq (mAsg (.tup [(.name 3), (.name 4), (.name 5)]) (mOp2 opIx (mFz (mDisp (mCons (mTup (mCons (mC (.int 0)) (mCons (mC (.int 1)) (mCons (mC (.int 2)) mNil)))) (mCons (mTup (mCons (mC (.int 0)) (mCons (mC (.int 2)) (mCons (mC (.int 1)) mNil)))) (mCons (mTup (mCons (mC (.int 1)) (mCons (mC (.int 0)) (mCons (mC (.int 2)) mNil)))) (mCons (mTup (mCons (mC (.int 1)) (mCons (mC (.int 2)) (mCons (mC (.int 0)) mNil)))) (mCons (mTup (mCons (mC (.int 2)) (mCons (mC (.int 0)) (mCons (mC (.int 1)) mNil)))) (mCons (mTup (mCons (mC (.int 2)) (mCons (mC (.int 1)) (mCons (mC (.int 0)) mNil)))) mNil)))))))) (mCall m__law_next (mCons (mVar 1) (mCons (mC (.int 6)) mNil))))) (mSet 2 (mTup (mCons (mTup (mCons (mC (.int 4)) mNil)) (mCons (mTup (mCons (mTup (mCons (mVar 3) (mCons (mTup (mCons (mTup (mCons (mC (.int 1)) (mCons (mC (.int 1)) mNil))) mNil)) mNil))) (mCons (mTup (mCons (mVar 4) (mCons (mTup (mCons (mTup (mCons (mC (.int 0)) (mCons (mC (.int 1)) mNil))) mNil)) mNil))) (mCons (mTup (mCons (mVar 3) (mCons (mTup (mCons (mTup (mCons (mC (.int 1)) (mCons (mC (.int 3)) mNil))) mNil)) mNil))) mNil)))) (mCons (mVar 5) mNil)))))) mNx) (mSeq (mSet 6 (mCall m__law_cases (mCons (mOp2 opIx (mVar 2) (mC (.int 0))) mNil))) (mSeq (mSet 7 mNewD) (mSeq (mFor (mItV (mVar 6)) (.name 8) (mSubN (mVar 7) (mCall m__law_matching (mCons (mVar 2) (mCons (mVar 8) mNil))) (mCall m__law_decision (mCons (mVar 2) (mCons (mVar 8) mNil))))) (mSeq (mSet 9 (mAl (mDisp mNil))) (mSeq (mFor (mItV (mCall m__law_short_rows (mCons (mCall fLen (mCons (mOp2 opIx (mVar 2) (mC (.int 1))) mNil)) mNil))) (.name 10) (mSeq (mSet 11 (mC (.bl true))) (mSeq (mLock 7 (mFor (mItN (mVar 7)) (.name 12) (mSeq (mSet 13 (mOp2 opAdd (mFz (mLc (mItV (mVar 10)) (.name 14) (mT (mOp2 (opIn false) (mVar 14) (mVar 12))) (mOp2 opIx (mOp2 opIx (mOp2 opIx (mVar 2) (mC (.int 1))) (mVar 14)) (mC (.int 0))) [14])) (mFz (mDisp (mCons (mOp2 opIx (mVar 2) (mC (.int 2))) mNil))))) (mSet 11 (mAndV (mVar 11) (mOp2 (opEq false) (mOp2 opIx (mVar 13) (mC (.int 0))) (mOp2 opIxN (mVar 7) (mVar 12)))))))) (mIf (mTr (mVar 11)) (mDrop (mMet gAppend (mVar 9) (mCons (mVar 10) mNil))) mNx)))) (mSeq (mSet 11 (mCall m_shortest_row (mCons (mVar 2) mNil))) (mSeq (mIf (mOr (mNot (mTr (mCall m__law_equal (mCons (mVar 11) (mCons (mOp2 opIx (mVar 9) (mC (.int 0))) mNil))))) (mT (mOp2 opGt (mCall fLen (mCons (mVar 11) mNil)) (mCall fLen (mCons (mCall m_smallest_set (mCons (mVar 2) mNil)) mNil))))) (mRet (mC (.bl false))) mNx) (mRet (mNotV (mCall fAny (mCons (mFz (mLc (mItR (mR1 (mCall fLen (mCons (mVar 11) mNil)))) (.name 15) mYes (mCall m__law_alike (mCons (mVar 2) (mCons (mOp2 opAdd (mSl (mVar 11) mNoP (mPart (mVar 15))) (mSl (mVar 11) (mPart (mOp2 opAdd (mVar 15) (mC (.int 1)))) mNoP)) mNil))) [15])) mNil))))))))))))))
noncomputable def m_law : MF := mkF 1 16 false b_law
theorem go_is_between {d0 d1 d2 : D} {S : Sto} {X : Ex → Sto → Prop} {Q : D → Sto → Prop} (h : wS (b_is_between [some d0, some d1, some d2] S) (esF false S.length X Q)) : wE (m_is_between [d0, d1, d2] S) X Q := wE_mkF [some d0, some d1, some d2] rfl rfl h
theorem go_is_widths {d0 : D} {S : Sto} {X : Ex → Sto → Prop} {Q : D → Sto → Prop} (h : wS (b_is_widths [some d0, none] S) (esF false S.length X Q)) : wE (m_is_widths [d0] S) X Q := wE_mkF [some d0, none] rfl rfl h
theorem go_is_range {d0 d1 : D} {S : Sto} {X : Ex → Sto → Prop} {Q : D → Sto → Prop} (h : wS (b_is_range [some d0, some d1] S) (esF false S.length X Q)) : wE (m_is_range [d0, d1] S) X Q := wE_mkF [some d0, some d1] rfl rfl h
theorem go_is_rule {d0 d1 : D} {S : Sto} {X : Ex → Sto → Prop} {Q : D → Sto → Prop} (h : wS (b_is_rule [some d0, some d1, none, none] S) (esF false S.length X Q)) : wE (m_is_rule [d0, d1] S) X Q := wE_mkF [some d0, some d1, none, none] rfl rfl h
theorem go_is_list {d0 : D} {S : Sto} {X : Ex → Sto → Prop} {Q : D → Sto → Prop} (h : wS (b_is_list [some d0, none] S) (esF false S.length X Q)) : wE (m_is_list [d0] S) X Q := wE_mkF [some d0, none] rfl rfl h
theorem go_cases_of {d0 : D} {S : Sto} {X : Ex → Sto → Prop} {Q : D → Sto → Prop} (h : wS (b_cases_of [some d0, none, none, none, none] S) (esF false S.length X Q)) : wE (m_cases_of [d0] S) X Q := wE_mkF [some d0, none, none, none, none] rfl rfl h
theorem go_matches_in {d0 d1 d2 : D} {S : Sto} {X : Ex → Sto → Prop} {Q : D → Sto → Prop} (h : wS (b_matches_in [some d0, some d1, some d2, none, none, none] S) (esF false S.length X Q)) : wE (m_matches_in [d0, d1, d2] S) X Q := wE_mkF [some d0, some d1, some d2, none, none, none] rfl rfl h
theorem go_check_list {d0 : D} {S : Sto} {X : Ex → Sto → Prop} {Q : D → Sto → Prop} (h : wS (b_check_list [some d0] S) (esF false S.length X Q)) : wE (m_check_list [d0] S) X Q := wE_mkF [some d0] rfl rfl h
theorem go_ascending {d0 : D} {S : Sto} {X : Ex → Sto → Prop} {Q : D → Sto → Prop} (h : wS (b_ascending [some d0] S) (esF false S.length X Q)) : wE (m_ascending [d0] S) X Q := wE_mkF [some d0] rfl rfl h
theorem go_kinds {d0 : D} {S : Sto} {X : Ex → Sto → Prop} {Q : D → Sto → Prop} (h : wS (b_kinds [some d0, none, none, none, none] S) (esF false S.length X Q)) : wE (m_kinds [d0] S) X Q := wE_mkF [some d0, none, none, none, none] rfl rfl h
theorem go_is_alike {d0 d1 d2 : D} {S : Sto} {X : Ex → Sto → Prop} {Q : D → Sto → Prop} (h : wS (b_is_alike [some d0, some d1, some d2, none, none, none, none, none] S) (esF false S.length X Q)) : wE (m_is_alike [d0, d1, d2] S) X Q := wE_mkF [some d0, some d1, some d2, none, none, none, none, none] rfl rfl h
theorem go_smallest_set {d0 : D} {S : Sto} {X : Ex → Sto → Prop} {Q : D → Sto → Prop} (h : wS (b_smallest_set [some d0, none, none, none] S) (esF false S.length X Q)) : wE (m_smallest_set [d0] S) X Q := wE_mkF [some d0, none, none, none] rfl rfl h
theorem go_is_ready {d0 d1 d2 d3 d4 : D} {S : Sto} {X : Ex → Sto → Prop} {Q : D → Sto → Prop} (h : wS (b_is_ready [some d0, some d1, some d2, some d3, some d4, none, none, none] S) (esF false S.length X Q)) : wE (m_is_ready [d0, d1, d2, d3, d4] S) X Q := wE_mkF [some d0, some d1, some d2, some d3, some d4, none, none, none] rfl rfl h
theorem go_least_row {d0 d1 d2 : D} {S : Sto} {X : Ex → Sto → Prop} {Q : D → Sto → Prop} (h : wS (b_least_row [some d0, some d1, some d2, none, none, none, none, none] S) (esF false S.length X Q)) : wE (m_least_row [d0, d1, d2] S) X Q := wE_mkF [some d0, some d1, some d2, none, none, none, none, none] rfl rfl h
theorem go_shortest_row {d0 : D} {S : Sto} {X : Ex → Sto → Prop} {Q : D → Sto → Prop} (h : wS (b_shortest_row [some d0, none, none, none, none, none, none] S) (esF false S.length X Q)) : wE (m_shortest_row [d0] S) X Q := wE_mkF [some d0, none, none, none, none, none, none] rfl rfl h
theorem go__law_stream {d0 : D} {S : Sto} {X : Ex → Sto → Prop} {Q : D → Sto → Prop} (h : wS (b__law_stream [some d0] S) (esF true S.length X Q)) : wE (m__law_stream [d0] S) X Q := wE_mkF [some d0] rfl rfl h
theorem go__law_next {d0 d1 : D} {S : Sto} {X : Ex → Sto → Prop} {Q : D → Sto → Prop} (h : wS (b__law_next [some d0, some d1, none, none, none] S) (esF false S.length X Q)) : wE (m__law_next [d0, d1] S) X Q := wE_mkF [some d0, some d1, none, none, none] rfl rfl h
theorem go__law_is_integer {d0 : D} {S : Sto} {X : Ex → Sto → Prop} {Q : D → Sto → Prop} (h : wS (b__law_is_integer [some d0] S) (esF false S.length X Q)) : wE (m__law_is_integer [d0] S) X Q := wE_mkF [some d0] rfl rfl h
theorem go__law_equal {n : Nat} {d0 d1 : D} {S : Sto} {X : Ex → Sto → Prop} {Q : D → Sto → Prop} (h : wS (b__law_equal (r__law_equal n) [some d0, some d1, none] S) (esF false S.length X Q)) : wE (r__law_equal (n + 1) [d0, d1] S) X Q := wE_mkF [some d0, some d1, none] rfl rfl h
theorem go__law_range {d0 d1 : D} {S : Sto} {X : Ex → Sto → Prop} {Q : D → Sto → Prop} (h : wS (b__law_range [some d0, some d1, none] S) (esF false S.length X Q)) : wE (m__law_range [d0, d1] S) X Q := wE_mkF [some d0, some d1, none] rfl rfl h
theorem go__law_rule {d0 d1 d2 : D} {S : Sto} {X : Ex → Sto → Prop} {Q : D → Sto → Prop} (h : wS (b__law_rule [some d0, some d1, some d2, none] S) (esF false S.length X Q)) : wE (m__law_rule [d0, d1, d2] S) X Q := wE_mkF [some d0, some d1, some d2, none] rfl rfl h
theorem go__law_list {d0 d1 d2 d3 : D} {S : Sto} {X : Ex → Sto → Prop} {Q : D → Sto → Prop} (h : wS (b__law_list [some d0, some d1, some d2, some d3, none, none, none, none] S) (esF false S.length X Q)) : wE (m__law_list [d0, d1, d2, d3] S) X Q := wE_mkF [some d0, some d1, some d2, some d3, none, none, none, none] rfl rfl h
theorem go__law_cases {d0 : D} {S : Sto} {X : Ex → Sto → Prop} {Q : D → Sto → Prop} (h : wS (b__law_cases [some d0, none, none, none, none, none] S) (esF false S.length X Q)) : wE (m__law_cases [d0] S) X Q := wE_mkF [some d0, none, none, none, none, none] rfl rfl h
theorem go__law_matches {d0 d1 : D} {S : Sto} {X : Ex → Sto → Prop} {Q : D → Sto → Prop} (h : wS (b__law_matches [some d0, some d1, none] S) (esF false S.length X Q)) : wE (m__law_matches [d0, d1] S) X Q := wE_mkF [some d0, some d1, none] rfl rfl h
theorem go__law_decided {d0 d1 d2 : D} {S : Sto} {X : Ex → Sto → Prop} {Q : D → Sto → Prop} (h : wS (b__law_decided [some d0, some d1, some d2, none] S) (esF false S.length X Q)) : wE (m__law_decided [d0, d1, d2] S) X Q := wE_mkF [some d0, some d1, some d2, none] rfl rfl h
theorem go__law_ascending {d0 : D} {S : Sto} {X : Ex → Sto → Prop} {Q : D → Sto → Prop} (h : wS (b__law_ascending [some d0] S) (esF false S.length X Q)) : wE (m__law_ascending [d0] S) X Q := wE_mkF [some d0] rfl rfl h
theorem go__law_decision {d0 d1 : D} {S : Sto} {X : Ex → Sto → Prop} {Q : D → Sto → Prop} (h : wS (b__law_decision [some d0, some d1] S) (esF false S.length X Q)) : wE (m__law_decision [d0, d1] S) X Q := wE_mkF [some d0, some d1] rfl rfl h
theorem go__law_matching {d0 d1 : D} {S : Sto} {X : Ex → Sto → Prop} {Q : D → Sto → Prop} (h : wS (b__law_matching [some d0, some d1, none] S) (esF false S.length X Q)) : wE (m__law_matching [d0, d1] S) X Q := wE_mkF [some d0, some d1, none] rfl rfl h
theorem go__law_alike {d0 d1 : D} {S : Sto} {X : Ex → Sto → Prop} {Q : D → Sto → Prop} (h : wS (b__law_alike [some d0, some d1, none] S) (esF false S.length X Q)) : wE (m__law_alike [d0, d1] S) X Q := wE_mkF [some d0, some d1, none] rfl rfl h
theorem go__law_short_rows {d0 : D} {S : Sto} {X : Ex → Sto → Prop} {Q : D → Sto → Prop} (h : wS (b__law_short_rows [some d0, none, none, none, none, none, none] S) (esF false S.length X Q)) : wE (m__law_short_rows [d0] S) X Q := wE_mkF [some d0, none, none, none, none, none, none] rfl rfl h
theorem go_law {d0 : D} {S : Sto} {X : Ex → Sto → Prop} {Q : D → Sto → Prop} (h : wS (b_law [some d0, none, none, none, none, none, none, none, none, none, none, none, none, none, none, none] S) (esF false S.length X Q)) : wE (m_law [d0] S) X Q := wE_mkF [some d0, none, none, none, none, none, none, none, none, none, none, none, none, none, none, none] rfl rfl h
end LW

namespace LW
open PySem PySem.Spec PyProof.Rows L2 DL
theorem stream_spec {ns : List Int} {X : Ex → Sto → Prop} {Q : D → Sto → Prop} (h : ∀ st, Strm st → Q (.ref 0) [st]) : wE (m__law_stream [.scr ns] []) X Q := by
  refine go__law_stream ?_
  unfold b__law_stream
  rw [wS_mRet, w_al, w_disp, w_cons, w_fz, w_callL, w_cons, w_var]
  refine ⟨.scr ns, rfl, ?_⟩
  rw [w_nil, f_listS, w_cons, w_c, w_cons, w_c, w_nil]
  refine ⟨(by decide : 3 ≤ 16777216), ?_⟩
  refine wE_finK (h _ ⟨ns.map .int, 0, 0, rfl, fun d hd => ?_, by decide, by decide⟩)
  obtain ⟨i, _, e⟩ := List.mem_map.mp hd
  exact ⟨i, e.symm⟩
theorem next_spec {st : MO} {rest : Sto} {many : Int} {X : Ex → Sto → Prop} {Q : D → Sto → Prop} (hs : Strm st) (h0 : 0 < many) (h1 : many < 1073741824) (hq : ∀ d st', 0 ≤ d → d < many → Strm st' → Q (.int d) (st' :: rest)) : wE (m__law_next [.ref 0, .int many] (st :: rest)) X Q := by
  obtain ⟨scr, cell, k, rfl, hi, hc, hk⟩ := hs
  refine go__law_next ?_
  unfold b__law_next
  have a1 : ∀ x y z : D, atI [x, y, z] 1 = some y := fun _ _ _ => rfl
  have a2 : ∀ x y z : D, atI [x, y, z] 2 = some z := fun _ _ _ => rfl
  have a0 : ∀ x y z : D, atI [x, y, z] 0 = some x := fun _ _ _ => rfl
  have i1 : ixN 3 1 = some 1 := rfl
  have i2 : ixN 3 2 = some 2 := rfl
  have md : ∀ m : Int, cMod m 2147483647 = true := fun _ => rfl
  have hm : cMod 0 many = true := by unfold cMod; simp; omega
  -- the tail
  have tl : ∀ (cell' k' : Int) (r2 r3 : Option D), 0 ≤ cell' → 0 ≤ k' → wS ((mSeq (mSet 4 (mOp2 opMod (mCall fInt (mCons (mOp2 opIx (mVar 0) (mC (.int 1))) mNil)) (mVar 1))) (mSeq (mSub (mVar 0) (mC (.int 1)) (mOp2 opDiv (mOp2 opIx (mVar 0) (mC (.int 1))) (mVar 1))) (mRet (mVar 4)))) [some (.ref 0), some (.int many), r2, r3, none] (.lst [.lst scr, .int cell', .int k'] :: rest)) (esF false ((MO.lst [.lst scr, .int cell, .int k] :: rest).length) X Q) := by
    intro cell' k' r2 r3 h2 h3
    simp only [wS_mSeq, wS_mSet, wS_mRet, wS_mRetN, wS_mDrop, wS_mIf, wS_mSub, wS_mNx, wS_mBrk, wS_mCnt, wS_mAsg, wE_ok, wE_exc, w_var, w_c, w_op, w_T, w_chain, w_tr, w_not, w_and, w_or, w_ite, w_andV, w_orV, w_notV, w_neg, w_nil, w_cons, w_tup, w_call, w_fz, w_al, w_disp, w_callL, w_R1, w_R2, w_rgL, w_rgT, w_itR, w_isi, w_met, w_noP, w_part, w_sl, w_itV, w_itE, w_itZ, w_repL, wE_mLc, wS_mFor, o_addI, o_addT, o_addL, o_sub, o_I, o_mulI, o_mulT, o_mulN, o_B, o_C, o_is, o_eqI, o_ixT, o_ixL, o_ixR, o_slT, o_slL, f_lenT, f_lenL, f_abs, f_int, f_tupL, f_tupT, f_listT, f_listL, f_listS, f_sum, f_sorted, f_append, f_extendL, w_trN, w_getN, w_newD, wS_mSubN, w_disp1, w_itN, w_itT, w_dc, wS_mAsgL, w_sortIt, w_idx, wS_mRz, wS_mTry1, w_fld, w_meth, w_make, wS_mSetF, w_Xf, w_IsX, wS_mIfR, wS_exc, f_rng, w_itG, w_itDn, w_itC, w_lIt, w_lVs, w_sortSet, w_cntT, List.getElem?_cons_zero, List.getElem?_cons_succ, List.set_cons_zero, List.set_cons_succ, Option.some.injEq, exists_eq_left', exists_eq_left, D.int.injEq, D.bl.injEq, D.ref.injEq, MO.lst.injEq, ↓reduceIte, Bool.false_eq_true, Bool.not_true, Bool.not_false, reduceCtorEq, true_and, and_true, List.length_cons, List.length_nil, List.cons_append, List.nil_append, List.map_cons, List.map_nil, Nat.reduceAdd, Nat.zero_add, a1]
    simp only [i1, wS_mSeq, wS_mSet, wS_mRet, wS_mRetN, wS_mDrop, wS_mIf, wS_mSub, wS_mNx, wS_mBrk, wS_mCnt, wS_mAsg, wE_ok, wE_exc, w_var, w_c, w_op, w_T, w_chain, w_tr, w_not, w_and, w_or, w_ite, w_andV, w_orV, w_notV, w_neg, w_nil, w_cons, w_tup, w_call, w_fz, w_al, w_disp, w_callL, w_R1, w_R2, w_rgL, w_rgT, w_itR, w_isi, w_met, w_noP, w_part, w_sl, w_itV, w_itE, w_itZ, w_repL, wE_mLc, wS_mFor, o_addI, o_addT, o_addL, o_sub, o_I, o_mulI, o_mulT, o_mulN, o_B, o_C, o_is, o_eqI, o_ixT, o_ixL, o_ixR, o_slT, o_slL, f_lenT, f_lenL, f_abs, f_int, f_tupL, f_tupT, f_listT, f_listL, f_listS, f_sum, f_sorted, f_append, f_extendL, w_trN, w_getN, w_newD, wS_mSubN, w_disp1, w_itN, w_itT, w_dc, wS_mAsgL, w_sortIt, w_idx, wS_mRz, wS_mTry1, w_fld, w_meth, w_make, wS_mSetF, w_Xf, w_IsX, wS_mIfR, wS_exc, f_rng, w_itG, w_itDn, w_itC, w_lIt, w_lVs, w_sortSet, w_cntT, List.getElem?_cons_zero, List.getElem?_cons_succ, List.set_cons_zero, List.set_cons_succ, Option.some.injEq, exists_eq_left', exists_eq_left, D.int.injEq, D.bl.injEq, D.ref.injEq, MO.lst.injEq, ↓reduceIte, Bool.false_eq_true, Bool.not_true, Bool.not_false, reduceCtorEq, true_and, and_true, List.length_cons, List.length_nil, List.cons_append, List.nil_append, List.map_cons, List.map_nil, Nat.reduceAdd, Nat.zero_add]
    refine ⟨by unfold cMod; simp; omega, by unfold cDiv; simp; omega, ?_⟩
    refine wE_fin (by simp) (hq _ _ (Int.emod_nonneg _ (by omega)) (Int.emod_lt_of_pos _ h0) ⟨scr, _, _, rfl, hi, Int.ediv_nonneg h2 (by omega), h3⟩)
  generalize (mSeq (mSet 4 (mOp2 opMod (mCall fInt (mCons (mOp2 opIx (mVar 0) (mC (.int 1))) mNil)) (mVar 1))) (mSeq (mSub (mVar 0) (mC (.int 1)) (mOp2 opDiv (mOp2 opIx (mVar 0) (mC (.int 1))) (mVar 1))) (mRet (mVar 4)))) = T at tl ⊢
  rw [wS_mSeq, wS_mIf]
  simp only [w_T, w_op, w_var, w_c, List.map_cons, List.map_nil, List.cons_append, List.getElem?_cons_zero, List.getElem?_cons_succ, Option.some.injEq, exists_eq_left', o_ixR, MO.lst.injEq, a1, o_eqI, D.bl.injEq]
  by_cases c0 : cell = 0
  · subst c0
    rw [if_pos (by rfl)]
    simp only [wS_mSeq, wS_mSet, wS_mRet, wS_mRetN, wS_mDrop, wS_mIf, wS_mSub, wS_mNx, wS_mBrk, wS_mCnt, wS_mAsg, wE_ok, wE_exc, w_var, w_c, w_op, w_T, w_chain, w_tr, w_not, w_and, w_or, w_ite, w_andV, w_orV, w_notV, w_neg, w_nil, w_cons, w_tup, w_call, w_fz, w_al, w_disp, w_callL, w_R1, w_R2, w_rgL, w_rgT, w_itR, w_isi, w_met, w_noP, w_part, w_sl, w_itV, w_itE, w_itZ, w_repL, wE_mLc, wS_mFor, o_addI, o_addT, o_addL, o_sub, o_I, o_mulI, o_mulT, o_mulN, o_B, o_C, o_is, o_eqI, o_ixT, o_ixL, o_ixR, o_slT, o_slL, f_lenT, f_lenL, f_abs, f_int, f_tupL, f_tupT, f_listT, f_listL, f_listS, f_sum, f_sorted, f_append, f_extendL, w_trN, w_getN, w_newD, wS_mSubN, w_disp1, w_itN, w_itT, w_dc, wS_mAsgL, w_sortIt, w_idx, wS_mRz, wS_mTry1, w_fld, w_meth, w_make, wS_mSetF, w_Xf, w_IsX, wS_mIfR, wS_exc, f_rng, w_itG, w_itDn, w_itC, w_lIt, w_lVs, w_sortSet, w_cntT, List.getElem?_cons_zero, List.getElem?_cons_succ, List.set_cons_zero, List.set_cons_succ, Option.some.injEq, exists_eq_left', exists_eq_left, D.int.injEq, D.bl.injEq, D.ref.injEq, MO.lst.injEq, ↓reduceIte, Bool.false_eq_true, Bool.not_true, Bool.not_false, reduceCtorEq, true_and, and_true, List.length_cons, List.length_nil, List.cons_append, List.nil_append, List.map_cons, List.map_nil, Nat.reduceAdd, Nat.zero_add, a0, a1, a2, md]
    have pw : cPow 10 18 = true := rfl
    have ml : ∀ (x y : Int), y.natAbs < 2 ^ 64 → cMul x y = true := fun x y h => by unfold cMul; rw [decide_eq_true h, Bool.or_true]
    have m1 : ∀ x, cMul x 69621 = true := fun x => ml _ _ (by decide)
    have m2 : ∀ x, cMul x 48271 = true := fun x => ml _ _ (by decide)
    have m3 : ∀ x, cMul x 16807 = true := fun x => ml _ _ (by decide)
    have m4 : ∀ x, cMul x 65537 = true := fun x => ml _ _ (by decide)
    split
    · rename_i hlt
      obtain ⟨d, ed, hm, _⟩ := atI_at hk (of_decide_eq_true hlt)
      obtain ⟨i, rfl⟩ := hi d hm
      refine ⟨_, ed, ?_⟩
      simp only [wS_mSeq, wS_mSet, wS_mRet, wS_mRetN, wS_mDrop, wS_mIf, wS_mSub, wS_mNx, wS_mBrk, wS_mCnt, wS_mAsg, wE_ok, wE_exc, w_var, w_c, w_op, w_T, w_chain, w_tr, w_not, w_and, w_or, w_ite, w_andV, w_orV, w_notV, w_neg, w_nil, w_cons, w_tup, w_call, w_fz, w_al, w_disp, w_callL, w_R1, w_R2, w_rgL, w_rgT, w_itR, w_isi, w_met, w_noP, w_part, w_sl, w_itV, w_itE, w_itZ, w_repL, wE_mLc, wS_mFor, o_addI, o_addT, o_addL, o_sub, o_I, o_mulI, o_mulT, o_mulN, o_B, o_C, o_is, o_eqI, o_ixT, o_ixL, o_ixR, o_slT, o_slL, f_lenT, f_lenL, f_abs, f_int, f_tupL, f_tupT, f_listT, f_listL, f_listS, f_sum, f_sorted, f_append, f_extendL, w_trN, w_getN, w_newD, wS_mSubN, w_disp1, w_itN, w_itT, w_dc, wS_mAsgL, w_sortIt, w_idx, wS_mRz, wS_mTry1, w_fld, w_meth, w_make, wS_mSetF, w_Xf, w_IsX, wS_mIfR, wS_exc, f_rng, w_itG, w_itDn, w_itC, w_lIt, w_lVs, w_sortSet, w_cntT, List.getElem?_cons_zero, List.getElem?_cons_succ, List.set_cons_zero, List.set_cons_succ, Option.some.injEq, exists_eq_left', exists_eq_left, D.int.injEq, D.bl.injEq, D.ref.injEq, MO.lst.injEq, ↓reduceIte, Bool.false_eq_true, Bool.not_true, Bool.not_false, reduceCtorEq, true_and, and_true, List.length_cons, List.length_nil, List.cons_append, List.nil_append, List.map_cons, List.map_nil, Nat.reduceAdd, Nat.zero_add, md, pw, m1, m2, m3, m4, i1, i2]
      have hv : 0 ≤ (if i < 0 then -i else i) := by split <;> omega
      generalize (if i < 0 then -i else i) = v at hv ⊢
      split
      · exact tl _ _ _ _ (by omega) (by omega)
      · exact tl _ _ _ _ hv (by omega)
    · simp only [wS_mSeq, wS_mSet, wS_mRet, wS_mRetN, wS_mDrop, wS_mIf, wS_mSub, wS_mNx, wS_mBrk, wS_mCnt, wS_mAsg, wE_ok, wE_exc, w_var, w_c, w_op, w_T, w_chain, w_tr, w_not, w_and, w_or, w_ite, w_andV, w_orV, w_notV, w_neg, w_nil, w_cons, w_tup, w_call, w_fz, w_al, w_disp, w_callL, w_R1, w_R2, w_rgL, w_rgT, w_itR, w_isi, w_met, w_noP, w_part, w_sl, w_itV, w_itE, w_itZ, w_repL, wE_mLc, wS_mFor, o_addI, o_addT, o_addL, o_sub, o_I, o_mulI, o_mulT, o_mulN, o_B, o_C, o_is, o_eqI, o_ixT, o_ixL, o_ixR, o_slT, o_slL, f_lenT, f_lenL, f_abs, f_int, f_tupL, f_tupT, f_listT, f_listL, f_listS, f_sum, f_sorted, f_append, f_extendL, w_trN, w_getN, w_newD, wS_mSubN, w_disp1, w_itN, w_itT, w_dc, wS_mAsgL, w_sortIt, w_idx, wS_mRz, wS_mTry1, w_fld, w_meth, w_make, wS_mSetF, w_Xf, w_IsX, wS_mIfR, wS_exc, f_rng, w_itG, w_itDn, w_itC, w_lIt, w_lVs, w_sortSet, w_cntT, List.getElem?_cons_zero, List.getElem?_cons_succ, List.set_cons_zero, List.set_cons_succ, Option.some.injEq, exists_eq_left', exists_eq_left, D.int.injEq, D.bl.injEq, D.ref.injEq, MO.lst.injEq, ↓reduceIte, Bool.false_eq_true, Bool.not_true, Bool.not_false, reduceCtorEq, true_and, and_true, List.length_cons, List.length_nil, List.cons_append, List.nil_append, List.map_cons, List.map_nil, Nat.reduceAdd, Nat.zero_add, md, pw, m1, m2, m3, m4, i1, i2]
      split
      · exact tl _ _ _ _ (by omega) (by omega)
      · exact tl _ _ _ _ (by omega) (by omega)
  · rw [if_neg (by simpa using c0), wS_mNx]
    exact tl cell k none none hc hk
end LW

namespace LW
open PySem PySem.Spec PyProof.Rows L2 DL
theorem equal_refl : ∀ (n : Nat) (d : D) {S : Sto} {X : Ex → Sto → Prop} {Q : D → Sto → Prop}, fit d = true → dpD d < n → Q (.bl true) S → wE (r__law_equal n [d, d] S) X Q
  | 0, d, S, X, Q, hf, hd, q => by omega
  | n + 1, d, S, X, Q, hf, hd, q => by
    refine go__law_equal ?_
    unfold b__law_equal
    have sq : ∀ (ds : List D), (∀ e ∈ ds, fit e = true ∧ dpD e < n) → ds.length ≤ 16777216 → ∀ d : D, (d = .tup ds ∨ d = .lst ds) → ∀ (X : Ex → Sto → Prop) (Q : D → Sto → Prop), Q (.bl true) S → wE (mCall fAll (mCons (mFz (mLc (mItR (mR1 (mCall fLen (mCons (mVar 1) mNil)))) (.name 2) mYes (mCall (r__law_equal n) (mCons (mOp2 opIx (mVar 0) (mVar 2)) (mCons (mOp2 opIx (mVar 1) (mVar 2)) mNil))) [2])) mNil) [some d, some d, none] S) X Q := by
      intro ds h hl d hd X Q q
      have ix : ∀ (i : Int) (e : D) (S : Sto) (X : Ex → Sto → Prop) (Q : D → Sto → Prop), atI ds i = some e → Q e S → wE (opIx d (.int i) S) X Q := by
        intro i e S X Q ei q
        rcases hd with rfl | rfl
        · rw [o_ixT]; exact ⟨e, ei, q⟩
        · rw [o_ixL]; exact ⟨e, ei, q⟩
      have ln : ∀ (S : Sto) (X : Ex → Sto → Prop) (Q : D → Sto → Prop), Q (.int ds.length) S → wE (fLen [d] S) X Q := by
        intro S X Q q
        rcases hd with rfl | rfl
        · first | (rw [f_lenT]; exact q) | (rw [f_lenL]; exact q)
        · first | (rw [f_lenT]; exact q) | (rw [f_lenL]; exact q)
      simp only [wS_mSeq, wS_mSet, wS_mRet, wS_mRetN, wS_mDrop, wS_mIf, wS_mSub, wS_mNx, wS_mBrk, wS_mCnt, wS_mAsg, wE_ok, wE_exc, w_var, w_c, w_op, w_T, w_chain, w_tr, w_not, w_and, w_or, w_ite, w_andV, w_orV, w_notV, w_neg, w_nil, w_cons, w_tup, w_call, w_fz, w_al, w_disp, w_callL, w_R1, w_R2, w_rgL, w_rgT, w_itR, w_isi, w_met, w_noP, w_part, w_sl, w_itV, w_itE, w_itZ, w_repL, wE_mLc, wS_mFor, o_addI, o_addT, o_addL, o_sub, o_I, o_mulI, o_mulT, o_mulN, o_B, o_C, o_is, o_eqI, o_ixT, o_ixL, o_ixR, o_slT, o_slL, f_lenT, f_lenL, f_abs, f_int, f_tupL, f_tupT, f_listT, f_listL, f_listS, f_sum, f_sorted, f_append, f_extendL, w_trN, w_getN, w_newD, wS_mSubN, w_disp1, w_itN, w_itT, w_dc, wS_mAsgL, w_sortIt, w_idx, wS_mRz, wS_mTry1, w_fld, w_meth, w_make, wS_mSetF, w_Xf, w_IsX, wS_mIfR, wS_exc, f_rng, w_itG, w_itDn, w_itC, w_lIt, w_lVs, w_sortSet, w_cntT, List.getElem?_cons_zero, List.getElem?_cons_succ, List.set_cons_zero, List.set_cons_succ, Option.some.injEq, exists_eq_left', exists_eq_left, D.int.injEq, D.bl.injEq, D.ref.injEq, MO.lst.injEq, ↓reduceIte, Bool.false_eq_true, Bool.not_true, Bool.not_false, reduceCtorEq, true_and, and_true, List.length_cons, List.length_nil, List.cons_append, List.nil_append, List.map_cons, List.map_nil, Nat.reduceAdd, Nat.zero_add]
      refine ln _ _ _ ⟨_, rfl, by simp; omega, ?_⟩
      refine lc_wp (J := fun S' => S' = S) (P := fun _ y => y = .bl true) (fun x hx S1 hS => ?_) rfl (by rw [rgD_len]; simp; omega) fun ys S' hy hS => ?_
      · obtain ⟨i, rfl, h0, h1⟩ := rgD_mem hx
        obtain ⟨e, ee, he, _⟩ := atI_at (xs := ds) h0 h1
        refine ⟨_, rfl, ?_⟩
        subst hS
        simp only [wS_mSeq, wS_mSet, wS_mRet, wS_mRetN, wS_mDrop, wS_mIf, wS_mSub, wS_mNx, wS_mBrk, wS_mCnt, wS_mAsg, wE_ok, wE_exc, w_var, w_c, w_op, w_T, w_chain, w_tr, w_not, w_and, w_or, w_ite, w_andV, w_orV, w_notV, w_neg, w_nil, w_cons, w_tup, w_call, w_fz, w_al, w_disp, w_callL, w_R1, w_R2, w_rgL, w_rgT, w_itR, w_isi, w_met, w_noP, w_part, w_sl, w_itV, w_itE, w_itZ, w_repL, wE_mLc, wS_mFor, o_addI, o_addT, o_addL, o_sub, o_I, o_mulI, o_mulT, o_mulN, o_B, o_C, o_is, o_eqI, o_ixT, o_ixL, o_ixR, o_slT, o_slL, f_lenT, f_lenL, f_abs, f_int, f_tupL, f_tupT, f_listT, f_listL, f_listS, f_sum, f_sorted, f_append, f_extendL, w_trN, w_getN, w_newD, wS_mSubN, w_disp1, w_itN, w_itT, w_dc, wS_mAsgL, w_sortIt, w_idx, wS_mRz, wS_mTry1, w_fld, w_meth, w_make, wS_mSetF, w_Xf, w_IsX, wS_mIfR, wS_exc, f_rng, w_itG, w_itDn, w_itC, w_lIt, w_lVs, w_sortSet, w_cntT, List.getElem?_cons_zero, List.getElem?_cons_succ, List.set_cons_zero, List.set_cons_succ, Option.some.injEq, exists_eq_left', exists_eq_left, D.int.injEq, D.bl.injEq, D.ref.injEq, MO.lst.injEq, ↓reduceIte, Bool.false_eq_true, Bool.not_true, Bool.not_false, reduceCtorEq, true_and, and_true, List.length_cons, List.length_nil, List.cons_append, List.nil_append, List.map_cons, List.map_nil, Nat.reduceAdd, Nat.zero_add, wipeD]
        refine ix i e _ _ _ ee (ix i e _ _ _ ee ?_)
        exact equal_refl n e (h e he).1 (h e he).2 ⟨rfl, rfl⟩
      · rw [all2_const hy]
        subst hS
        rw [List.nil_append, show List.replicate (rgD 0 ds.length).length (D.bl true) = (List.replicate (rgD 0 ds.length).length true).map D.bl by rw [List.map_replicate], f_all]
        rw [show (List.replicate (rgD 0 (ds.length : Int)).length true).all id = true by simp]
        exact q
    cases d with
    | non =>
      simp only [wS_mSeq, wS_mSet, wS_mRet, wS_mRetN, wS_mDrop, wS_mIf, wS_mSub, wS_mNx, wS_mBrk, wS_mCnt, wS_mAsg, wE_ok, wE_exc, w_var, w_c, w_op, w_T, w_chain, w_tr, w_not, w_and, w_or, w_ite, w_andV, w_orV, w_notV, w_neg, w_nil, w_cons, w_tup, w_call, w_fz, w_al, w_disp, w_callL, w_R1, w_R2, w_rgL, w_rgT, w_itR, w_isi, w_met, w_noP, w_part, w_sl, w_itV, w_itE, w_itZ, w_repL, wE_mLc, wS_mFor, o_addI, o_addT, o_addL, o_sub, o_I, o_mulI, o_mulT, o_mulN, o_B, o_C, o_is, o_eqI, o_ixT, o_ixL, o_ixR, o_slT, o_slL, f_lenT, f_lenL, f_abs, f_int, f_tupL, f_tupT, f_listT, f_listL, f_listS, f_sum, f_sorted, f_append, f_extendL, w_trN, w_getN, w_newD, wS_mSubN, w_disp1, w_itN, w_itT, w_dc, wS_mAsgL, w_sortIt, w_idx, wS_mRz, wS_mTry1, w_fld, w_meth, w_make, wS_mSetF, w_Xf, w_IsX, wS_mIfR, wS_exc, f_rng, w_itG, w_itDn, w_itC, w_lIt, w_lVs, w_sortSet, w_cntT, List.getElem?_cons_zero, List.getElem?_cons_succ, List.set_cons_zero, List.set_cons_succ, Option.some.injEq, exists_eq_left', exists_eq_left, D.int.injEq, D.bl.injEq, D.ref.injEq, MO.lst.injEq, ↓reduceIte, Bool.false_eq_true, Bool.not_true, Bool.not_false, reduceCtorEq, true_and, and_true, List.length_cons, List.length_nil, List.cons_append, List.nil_append, List.map_cons, List.map_nil, Nat.reduceAdd, Nat.zero_add, DL.isNon, kindD, Ty.has, truD]
      exact wE_fin rfl q
    | bl b =>
      simp only [wS_mSeq, wS_mSet, wS_mRet, wS_mRetN, wS_mDrop, wS_mIf, wS_mSub, wS_mNx, wS_mBrk, wS_mCnt, wS_mAsg, wE_ok, wE_exc, w_var, w_c, w_op, w_T, w_chain, w_tr, w_not, w_and, w_or, w_ite, w_andV, w_orV, w_notV, w_neg, w_nil, w_cons, w_tup, w_call, w_fz, w_al, w_disp, w_callL, w_R1, w_R2, w_rgL, w_rgT, w_itR, w_isi, w_met, w_noP, w_part, w_sl, w_itV, w_itE, w_itZ, w_repL, wE_mLc, wS_mFor, o_addI, o_addT, o_addL, o_sub, o_I, o_mulI, o_mulT, o_mulN, o_B, o_C, o_is, o_eqI, o_ixT, o_ixL, o_ixR, o_slT, o_slL, f_lenT, f_lenL, f_abs, f_int, f_tupL, f_tupT, f_listT, f_listL, f_listS, f_sum, f_sorted, f_append, f_extendL, w_trN, w_getN, w_newD, wS_mSubN, w_disp1, w_itN, w_itT, w_dc, wS_mAsgL, w_sortIt, w_idx, wS_mRz, wS_mTry1, w_fld, w_meth, w_make, wS_mSetF, w_Xf, w_IsX, wS_mIfR, wS_exc, f_rng, w_itG, w_itDn, w_itC, w_lIt, w_lVs, w_sortSet, w_cntT, List.getElem?_cons_zero, List.getElem?_cons_succ, List.set_cons_zero, List.set_cons_succ, Option.some.injEq, exists_eq_left', exists_eq_left, D.int.injEq, D.bl.injEq, D.ref.injEq, MO.lst.injEq, ↓reduceIte, Bool.false_eq_true, Bool.not_true, Bool.not_false, reduceCtorEq, true_and, and_true, List.length_cons, List.length_nil, List.cons_append, List.nil_append, List.map_cons, List.map_nil, Nat.reduceAdd, Nat.zero_add, DL.isNon, kindD, Ty.has, truD, o_eq, DL.seen, okD, dpD, eqD]
      refine ⟨by decide, wE_fin rfl ?_⟩
      simpa using q
    | int b =>
      simp only [wS_mSeq, wS_mSet, wS_mRet, wS_mRetN, wS_mDrop, wS_mIf, wS_mSub, wS_mNx, wS_mBrk, wS_mCnt, wS_mAsg, wE_ok, wE_exc, w_var, w_c, w_op, w_T, w_chain, w_tr, w_not, w_and, w_or, w_ite, w_andV, w_orV, w_notV, w_neg, w_nil, w_cons, w_tup, w_call, w_fz, w_al, w_disp, w_callL, w_R1, w_R2, w_rgL, w_rgT, w_itR, w_isi, w_met, w_noP, w_part, w_sl, w_itV, w_itE, w_itZ, w_repL, wE_mLc, wS_mFor, o_addI, o_addT, o_addL, o_sub, o_I, o_mulI, o_mulT, o_mulN, o_B, o_C, o_is, o_eqI, o_ixT, o_ixL, o_ixR, o_slT, o_slL, f_lenT, f_lenL, f_abs, f_int, f_tupL, f_tupT, f_listT, f_listL, f_listS, f_sum, f_sorted, f_append, f_extendL, w_trN, w_getN, w_newD, wS_mSubN, w_disp1, w_itN, w_itT, w_dc, wS_mAsgL, w_sortIt, w_idx, wS_mRz, wS_mTry1, w_fld, w_meth, w_make, wS_mSetF, w_Xf, w_IsX, wS_mIfR, wS_exc, f_rng, w_itG, w_itDn, w_itC, w_lIt, w_lVs, w_sortSet, w_cntT, List.getElem?_cons_zero, List.getElem?_cons_succ, List.set_cons_zero, List.set_cons_succ, Option.some.injEq, exists_eq_left', exists_eq_left, D.int.injEq, D.bl.injEq, D.ref.injEq, MO.lst.injEq, ↓reduceIte, Bool.false_eq_true, Bool.not_true, Bool.not_false, reduceCtorEq, true_and, and_true, List.length_cons, List.length_nil, List.cons_append, List.nil_append, List.map_cons, List.map_nil, Nat.reduceAdd, Nat.zero_add, DL.isNon, kindD, Ty.has, truD]
      refine go__law_is_integer ?_
      unfold b__law_is_integer
      simp only [wS_mSeq, wS_mSet, wS_mRet, wS_mRetN, wS_mDrop, wS_mIf, wS_mSub, wS_mNx, wS_mBrk, wS_mCnt, wS_mAsg, wE_ok, wE_exc, w_var, w_c, w_op, w_T, w_chain, w_tr, w_not, w_and, w_or, w_ite, w_andV, w_orV, w_notV, w_neg, w_nil, w_cons, w_tup, w_call, w_fz, w_al, w_disp, w_callL, w_R1, w_R2, w_rgL, w_rgT, w_itR, w_isi, w_met, w_noP, w_part, w_sl, w_itV, w_itE, w_itZ, w_repL, wE_mLc, wS_mFor, o_addI, o_addT, o_addL, o_sub, o_I, o_mulI, o_mulT, o_mulN, o_B, o_C, o_is, o_eqI, o_ixT, o_ixL, o_ixR, o_slT, o_slL, f_lenT, f_lenL, f_abs, f_int, f_tupL, f_tupT, f_listT, f_listL, f_listS, f_sum, f_sorted, f_append, f_extendL, w_trN, w_getN, w_newD, wS_mSubN, w_disp1, w_itN, w_itT, w_dc, wS_mAsgL, w_sortIt, w_idx, wS_mRz, wS_mTry1, w_fld, w_meth, w_make, wS_mSetF, w_Xf, w_IsX, wS_mIfR, wS_exc, f_rng, w_itG, w_itDn, w_itC, w_lIt, w_lVs, w_sortSet, w_cntT, List.getElem?_cons_zero, List.getElem?_cons_succ, List.set_cons_zero, List.set_cons_succ, Option.some.injEq, exists_eq_left', exists_eq_left, D.int.injEq, D.bl.injEq, D.ref.injEq, MO.lst.injEq, ↓reduceIte, Bool.false_eq_true, Bool.not_true, Bool.not_false, reduceCtorEq, true_and, and_true, List.length_cons, List.length_nil, List.cons_append, List.nil_append, List.map_cons, List.map_nil, Nat.reduceAdd, Nat.zero_add, DL.isNon, kindD, Ty.has, truD]
      refine wE_fin rfl ⟨_, rfl, ?_⟩
      simp only [wS_mSeq, wS_mSet, wS_mRet, wS_mRetN, wS_mDrop, wS_mIf, wS_mSub, wS_mNx, wS_mBrk, wS_mCnt, wS_mAsg, wE_ok, wE_exc, w_var, w_c, w_op, w_T, w_chain, w_tr, w_not, w_and, w_or, w_ite, w_andV, w_orV, w_notV, w_neg, w_nil, w_cons, w_tup, w_call, w_fz, w_al, w_disp, w_callL, w_R1, w_R2, w_rgL, w_rgT, w_itR, w_isi, w_met, w_noP, w_part, w_sl, w_itV, w_itE, w_itZ, w_repL, wE_mLc, wS_mFor, o_addI, o_addT, o_addL, o_sub, o_I, o_mulI, o_mulT, o_mulN, o_B, o_C, o_is, o_eqI, o_ixT, o_ixL, o_ixR, o_slT, o_slL, f_lenT, f_lenL, f_abs, f_int, f_tupL, f_tupT, f_listT, f_listL, f_listS, f_sum, f_sorted, f_append, f_extendL, w_trN, w_getN, w_newD, wS_mSubN, w_disp1, w_itN, w_itT, w_dc, wS_mAsgL, w_sortIt, w_idx, wS_mRz, wS_mTry1, w_fld, w_meth, w_make, wS_mSetF, w_Xf, w_IsX, wS_mIfR, wS_exc, f_rng, w_itG, w_itDn, w_itC, w_lIt, w_lVs, w_sortSet, w_cntT, List.getElem?_cons_zero, List.getElem?_cons_succ, List.set_cons_zero, List.set_cons_succ, Option.some.injEq, exists_eq_left', exists_eq_left, D.int.injEq, D.bl.injEq, D.ref.injEq, MO.lst.injEq, ↓reduceIte, Bool.false_eq_true, Bool.not_true, Bool.not_false, reduceCtorEq, true_and, and_true, List.length_cons, List.length_nil, List.cons_append, List.nil_append, List.map_cons, List.map_nil, Nat.reduceAdd, Nat.zero_add, DL.isNon, kindD, Ty.has, truD]
      refine wE_fin rfl ?_
      simpa using q
    | str b =>
      simp only [wS_mSeq, wS_mSet, wS_mRet, wS_mRetN, wS_mDrop, wS_mIf, wS_mSub, wS_mNx, wS_mBrk, wS_mCnt, wS_mAsg, wE_ok, wE_exc, w_var, w_c, w_op, w_T, w_chain, w_tr, w_not, w_and, w_or, w_ite, w_andV, w_orV, w_notV, w_neg, w_nil, w_cons, w_tup, w_call, w_fz, w_al, w_disp, w_callL, w_R1, w_R2, w_rgL, w_rgT, w_itR, w_isi, w_met, w_noP, w_part, w_sl, w_itV, w_itE, w_itZ, w_repL, wE_mLc, wS_mFor, o_addI, o_addT, o_addL, o_sub, o_I, o_mulI, o_mulT, o_mulN, o_B, o_C, o_is, o_eqI, o_ixT, o_ixL, o_ixR, o_slT, o_slL, f_lenT, f_lenL, f_abs, f_int, f_tupL, f_tupT, f_listT, f_listL, f_listS, f_sum, f_sorted, f_append, f_extendL, w_trN, w_getN, w_newD, wS_mSubN, w_disp1, w_itN, w_itT, w_dc, wS_mAsgL, w_sortIt, w_idx, wS_mRz, wS_mTry1, w_fld, w_meth, w_make, wS_mSetF, w_Xf, w_IsX, wS_mIfR, wS_exc, f_rng, w_itG, w_itDn, w_itC, w_lIt, w_lVs, w_sortSet, w_cntT, List.getElem?_cons_zero, List.getElem?_cons_succ, List.set_cons_zero, List.set_cons_succ, Option.some.injEq, exists_eq_left', exists_eq_left, D.int.injEq, D.bl.injEq, D.ref.injEq, MO.lst.injEq, ↓reduceIte, Bool.false_eq_true, Bool.not_true, Bool.not_false, reduceCtorEq, true_and, and_true, List.length_cons, List.length_nil, List.cons_append, List.nil_append, List.map_cons, List.map_nil, Nat.reduceAdd, Nat.zero_add, DL.isNon, kindD, Ty.has, truD, o_eq, DL.seen, okD, dpD, eqD]
      refine ⟨⟨hf, hf, by decide⟩, wE_fin rfl ?_⟩
      simpa using q
    | tup ds =>
      simp only [fit, Bool.and_eq_true, decide_eq_true_eq] at hf
      have hd : dpL ds + 1 < n + 1 := hd
      simp only [wS_mSeq]
      iterate 7 (rw [wS_mIf]; simp only [w_T, w_tr, w_op, w_and, w_not, w_isi, w_var, w_c, w_call, w_cons, w_nil, f_lenT, o_eqI, o_is, List.getElem?_cons_zero, List.getElem?_cons_succ, Option.some.injEq, exists_eq_left', DL.isNon, D.bl.injEq, kindD, Ty.has, truD, ↓reduceIte, Bool.false_eq_true, wS_mNx, Bool.not_true, bne_self_eq_false, BEq.rfl])
      rw [wS_mRet]
      have hh : ∀ e ∈ ds, fit e = true ∧ dpD e < n := fun e he => ⟨fitL_iff.mp hf.2 e he, Nat.lt_of_le_of_lt (dpL_mem he) (Nat.lt_of_succ_lt_succ hd)⟩
      refine sq ds hh hf.1 (.tup ds) ?_ _ _ ?_
      · exact .inl rfl
      · exact wE_fin rfl q
    | lst ds =>
      simp only [fit, Bool.and_eq_true, decide_eq_true_eq] at hf
      have hd : dpL ds + 1 < n + 1 := hd
      simp only [wS_mSeq]
      iterate 7 (rw [wS_mIf]; simp only [w_T, w_tr, w_op, w_and, w_not, w_isi, w_var, w_c, w_call, w_cons, w_nil, f_lenL, o_eqI, o_is, List.getElem?_cons_zero, List.getElem?_cons_succ, Option.some.injEq, exists_eq_left', DL.isNon, D.bl.injEq, kindD, Ty.has, truD, ↓reduceIte, Bool.false_eq_true, wS_mNx, Bool.not_true, bne_self_eq_false, BEq.rfl])
      rw [wS_mRet]
      have hh : ∀ e ∈ ds, fit e = true ∧ dpD e < n := fun e he => ⟨fitL_iff.mp hf.2 e he, Nat.lt_of_le_of_lt (dpL_mem he) (Nat.lt_of_succ_lt_succ hd)⟩
      refine sq ds hh hf.1 (.lst ds) ?_ _ _ ?_
      · exact .inr rfl
      · exact wE_fin rfl q
    | ref _ => simp [fit] at hf
    | scr _ => simp [fit] at hf
    | rng _ _ => simp [fit] at hf
end LW

namespace LW
open PySem PySem.Spec PyProof.Rows L2 DL
def btw (d : D) (lo hi : Int) : Bool := match d with
  | .int i => decide (lo ≤ i) && decide (i ≤ hi)
  | _ => false
theorem between_spec {d : D} {lo hi : Int} {S : Sto} {X : Ex → Sto → Prop} {Q : D → Sto → Prop} (hp : DL.pure d = true) (q : Q (.bl (btw d lo hi)) S) : wE (m_is_between [d, .int lo, .int hi] S) X Q := by
  refine go_is_between ?_
  unfold b_is_between
  cases d with
  | ref _ => simp [DL.pure] at hp
  | scr _ => simp [DL.pure] at hp
  | rng _ _ => simp [DL.pure] at hp
  | int i =>
    simp only [wS_mSeq, wS_mSet, wS_mRet, wS_mRetN, wS_mDrop, wS_mIf, wS_mSub, wS_mNx, wS_mBrk, wS_mCnt, wS_mAsg, wE_ok, wE_exc, w_var, w_c, w_op, w_T, w_chain, w_tr, w_not, w_and, w_or, w_ite, w_andV, w_orV, w_notV, w_neg, w_nil, w_cons, w_tup, w_call, w_fz, w_al, w_disp, w_callL, w_R1, w_R2, w_rgL, w_rgT, w_itR, w_isi, w_met, w_noP, w_part, w_sl, w_itV, w_itE, w_itZ, w_repL, wE_mLc, wS_mFor, o_addI, o_addT, o_addL, o_sub, o_I, o_mulI, o_mulT, o_mulN, o_B, o_C, o_is, o_eqI, o_ixT, o_ixL, o_ixR, o_slT, o_slL, f_lenT, f_lenL, f_abs, f_int, f_tupL, f_tupT, f_listT, f_listL, f_listS, f_sum, f_sorted, f_append, f_extendL, w_trN, w_getN, w_newD, wS_mSubN, w_disp1, w_itN, w_itT, w_dc, wS_mAsgL, w_sortIt, w_idx, wS_mRz, wS_mTry1, w_fld, w_meth, w_make, wS_mSetF, w_Xf, w_IsX, wS_mIfR, wS_exc, f_rng, w_itG, w_itDn, w_itC, w_lIt, w_lVs, w_sortSet, w_cntT, List.getElem?_cons_zero, List.getElem?_cons_succ, List.set_cons_zero, List.set_cons_succ, Option.some.injEq, exists_eq_left', exists_eq_left, D.int.injEq, D.bl.injEq, D.ref.injEq, MO.lst.injEq, ↓reduceIte, Bool.false_eq_true, Bool.not_true, Bool.not_false, reduceCtorEq, true_and, and_true, List.length_cons, List.length_nil, List.cons_append, List.nil_append, List.map_cons, List.map_nil, Nat.reduceAdd, Nat.zero_add, DL.isNon, kindD, Ty.has, truD]
    unfold btw at q
    dsimp only at q
    cases h : decide (lo ≤ i) with
    | true => rw [h, Bool.true_and] at q; exact wE_fin rfl q
    | false => rw [h, Bool.false_and] at q; exact wE_fin rfl q
  | bl b =>
    simp only [wS_mSeq, wS_mSet, wS_mRet, wS_mRetN, wS_mDrop, wS_mIf, wS_mSub, wS_mNx, wS_mBrk, wS_mCnt, wS_mAsg, wE_ok, wE_exc, w_var, w_c, w_op, w_T, w_chain, w_tr, w_not, w_and, w_or, w_ite, w_andV, w_orV, w_notV, w_neg, w_nil, w_cons, w_tup, w_call, w_fz, w_al, w_disp, w_callL, w_R1, w_R2, w_rgL, w_rgT, w_itR, w_isi, w_met, w_noP, w_part, w_sl, w_itV, w_itE, w_itZ, w_repL, wE_mLc, wS_mFor, o_addI, o_addT, o_addL, o_sub, o_I, o_mulI, o_mulT, o_mulN, o_B, o_C, o_is, o_eqI, o_ixT, o_ixL, o_ixR, o_slT, o_slL, f_lenT, f_lenL, f_abs, f_int, f_tupL, f_tupT, f_listT, f_listL, f_listS, f_sum, f_sorted, f_append, f_extendL, w_trN, w_getN, w_newD, wS_mSubN, w_disp1, w_itN, w_itT, w_dc, wS_mAsgL, w_sortIt, w_idx, wS_mRz, wS_mTry1, w_fld, w_meth, w_make, wS_mSetF, w_Xf, w_IsX, wS_mIfR, wS_exc, f_rng, w_itG, w_itDn, w_itC, w_lIt, w_lVs, w_sortSet, w_cntT, List.getElem?_cons_zero, List.getElem?_cons_succ, List.set_cons_zero, List.set_cons_succ, Option.some.injEq, exists_eq_left', exists_eq_left, D.int.injEq, D.bl.injEq, D.ref.injEq, MO.lst.injEq, ↓reduceIte, Bool.false_eq_true, Bool.not_true, Bool.not_false, reduceCtorEq, true_and, and_true, List.length_cons, List.length_nil, List.cons_append, List.nil_append, List.map_cons, List.map_nil, Nat.reduceAdd, Nat.zero_add, DL.isNon, kindD, Ty.has, truD]
    exact wE_fin rfl q
  | _ =>
    simp only [wS_mSeq, wS_mSet, wS_mRet, wS_mRetN, wS_mDrop, wS_mIf, wS_mSub, wS_mNx, wS_mBrk, wS_mCnt, wS_mAsg, wE_ok, wE_exc, w_var, w_c, w_op, w_T, w_chain, w_tr, w_not, w_and, w_or, w_ite, w_andV, w_orV, w_notV, w_neg, w_nil, w_cons, w_tup, w_call, w_fz, w_al, w_disp, w_callL, w_R1, w_R2, w_rgL, w_rgT, w_itR, w_isi, w_met, w_noP, w_part, w_sl, w_itV, w_itE, w_itZ, w_repL, wE_mLc, wS_mFor, o_addI, o_addT, o_addL, o_sub, o_I, o_mulI, o_mulT, o_mulN, o_B, o_C, o_is, o_eqI, o_ixT, o_ixL, o_ixR, o_slT, o_slL, f_lenT, f_lenL, f_abs, f_int, f_tupL, f_tupT, f_listT, f_listL, f_listS, f_sum, f_sorted, f_append, f_extendL, w_trN, w_getN, w_newD, wS_mSubN, w_disp1, w_itN, w_itT, w_dc, wS_mAsgL, w_sortIt, w_idx, wS_mRz, wS_mTry1, w_fld, w_meth, w_make, wS_mSetF, w_Xf, w_IsX, wS_mIfR, wS_exc, f_rng, w_itG, w_itDn, w_itC, w_lIt, w_lVs, w_sortSet, w_cntT, List.getElem?_cons_zero, List.getElem?_cons_succ, List.set_cons_zero, List.set_cons_succ, Option.some.injEq, exists_eq_left', exists_eq_left, D.int.injEq, D.bl.injEq, D.ref.injEq, MO.lst.injEq, ↓reduceIte, Bool.false_eq_true, Bool.not_true, Bool.not_false, reduceCtorEq, true_and, and_true, List.length_cons, List.length_nil, List.cons_append, List.nil_append, List.map_cons, List.map_nil, Nat.reduceAdd, Nat.zero_add, DL.isNon, kindD, Ty.has, truD]
    exact wE_fin rfl q
theorem btw_int {d : D} {lo hi : Int} (h : btw d lo hi = true) : ∃ i, d = .int i ∧ lo ≤ i ∧ i ≤ hi := by
  cases d with
  | int i => simp [btw] at h; exact ⟨i, rfl, h⟩
  | _ => simp [btw] at h
def widthsOk (d : D) : Bool := match d with
  | .tup ws => decide (1 ≤ (ws.length : Int)) && decide ((ws.length : Int) ≤ 3) && ws.all (btw · 1 8)
  | _ => false
theorem widths_spec {d : D} {S : Sto} {X : Ex → Sto → Prop} {Q : D → Sto → Prop} (hp : DL.pure d = true) (q : Q (.bl (widthsOk d)) S) : wE (m_is_widths [d] S) X Q := by
  refine go_is_widths ?_
  unfold b_is_widths
  cases d with
  | ref _ => simp [DL.pure] at hp
  | scr _ => simp [DL.pure] at hp
  | rng _ _ => simp [DL.pure] at hp
  | tup ws =>
    simp only [DL.pure] at hp
    simp only [wS_mSeq, wS_mSet, wS_mRet, wS_mRetN, wS_mDrop, wS_mIf, wS_mSub, wS_mNx, wS_mBrk, wS_mCnt, wS_mAsg, wE_ok, wE_exc, w_var, w_c, w_op, w_T, w_chain, w_tr, w_not, w_and, w_or, w_ite, w_andV, w_orV, w_notV, w_neg, w_nil, w_cons, w_tup, w_call, w_fz, w_al, w_disp, w_callL, w_R1, w_R2, w_rgL, w_rgT, w_itR, w_isi, w_met, w_noP, w_part, w_sl, w_itV, w_itE, w_itZ, w_repL, wE_mLc, wS_mFor, o_addI, o_addT, o_addL, o_sub, o_I, o_mulI, o_mulT, o_mulN, o_B, o_C, o_is, o_eqI, o_ixT, o_ixL, o_ixR, o_slT, o_slL, f_lenT, f_lenL, f_abs, f_int, f_tupL, f_tupT, f_listT, f_listL, f_listS, f_sum, f_sorted, f_append, f_extendL, w_trN, w_getN, w_newD, wS_mSubN, w_disp1, w_itN, w_itT, w_dc, wS_mAsgL, w_sortIt, w_idx, wS_mRz, wS_mTry1, w_fld, w_meth, w_make, wS_mSetF, w_Xf, w_IsX, wS_mIfR, wS_exc, f_rng, w_itG, w_itDn, w_itC, w_lIt, w_lVs, w_sortSet, w_cntT, List.getElem?_cons_zero, List.getElem?_cons_succ, List.set_cons_zero, List.set_cons_succ, Option.some.injEq, exists_eq_left', exists_eq_left, D.int.injEq, D.bl.injEq, D.ref.injEq, MO.lst.injEq, ↓reduceIte, Bool.false_eq_true, Bool.not_true, Bool.not_false, reduceCtorEq, true_and, and_true, List.length_cons, List.length_nil, List.cons_append, List.nil_append, List.map_cons, List.map_nil, Nat.reduceAdd, Nat.zero_add, DL.isNon, kindD, Ty.has, truD]
    unfold widthsOk at q
    dsimp only at q
    cases h1 : decide (1 ≤ (ws.length : Int)) with
    | false =>
      simp only [↓reduceIte, Bool.false_eq_true, wS_mSeq, wS_mSet, wS_mRet, wS_mRetN, wS_mDrop, wS_mIf, wS_mSub, wS_mNx, wS_mBrk, wS_mCnt, wS_mAsg, wE_ok, wE_exc, w_var, w_c, w_op, w_T, w_chain, w_tr, w_not, w_and, w_or, w_ite, w_andV, w_orV, w_notV, w_neg, w_nil, w_cons, w_tup, w_call, w_fz, w_al, w_disp, w_callL, w_R1, w_R2, w_rgL, w_rgT, w_itR, w_isi, w_met, w_noP, w_part, w_sl, w_itV, w_itE, w_itZ, w_repL, wE_mLc, wS_mFor, o_addI, o_addT, o_addL, o_sub, o_I, o_mulI, o_mulT, o_mulN, o_B, o_C, o_is, o_eqI, o_ixT, o_ixL, o_ixR, o_slT, o_slL, f_lenT, f_lenL, f_abs, f_int, f_tupL, f_tupT, f_listT, f_listL, f_listS, f_sum, f_sorted, f_append, f_extendL, w_trN, w_getN, w_newD, wS_mSubN, w_disp1, w_itN, w_itT, w_dc, wS_mAsgL, w_sortIt, w_idx, wS_mRz, wS_mTry1, w_fld, w_meth, w_make, wS_mSetF, w_Xf, w_IsX, wS_mIfR, wS_exc, f_rng, w_itG, w_itDn, w_itC, w_lIt, w_lVs, w_sortSet, w_cntT, List.getElem?_cons_zero, List.getElem?_cons_succ, List.set_cons_zero, List.set_cons_succ, Option.some.injEq, exists_eq_left', exists_eq_left, D.int.injEq, D.bl.injEq, D.ref.injEq, MO.lst.injEq, ↓reduceIte, Bool.false_eq_true, Bool.not_true, Bool.not_false, reduceCtorEq, true_and, and_true, List.length_cons, List.length_nil, List.cons_append, List.nil_append, List.map_cons, List.map_nil, Nat.reduceAdd, Nat.zero_add, DL.isNon, kindD, Ty.has, truD]
      rw [h1] at q
      exact wE_fin rfl q
    | true =>
      rw [h1, Bool.true_and] at q
      simp only [↓reduceIte]
      cases h2 : decide ((ws.length : Int) ≤ 3) with
      | false =>
        simp only [↓reduceIte, Bool.false_eq_true, wS_mSeq, wS_mSet, wS_mRet, wS_mRetN, wS_mDrop, wS_mIf, wS_mSub, wS_mNx, wS_mBrk, wS_mCnt, wS_mAsg, wE_ok, wE_exc, w_var, w_c, w_op, w_T, w_chain, w_tr, w_not, w_and, w_or, w_ite, w_andV, w_orV, w_notV, w_neg, w_nil, w_cons, w_tup, w_call, w_fz, w_al, w_disp, w_callL, w_R1, w_R2, w_rgL, w_rgT, w_itR, w_isi, w_met, w_noP, w_part, w_sl, w_itV, w_itE, w_itZ, w_repL, wE_mLc, wS_mFor, o_addI, o_addT, o_addL, o_sub, o_I, o_mulI, o_mulT, o_mulN, o_B, o_C, o_is, o_eqI, o_ixT, o_ixL, o_ixR, o_slT, o_slL, f_lenT, f_lenL, f_abs, f_int, f_tupL, f_tupT, f_listT, f_listL, f_listS, f_sum, f_sorted, f_append, f_extendL, w_trN, w_getN, w_newD, wS_mSubN, w_disp1, w_itN, w_itT, w_dc, wS_mAsgL, w_sortIt, w_idx, wS_mRz, wS_mTry1, w_fld, w_meth, w_make, wS_mSetF, w_Xf, w_IsX, wS_mIfR, wS_exc, f_rng, w_itG, w_itDn, w_itC, w_lIt, w_lVs, w_sortSet, w_cntT, List.getElem?_cons_zero, List.getElem?_cons_succ, List.set_cons_zero, List.set_cons_succ, Option.some.injEq, exists_eq_left', exists_eq_left, D.int.injEq, D.bl.injEq, D.ref.injEq, MO.lst.injEq, ↓reduceIte, Bool.false_eq_true, Bool.not_true, Bool.not_false, reduceCtorEq, true_and, and_true, List.length_cons, List.length_nil, List.cons_append, List.nil_append, List.map_cons, List.map_nil, Nat.reduceAdd, Nat.zero_add, DL.isNon, kindD, Ty.has, truD]
        rw [h2] at q
        exact wE_fin rfl q
      | true =>
        rw [h2, Bool.true_and] at q
        have h2 := of_decide_eq_true h2
        simp only [↓reduceIte, Bool.false_eq_true, wS_mSeq, wS_mSet, wS_mRet, wS_mRetN, wS_mDrop, wS_mIf, wS_mSub, wS_mNx, wS_mBrk, wS_mCnt, wS_mAsg, wE_ok, wE_exc, w_var, w_c, w_op, w_T, w_chain, w_tr, w_not, w_and, w_or, w_ite, w_andV, w_orV, w_notV, w_neg, w_nil, w_cons, w_tup, w_call, w_fz, w_al, w_disp, w_callL, w_R1, w_R2, w_rgL, w_rgT, w_itR, w_isi, w_met, w_noP, w_part, w_sl, w_itV, w_itE, w_itZ, w_repL, wE_mLc, wS_mFor, o_addI, o_addT, o_addL, o_sub, o_I, o_mulI, o_mulT, o_mulN, o_B, o_C, o_is, o_eqI, o_ixT, o_ixL, o_ixR, o_slT, o_slL, f_lenT, f_lenL, f_abs, f_int, f_tupL, f_tupT, f_listT, f_listL, f_listS, f_sum, f_sorted, f_append, f_extendL, w_trN, w_getN, w_newD, wS_mSubN, w_disp1, w_itN, w_itT, w_dc, wS_mAsgL, w_sortIt, w_idx, wS_mRz, wS_mTry1, w_fld, w_meth, w_make, wS_mSetF, w_Xf, w_IsX, wS_mIfR, wS_exc, f_rng, w_itG, w_itDn, w_itC, w_lIt, w_lVs, w_sortSet, w_cntT, List.getElem?_cons_zero, List.getElem?_cons_succ, List.set_cons_zero, List.set_cons_succ, Option.some.injEq, exists_eq_left', exists_eq_left, D.int.injEq, D.bl.injEq, D.ref.injEq, MO.lst.injEq, ↓reduceIte, Bool.false_eq_true, Bool.not_true, Bool.not_false, reduceCtorEq, true_and, and_true, List.length_cons, List.length_nil, List.cons_append, List.nil_append, List.map_cons, List.map_nil, Nat.reduceAdd, Nat.zero_add, DL.isNon, kindD, Ty.has, truD]
        refine all_wp (f := (btw · 1 8)) (fun d hd => ⟨_, rfl, fun X Q q => ?_⟩) (by omega) (wE_fin rfl q)
        simp only [wS_mSeq, wS_mSet, wS_mRet, wS_mRetN, wS_mDrop, wS_mIf, wS_mSub, wS_mNx, wS_mBrk, wS_mCnt, wS_mAsg, wE_ok, wE_exc, w_var, w_c, w_op, w_T, w_chain, w_tr, w_not, w_and, w_or, w_ite, w_andV, w_orV, w_notV, w_neg, w_nil, w_cons, w_tup, w_call, w_fz, w_al, w_disp, w_callL, w_R1, w_R2, w_rgL, w_rgT, w_itR, w_isi, w_met, w_noP, w_part, w_sl, w_itV, w_itE, w_itZ, w_repL, wE_mLc, wS_mFor, o_addI, o_addT, o_addL, o_sub, o_I, o_mulI, o_mulT, o_mulN, o_B, o_C, o_is, o_eqI, o_ixT, o_ixL, o_ixR, o_slT, o_slL, f_lenT, f_lenL, f_abs, f_int, f_tupL, f_tupT, f_listT, f_listL, f_listS, f_sum, f_sorted, f_append, f_extendL, w_trN, w_getN, w_newD, wS_mSubN, w_disp1, w_itN, w_itT, w_dc, wS_mAsgL, w_sortIt, w_idx, wS_mRz, wS_mTry1, w_fld, w_meth, w_make, wS_mSetF, w_Xf, w_IsX, wS_mIfR, wS_exc, f_rng, w_itG, w_itDn, w_itC, w_lIt, w_lVs, w_sortSet, w_cntT, List.getElem?_cons_zero, List.getElem?_cons_succ, List.set_cons_zero, List.set_cons_succ, Option.some.injEq, exists_eq_left', exists_eq_left, D.int.injEq, D.bl.injEq, D.ref.injEq, MO.lst.injEq, ↓reduceIte, Bool.false_eq_true, Bool.not_true, Bool.not_false, reduceCtorEq, true_and, and_true, List.length_cons, List.length_nil, List.cons_append, List.nil_append, List.map_cons, List.map_nil, Nat.reduceAdd, Nat.zero_add, wipeD]
        exact between_spec (pureL_iff.mp hp d hd) q
  | _ =>
    simp only [wS_mSeq, wS_mSet, wS_mRet, wS_mRetN, wS_mDrop, wS_mIf, wS_mSub, wS_mNx, wS_mBrk, wS_mCnt, wS_mAsg, wE_ok, wE_exc, w_var, w_c, w_op, w_T, w_chain, w_tr, w_not, w_and, w_or, w_ite, w_andV, w_orV, w_notV, w_neg, w_nil, w_cons, w_tup, w_call, w_fz, w_al, w_disp, w_callL, w_R1, w_R2, w_rgL, w_rgT, w_itR, w_isi, w_met, w_noP, w_part, w_sl, w_itV, w_itE, w_itZ, w_repL, wE_mLc, wS_mFor, o_addI, o_addT, o_addL, o_sub, o_I, o_mulI, o_mulT, o_mulN, o_B, o_C, o_is, o_eqI, o_ixT, o_ixL, o_ixR, o_slT, o_slL, f_lenT, f_lenL, f_abs, f_int, f_tupL, f_tupT, f_listT, f_listL, f_listS, f_sum, f_sorted, f_append, f_extendL, w_trN, w_getN, w_newD, wS_mSubN, w_disp1, w_itN, w_itT, w_dc, wS_mAsgL, w_sortIt, w_idx, wS_mRz, wS_mTry1, w_fld, w_meth, w_make, wS_mSetF, w_Xf, w_IsX, wS_mIfR, wS_exc, f_rng, w_itG, w_itDn, w_itC, w_lIt, w_lVs, w_sortSet, w_cntT, List.getElem?_cons_zero, List.getElem?_cons_succ, List.set_cons_zero, List.set_cons_succ, Option.some.injEq, exists_eq_left', exists_eq_left, D.int.injEq, D.bl.injEq, D.ref.injEq, MO.lst.injEq, ↓reduceIte, Bool.false_eq_true, Bool.not_true, Bool.not_false, reduceCtorEq, true_and, and_true, List.length_cons, List.length_nil, List.cons_append, List.nil_append, List.map_cons, List.map_nil, Nat.reduceAdd, Nat.zero_add, DL.isNon, kindD, Ty.has, truD]
    exact wE_fin rfl q
def rangeOk (d : D) (w : Int) : Bool := match d with
  | .tup [.int i, b] => btw (.int i) 0 (w - 1) && btw b i (w - 1)
  | _ => false
theorem range_spec {d : D} {w : Int} {S : Sto} {X : Ex → Sto → Prop} {Q : D → Sto → Prop} (hp : DL.pure d = true) (q : Q (.bl (rangeOk d w)) S) : wE (m_is_range [d, .int w] S) X Q := by
  refine go_is_range ?_
  unfold b_is_range
  cases d with
  | ref _ => simp [DL.pure] at hp
  | scr _ => simp [DL.pure] at hp
  | rng _ _ => simp [DL.pure] at hp
  | tup ws =>
    simp only [DL.pure] at hp
    have hp := pureL_iff.mp hp
    simp only [wS_mSeq, wS_mSet, wS_mRet, wS_mRetN, wS_mDrop, wS_mIf, wS_mSub, wS_mNx, wS_mBrk, wS_mCnt, wS_mAsg, wE_ok, wE_exc, w_var, w_c, w_op, w_T, w_chain, w_tr, w_not, w_and, w_or, w_ite, w_andV, w_orV, w_notV, w_neg, w_nil, w_cons, w_tup, w_call, w_fz, w_al, w_disp, w_callL, w_R1, w_R2, w_rgL, w_rgT, w_itR, w_isi, w_met, w_noP, w_part, w_sl, w_itV, w_itE, w_itZ, w_repL, wE_mLc, wS_mFor, o_addI, o_addT, o_addL, o_sub, o_I, o_mulI, o_mulT, o_mulN, o_B, o_C, o_is, o_eqI, o_ixT, o_ixL, o_ixR, o_slT, o_slL, f_lenT, f_lenL, f_abs, f_int, f_tupL, f_tupT, f_listT, f_listL, f_listS, f_sum, f_sorted, f_append, f_extendL, w_trN, w_getN, w_newD, wS_mSubN, w_disp1, w_itN, w_itT, w_dc, wS_mAsgL, w_sortIt, w_idx, wS_mRz, wS_mTry1, w_fld, w_meth, w_make, wS_mSetF, w_Xf, w_IsX, wS_mIfR, wS_exc, f_rng, w_itG, w_itDn, w_itC, w_lIt, w_lVs, w_sortSet, w_cntT, List.getElem?_cons_zero, List.getElem?_cons_succ, List.set_cons_zero, List.set_cons_succ, Option.some.injEq, exists_eq_left', exists_eq_left, D.int.injEq, D.bl.injEq, D.ref.injEq, MO.lst.injEq, ↓reduceIte, Bool.false_eq_true, Bool.not_true, Bool.not_false, reduceCtorEq, true_and, and_true, List.length_cons, List.length_nil, List.cons_append, List.nil_append, List.map_cons, List.map_nil, Nat.reduceAdd, Nat.zero_add, DL.isNon, kindD, Ty.has, truD]
    by_cases h1 : ws.length = 2
    · obtain ⟨a, b, rfl⟩ : ∃ a b, ws = [a, b] := by
        match ws, h1 with
        | [a, b], _ => exact ⟨a, b, rfl⟩
      have a0 : atI [a, b] 0 = some a := rfl
      have a1 : atI [a, b] 1 = some b := rfl
      simp only [wS_mSeq, wS_mSet, wS_mRet, wS_mRetN, wS_mDrop, wS_mIf, wS_mSub, wS_mNx, wS_mBrk, wS_mCnt, wS_mAsg, wE_ok, wE_exc, w_var, w_c, w_op, w_T, w_chain, w_tr, w_not, w_and, w_or, w_ite, w_andV, w_orV, w_notV, w_neg, w_nil, w_cons, w_tup, w_call, w_fz, w_al, w_disp, w_callL, w_R1, w_R2, w_rgL, w_rgT, w_itR, w_isi, w_met, w_noP, w_part, w_sl, w_itV, w_itE, w_itZ, w_repL, wE_mLc, wS_mFor, o_addI, o_addT, o_addL, o_sub, o_I, o_mulI, o_mulT, o_mulN, o_B, o_C, o_is, o_eqI, o_ixT, o_ixL, o_ixR, o_slT, o_slL, f_lenT, f_lenL, f_abs, f_int, f_tupL, f_tupT, f_listT, f_listL, f_listS, f_sum, f_sorted, f_append, f_extendL, w_trN, w_getN, w_newD, wS_mSubN, w_disp1, w_itN, w_itT, w_dc, wS_mAsgL, w_sortIt, w_idx, wS_mRz, wS_mTry1, w_fld, w_meth, w_make, wS_mSetF, w_Xf, w_IsX, wS_mIfR, wS_exc, f_rng, w_itG, w_itDn, w_itC, w_lIt, w_lVs, w_sortSet, w_cntT, List.getElem?_cons_zero, List.getElem?_cons_succ, List.set_cons_zero, List.set_cons_succ, Option.some.injEq, exists_eq_left', exists_eq_left, D.int.injEq, D.bl.injEq, D.ref.injEq, MO.lst.injEq, ↓reduceIte, Bool.false_eq_true, Bool.not_true, Bool.not_false, reduceCtorEq, true_and, and_true, List.length_cons, List.length_nil, List.cons_append, List.nil_append, List.map_cons, List.map_nil, Nat.reduceAdd, Nat.zero_add, DL.isNon, kindD, Ty.has, truD, a0, a1, show (((2 : Nat) : Int) == 2) = true from rfl]
      refine between_spec (hp a (by simp)) ?_
      cases hb : btw a 0 (w - 1) with
      | false =>
        simp only [wS_mSeq, wS_mSet, wS_mRet, wS_mRetN, wS_mDrop, wS_mIf, wS_mSub, wS_mNx, wS_mBrk, wS_mCnt, wS_mAsg, wE_ok, wE_exc, w_var, w_c, w_op, w_T, w_chain, w_tr, w_not, w_and, w_or, w_ite, w_andV, w_orV, w_notV, w_neg, w_nil, w_cons, w_tup, w_call, w_fz, w_al, w_disp, w_callL, w_R1, w_R2, w_rgL, w_rgT, w_itR, w_isi, w_met, w_noP, w_part, w_sl, w_itV, w_itE, w_itZ, w_repL, wE_mLc, wS_mFor, o_addI, o_addT, o_addL, o_sub, o_I, o_mulI, o_mulT, o_mulN, o_B, o_C, o_is, o_eqI, o_ixT, o_ixL, o_ixR, o_slT, o_slL, f_lenT, f_lenL, f_abs, f_int, f_tupL, f_tupT, f_listT, f_listL, f_listS, f_sum, f_sorted, f_append, f_extendL, w_trN, w_getN, w_newD, wS_mSubN, w_disp1, w_itN, w_itT, w_dc, wS_mAsgL, w_sortIt, w_idx, wS_mRz, wS_mTry1, w_fld, w_meth, w_make, wS_mSetF, w_Xf, w_IsX, wS_mIfR, wS_exc, f_rng, w_itG, w_itDn, w_itC, w_lIt, w_lVs, w_sortSet, w_cntT, List.getElem?_cons_zero, List.getElem?_cons_succ, List.set_cons_zero, List.set_cons_succ, Option.some.injEq, exists_eq_left', exists_eq_left, D.int.injEq, D.bl.injEq, D.ref.injEq, MO.lst.injEq, ↓reduceIte, Bool.false_eq_true, Bool.not_true, Bool.not_false, reduceCtorEq, true_and, and_true, List.length_cons, List.length_nil, List.cons_append, List.nil_append, List.map_cons, List.map_nil, Nat.reduceAdd, Nat.zero_add, DL.isNon, kindD, Ty.has, truD]
        have e : rangeOk (.tup [a, b]) w = false := by
          cases a <;> simp [rangeOk] <;> simp_all
        rw [e] at q
        exact wE_fin rfl q
      | true =>
        obtain ⟨i, rfl, _, _⟩ := btw_int hb
        simp only [wS_mSeq, wS_mSet, wS_mRet, wS_mRetN, wS_mDrop, wS_mIf, wS_mSub, wS_mNx, wS_mBrk, wS_mCnt, wS_mAsg, wE_ok, wE_exc, w_var, w_c, w_op, w_T, w_chain, w_tr, w_not, w_and, w_or, w_ite, w_andV, w_orV, w_notV, w_neg, w_nil, w_cons, w_tup, w_call, w_fz, w_al, w_disp, w_callL, w_R1, w_R2, w_rgL, w_rgT, w_itR, w_isi, w_met, w_noP, w_part, w_sl, w_itV, w_itE, w_itZ, w_repL, wE_mLc, wS_mFor, o_addI, o_addT, o_addL, o_sub, o_I, o_mulI, o_mulT, o_mulN, o_B, o_C, o_is, o_eqI, o_ixT, o_ixL, o_ixR, o_slT, o_slL, f_lenT, f_lenL, f_abs, f_int, f_tupL, f_tupT, f_listT, f_listL, f_listS, f_sum, f_sorted, f_append, f_extendL, w_trN, w_getN, w_newD, wS_mSubN, w_disp1, w_itN, w_itT, w_dc, wS_mAsgL, w_sortIt, w_idx, wS_mRz, wS_mTry1, w_fld, w_meth, w_make, wS_mSetF, w_Xf, w_IsX, wS_mIfR, wS_exc, f_rng, w_itG, w_itDn, w_itC, w_lIt, w_lVs, w_sortSet, w_cntT, List.getElem?_cons_zero, List.getElem?_cons_succ, List.set_cons_zero, List.set_cons_succ, Option.some.injEq, exists_eq_left', exists_eq_left, D.int.injEq, D.bl.injEq, D.ref.injEq, MO.lst.injEq, ↓reduceIte, Bool.false_eq_true, Bool.not_true, Bool.not_false, reduceCtorEq, true_and, and_true, List.length_cons, List.length_nil, List.cons_append, List.nil_append, List.map_cons, List.map_nil, Nat.reduceAdd, Nat.zero_add, DL.isNon, kindD, Ty.has, truD]
        refine between_spec (hp b (by simp)) ?_
        have e : rangeOk (.tup [.int i, b]) w = btw b i (w - 1) := by simp [rangeOk, hb]
        rw [e] at q
        exact wE_fin rfl q
    · have e : rangeOk (.tup ws) w = false := by
        unfold rangeOk
        split
        · rename_i e; simp at e; subst e; simp at h1
        · rfl
      rw [e] at q
      have h3 : ((ws.length : Int) == 2) = false := by simp; omega
      simp only [wS_mSeq, wS_mSet, wS_mRet, wS_mRetN, wS_mDrop, wS_mIf, wS_mSub, wS_mNx, wS_mBrk, wS_mCnt, wS_mAsg, wE_ok, wE_exc, w_var, w_c, w_op, w_T, w_chain, w_tr, w_not, w_and, w_or, w_ite, w_andV, w_orV, w_notV, w_neg, w_nil, w_cons, w_tup, w_call, w_fz, w_al, w_disp, w_callL, w_R1, w_R2, w_rgL, w_rgT, w_itR, w_isi, w_met, w_noP, w_part, w_sl, w_itV, w_itE, w_itZ, w_repL, wE_mLc, wS_mFor, o_addI, o_addT, o_addL, o_sub, o_I, o_mulI, o_mulT, o_mulN, o_B, o_C, o_is, o_eqI, o_ixT, o_ixL, o_ixR, o_slT, o_slL, f_lenT, f_lenL, f_abs, f_int, f_tupL, f_tupT, f_listT, f_listL, f_listS, f_sum, f_sorted, f_append, f_extendL, w_trN, w_getN, w_newD, wS_mSubN, w_disp1, w_itN, w_itT, w_dc, wS_mAsgL, w_sortIt, w_idx, wS_mRz, wS_mTry1, w_fld, w_meth, w_make, wS_mSetF, w_Xf, w_IsX, wS_mIfR, wS_exc, f_rng, w_itG, w_itDn, w_itC, w_lIt, w_lVs, w_sortSet, w_cntT, List.getElem?_cons_zero, List.getElem?_cons_succ, List.set_cons_zero, List.set_cons_succ, Option.some.injEq, exists_eq_left', exists_eq_left, D.int.injEq, D.bl.injEq, D.ref.injEq, MO.lst.injEq, ↓reduceIte, Bool.false_eq_true, Bool.not_true, Bool.not_false, reduceCtorEq, true_and, and_true, List.length_cons, List.length_nil, List.cons_append, List.nil_append, List.map_cons, List.map_nil, Nat.reduceAdd, Nat.zero_add, DL.isNon, kindD, Ty.has, truD, h3]
      exact wE_fin rfl q
  | _ =>
    simp only [wS_mSeq, wS_mSet, wS_mRet, wS_mRetN, wS_mDrop, wS_mIf, wS_mSub, wS_mNx, wS_mBrk, wS_mCnt, wS_mAsg, wE_ok, wE_exc, w_var, w_c, w_op, w_T, w_chain, w_tr, w_not, w_and, w_or, w_ite, w_andV, w_orV, w_notV, w_neg, w_nil, w_cons, w_tup, w_call, w_fz, w_al, w_disp, w_callL, w_R1, w_R2, w_rgL, w_rgT, w_itR, w_isi, w_met, w_noP, w_part, w_sl, w_itV, w_itE, w_itZ, w_repL, wE_mLc, wS_mFor, o_addI, o_addT, o_addL, o_sub, o_I, o_mulI, o_mulT, o_mulN, o_B, o_C, o_is, o_eqI, o_ixT, o_ixL, o_ixR, o_slT, o_slL, f_lenT, f_lenL, f_abs, f_int, f_tupL, f_tupT, f_listT, f_listL, f_listS, f_sum, f_sorted, f_append, f_extendL, w_trN, w_getN, w_newD, wS_mSubN, w_disp1, w_itN, w_itT, w_dc, wS_mAsgL, w_sortIt, w_idx, wS_mRz, wS_mTry1, w_fld, w_meth, w_make, wS_mSetF, w_Xf, w_IsX, wS_mIfR, wS_exc, f_rng, w_itG, w_itDn, w_itC, w_lIt, w_lVs, w_sortSet, w_cntT, List.getElem?_cons_zero, List.getElem?_cons_succ, List.set_cons_zero, List.set_cons_succ, Option.some.injEq, exists_eq_left', exists_eq_left, D.int.injEq, D.bl.injEq, D.ref.injEq, MO.lst.injEq, ↓reduceIte, Bool.false_eq_true, Bool.not_true, Bool.not_false, reduceCtorEq, true_and, and_true, List.length_cons, List.length_nil, List.cons_append, List.nil_append, List.map_cons, List.map_nil, Nat.reduceAdd, Nat.zero_add, DL.isNon, kindD, Ty.has, truD]
    exact wE_fin rfl q
end LW

namespace LW
open PySem PySem.Spec PyProof.Rows L2 DL
def fieldOk (rs : List D) (x : D) : Bool := match x with
  | .tup [.int i, .int w] => match atI rs i with
    | some r => rangeOk r w
    | none => false
  | _ => false
def ruleOk (v : D) (us : List D) : Bool := match v with
  | .tup [a, .tup rs] => btw a 0 5 && ((rs.length : Int) == (us.length : Int)) && (enumD 0 us).all (fieldOk rs)
  | _ => false
theorem rule_spec {d : D} {us : List D} {S : Sto} {X : Ex → Sto → Prop} {Q : D → Sto → Prop} (hp : DL.pure d = true) (hu : ∀ u ∈ us, ∃ i, u = .int i) (hl : us.length ≤ 16777216) (q : Q (.bl (ruleOk d us)) S) : wE (m_is_rule [d, .tup us] S) X Q := by
  refine go_is_rule ?_
  unfold b_is_rule
  cases d with
  | ref _ => simp [DL.pure] at hp
  | scr _ => simp [DL.pure] at hp
  | rng _ _ => simp [DL.pure] at hp
  | tup ws =>
    simp only [DL.pure] at hp
    have hp := pureL_iff.mp hp
    by_cases h1 : ws.length = 2
    · obtain ⟨a, b, rfl⟩ : ∃ a b, ws = [a, b] := by
        match ws, h1 with
        | [a, b], _ => exact ⟨a, b, rfl⟩
      have a0 : atI [a, b] 0 = some a := rfl
      have a1 : atI [a, b] 1 = some b := rfl
      simp only [wS_mSeq, wS_mSet, wS_mRet, wS_mRetN, wS_mDrop, wS_mIf, wS_mSub, wS_mNx, wS_mBrk, wS_mCnt, wS_mAsg, wE_ok, wE_exc, w_var, w_c, w_op, w_T, w_chain, w_tr, w_not, w_and, w_or, w_ite, w_andV, w_orV, w_notV, w_neg, w_nil, w_cons, w_tup, w_call, w_fz, w_al, w_disp, w_callL, w_R1, w_R2, w_rgL, w_rgT, w_itR, w_isi, w_met, w_noP, w_part, w_sl, w_itV, w_itE, w_itZ, w_repL, wE_mLc, wS_mFor, o_addI, o_addT, o_addL, o_sub, o_I, o_mulI, o_mulT, o_mulN, o_B, o_C, o_is, o_eqI, o_ixT, o_ixL, o_ixR, o_slT, o_slL, f_lenT, f_lenL, f_abs, f_int, f_tupL, f_tupT, f_listT, f_listL, f_listS, f_sum, f_sorted, f_append, f_extendL, w_trN, w_getN, w_newD, wS_mSubN, w_disp1, w_itN, w_itT, w_dc, wS_mAsgL, w_sortIt, w_idx, wS_mRz, wS_mTry1, w_fld, w_meth, w_make, wS_mSetF, w_Xf, w_IsX, wS_mIfR, wS_exc, f_rng, w_itG, w_itDn, w_itC, w_lIt, w_lVs, w_sortSet, w_cntT, List.getElem?_cons_zero, List.getElem?_cons_succ, List.set_cons_zero, List.set_cons_succ, Option.some.injEq, exists_eq_left', exists_eq_left, D.int.injEq, D.bl.injEq, D.ref.injEq, MO.lst.injEq, ↓reduceIte, Bool.false_eq_true, Bool.not_true, Bool.not_false, reduceCtorEq, true_and, and_true, List.length_cons, List.length_nil, List.cons_append, List.nil_append, List.map_cons, List.map_nil, Nat.reduceAdd, Nat.zero_add, DL.isNon, kindD, Ty.has, truD, a0, a1, show (((2 : Nat) : Int) == 2) = true from rfl]
      refine between_spec (hp a (by simp)) ?_
      cases hb : btw a 0 5 with
      | false =>
        simp only [wS_mSeq, wS_mSet, wS_mRet, wS_mRetN, wS_mDrop, wS_mIf, wS_mSub, wS_mNx, wS_mBrk, wS_mCnt, wS_mAsg, wE_ok, wE_exc, w_var, w_c, w_op, w_T, w_chain, w_tr, w_not, w_and, w_or, w_ite, w_andV, w_orV, w_notV, w_neg, w_nil, w_cons, w_tup, w_call, w_fz, w_al, w_disp, w_callL, w_R1, w_R2, w_rgL, w_rgT, w_itR, w_isi, w_met, w_noP, w_part, w_sl, w_itV, w_itE, w_itZ, w_repL, wE_mLc, wS_mFor, o_addI, o_addT, o_addL, o_sub, o_I, o_mulI, o_mulT, o_mulN, o_B, o_C, o_is, o_eqI, o_ixT, o_ixL, o_ixR, o_slT, o_slL, f_lenT, f_lenL, f_abs, f_int, f_tupL, f_tupT, f_listT, f_listL, f_listS, f_sum, f_sorted, f_append, f_extendL, w_trN, w_getN, w_newD, wS_mSubN, w_disp1, w_itN, w_itT, w_dc, wS_mAsgL, w_sortIt, w_idx, wS_mRz, wS_mTry1, w_fld, w_meth, w_make, wS_mSetF, w_Xf, w_IsX, wS_mIfR, wS_exc, f_rng, w_itG, w_itDn, w_itC, w_lIt, w_lVs, w_sortSet, w_cntT, List.getElem?_cons_zero, List.getElem?_cons_succ, List.set_cons_zero, List.set_cons_succ, Option.some.injEq, exists_eq_left', exists_eq_left, D.int.injEq, D.bl.injEq, D.ref.injEq, MO.lst.injEq, ↓reduceIte, Bool.false_eq_true, Bool.not_true, Bool.not_false, reduceCtorEq, true_and, and_true, List.length_cons, List.length_nil, List.cons_append, List.nil_append, List.map_cons, List.map_nil, Nat.reduceAdd, Nat.zero_add, DL.isNon, kindD, Ty.has, truD]
        have e : ruleOk (.tup [a, b]) us = false := by
          cases b <;> simp [ruleOk, hb]
        rw [e] at q
        exact wE_fin rfl q
      | true =>
        have pb := hp b (by simp)
        cases b with
        | ref _ => simp [DL.pure] at pb
        | scr _ => simp [DL.pure] at pb
        | rng _ _ => simp [DL.pure] at pb
        | tup rs =>
          simp only [DL.pure] at pb
          have pb := pureL_iff.mp pb
          simp only [wS_mSeq, wS_mSet, wS_mRet, wS_mRetN, wS_mDrop, wS_mIf, wS_mSub, wS_mNx, wS_mBrk, wS_mCnt, wS_mAsg, wE_ok, wE_exc, w_var, w_c, w_op, w_T, w_chain, w_tr, w_not, w_and, w_or, w_ite, w_andV, w_orV, w_notV, w_neg, w_nil, w_cons, w_tup, w_call, w_fz, w_al, w_disp, w_callL, w_R1, w_R2, w_rgL, w_rgT, w_itR, w_isi, w_met, w_noP, w_part, w_sl, w_itV, w_itE, w_itZ, w_repL, wE_mLc, wS_mFor, o_addI, o_addT, o_addL, o_sub, o_I, o_mulI, o_mulT, o_mulN, o_B, o_C, o_is, o_eqI, o_ixT, o_ixL, o_ixR, o_slT, o_slL, f_lenT, f_lenL, f_abs, f_int, f_tupL, f_tupT, f_listT, f_listL, f_listS, f_sum, f_sorted, f_append, f_extendL, w_trN, w_getN, w_newD, wS_mSubN, w_disp1, w_itN, w_itT, w_dc, wS_mAsgL, w_sortIt, w_idx, wS_mRz, wS_mTry1, w_fld, w_meth, w_make, wS_mSetF, w_Xf, w_IsX, wS_mIfR, wS_exc, f_rng, w_itG, w_itDn, w_itC, w_lIt, w_lVs, w_sortSet, w_cntT, List.getElem?_cons_zero, List.getElem?_cons_succ, List.set_cons_zero, List.set_cons_succ, Option.some.injEq, exists_eq_left', exists_eq_left, D.int.injEq, D.bl.injEq, D.ref.injEq, MO.lst.injEq, ↓reduceIte, Bool.false_eq_true, Bool.not_true, Bool.not_false, reduceCtorEq, true_and, and_true, List.length_cons, List.length_nil, List.cons_append, List.nil_append, List.map_cons, List.map_nil, Nat.reduceAdd, Nat.zero_add, DL.isNon, kindD, Ty.has, truD]
          simp only [ruleOk, hb, Bool.true_and] at q
          cases hl2 : ((rs.length : Int) == (us.length : Int)) with
          | false =>
            rw [hl2] at q
            simp only [wS_mSeq, wS_mSet, wS_mRet, wS_mRetN, wS_mDrop, wS_mIf, wS_mSub, wS_mNx, wS_mBrk, wS_mCnt, wS_mAsg, wE_ok, wE_exc, w_var, w_c, w_op, w_T, w_chain, w_tr, w_not, w_and, w_or, w_ite, w_andV, w_orV, w_notV, w_neg, w_nil, w_cons, w_tup, w_call, w_fz, w_al, w_disp, w_callL, w_R1, w_R2, w_rgL, w_rgT, w_itR, w_isi, w_met, w_noP, w_part, w_sl, w_itV, w_itE, w_itZ, w_repL, wE_mLc, wS_mFor, o_addI, o_addT, o_addL, o_sub, o_I, o_mulI, o_mulT, o_mulN, o_B, o_C, o_is, o_eqI, o_ixT, o_ixL, o_ixR, o_slT, o_slL, f_lenT, f_lenL, f_abs, f_int, f_tupL, f_tupT, f_listT, f_listL, f_listS, f_sum, f_sorted, f_append, f_extendL, w_trN, w_getN, w_newD, wS_mSubN, w_disp1, w_itN, w_itT, w_dc, wS_mAsgL, w_sortIt, w_idx, wS_mRz, wS_mTry1, w_fld, w_meth, w_make, wS_mSetF, w_Xf, w_IsX, wS_mIfR, wS_exc, f_rng, w_itG, w_itDn, w_itC, w_lIt, w_lVs, w_sortSet, w_cntT, List.getElem?_cons_zero, List.getElem?_cons_succ, List.set_cons_zero, List.set_cons_succ, Option.some.injEq, exists_eq_left', exists_eq_left, D.int.injEq, D.bl.injEq, D.ref.injEq, MO.lst.injEq, ↓reduceIte, Bool.false_eq_true, Bool.not_true, Bool.not_false, reduceCtorEq, true_and, and_true, List.length_cons, List.length_nil, List.cons_append, List.nil_append, List.map_cons, List.map_nil, Nat.reduceAdd, Nat.zero_add, DL.isNon, kindD, Ty.has, truD]
            exact wE_fin rfl q
          | true =>
            rw [hl2, Bool.true_and] at q
            have hle : rs.length = us.length := by
              have z : (rs.length : Int) = us.length := by simpa using hl2
              omega
            simp only [wS_mSeq, wS_mSet, wS_mRet, wS_mRetN, wS_mDrop, wS_mIf, wS_mSub, wS_mNx, wS_mBrk, wS_mCnt, wS_mAsg, wE_ok, wE_exc, w_var, w_c, w_op, w_T, w_chain, w_tr, w_not, w_and, w_or, w_ite, w_andV, w_orV, w_notV, w_neg, w_nil, w_cons, w_tup, w_call, w_fz, w_al, w_disp, w_callL, w_R1, w_R2, w_rgL, w_rgT, w_itR, w_isi, w_met, w_noP, w_part, w_sl, w_itV, w_itE, w_itZ, w_repL, wE_mLc, wS_mFor, o_addI, o_addT, o_addL, o_sub, o_I, o_mulI, o_mulT, o_mulN, o_B, o_C, o_is, o_eqI, o_ixT, o_ixL, o_ixR, o_slT, o_slL, f_lenT, f_lenL, f_abs, f_int, f_tupL, f_tupT, f_listT, f_listL, f_listS, f_sum, f_sorted, f_append, f_extendL, w_trN, w_getN, w_newD, wS_mSubN, w_disp1, w_itN, w_itT, w_dc, wS_mAsgL, w_sortIt, w_idx, wS_mRz, wS_mTry1, w_fld, w_meth, w_make, wS_mSetF, w_Xf, w_IsX, wS_mIfR, wS_exc, f_rng, w_itG, w_itDn, w_itC, w_lIt, w_lVs, w_sortSet, w_cntT, List.getElem?_cons_zero, List.getElem?_cons_succ, List.set_cons_zero, List.set_cons_succ, Option.some.injEq, exists_eq_left', exists_eq_left, D.int.injEq, D.bl.injEq, D.ref.injEq, MO.lst.injEq, ↓reduceIte, Bool.false_eq_true, Bool.not_true, Bool.not_false, reduceCtorEq, true_and, and_true, List.length_cons, List.length_nil, List.cons_append, List.nil_append, List.map_cons, List.map_nil, Nat.reduceAdd, Nat.zero_add, DL.isNon, kindD, Ty.has, truD]
            refine all_wp (f := fieldOk rs) (fun x hx => ?_) (by rw [enumD_length]; exact hl) (wE_fin rfl q)
            obtain ⟨i, u, rfl, hi⟩ := enumD_mem hx
            obtain ⟨w, rfl⟩ := hu u (List.mem_of_getElem? hi)
            have hlt := (List.getElem?_eq_some_iff.mp hi).1
            have hr : rs[i]? = some rs[i] := List.getElem?_eq_getElem (by omega)
            refine ⟨_, rfl, fun X Q q => ?_⟩
            have hat : atI rs (i : Int) = some rs[i] := by rw [atI_nat', hr]
            simp only [wS_mSeq, wS_mSet, wS_mRet, wS_mRetN, wS_mDrop, wS_mIf, wS_mSub, wS_mNx, wS_mBrk, wS_mCnt, wS_mAsg, wE_ok, wE_exc, w_var, w_c, w_op, w_T, w_chain, w_tr, w_not, w_and, w_or, w_ite, w_andV, w_orV, w_notV, w_neg, w_nil, w_cons, w_tup, w_call, w_fz, w_al, w_disp, w_callL, w_R1, w_R2, w_rgL, w_rgT, w_itR, w_isi, w_met, w_noP, w_part, w_sl, w_itV, w_itE, w_itZ, w_repL, wE_mLc, wS_mFor, o_addI, o_addT, o_addL, o_sub, o_I, o_mulI, o_mulT, o_mulN, o_B, o_C, o_is, o_eqI, o_ixT, o_ixL, o_ixR, o_slT, o_slL, f_lenT, f_lenL, f_abs, f_int, f_tupL, f_tupT, f_listT, f_listL, f_listS, f_sum, f_sorted, f_append, f_extendL, w_trN, w_getN, w_newD, wS_mSubN, w_disp1, w_itN, w_itT, w_dc, wS_mAsgL, w_sortIt, w_idx, wS_mRz, wS_mTry1, w_fld, w_meth, w_make, wS_mSetF, w_Xf, w_IsX, wS_mIfR, wS_exc, f_rng, w_itG, w_itDn, w_itC, w_lIt, w_lVs, w_sortSet, w_cntT, List.getElem?_cons_zero, List.getElem?_cons_succ, List.set_cons_zero, List.set_cons_succ, Option.some.injEq, exists_eq_left', exists_eq_left, D.int.injEq, D.bl.injEq, D.ref.injEq, MO.lst.injEq, ↓reduceIte, Bool.false_eq_true, Bool.not_true, Bool.not_false, reduceCtorEq, true_and, and_true, List.length_cons, List.length_nil, List.cons_append, List.nil_append, List.map_cons, List.map_nil, Nat.reduceAdd, Nat.zero_add, wipeD, a1, hat]
            simp only [fieldOk, hat] at q
            exact range_spec (pb _ (List.getElem_mem _)) q
        | _ =>
          simp only [wS_mSeq, wS_mSet, wS_mRet, wS_mRetN, wS_mDrop, wS_mIf, wS_mSub, wS_mNx, wS_mBrk, wS_mCnt, wS_mAsg, wE_ok, wE_exc, w_var, w_c, w_op, w_T, w_chain, w_tr, w_not, w_and, w_or, w_ite, w_andV, w_orV, w_notV, w_neg, w_nil, w_cons, w_tup, w_call, w_fz, w_al, w_disp, w_callL, w_R1, w_R2, w_rgL, w_rgT, w_itR, w_isi, w_met, w_noP, w_part, w_sl, w_itV, w_itE, w_itZ, w_repL, wE_mLc, wS_mFor, o_addI, o_addT, o_addL, o_sub, o_I, o_mulI, o_mulT, o_mulN, o_B, o_C, o_is, o_eqI, o_ixT, o_ixL, o_ixR, o_slT, o_slL, f_lenT, f_lenL, f_abs, f_int, f_tupL, f_tupT, f_listT, f_listL, f_listS, f_sum, f_sorted, f_append, f_extendL, w_trN, w_getN, w_newD, wS_mSubN, w_disp1, w_itN, w_itT, w_dc, wS_mAsgL, w_sortIt, w_idx, wS_mRz, wS_mTry1, w_fld, w_meth, w_make, wS_mSetF, w_Xf, w_IsX, wS_mIfR, wS_exc, f_rng, w_itG, w_itDn, w_itC, w_lIt, w_lVs, w_sortSet, w_cntT, List.getElem?_cons_zero, List.getElem?_cons_succ, List.set_cons_zero, List.set_cons_succ, Option.some.injEq, exists_eq_left', exists_eq_left, D.int.injEq, D.bl.injEq, D.ref.injEq, MO.lst.injEq, ↓reduceIte, Bool.false_eq_true, Bool.not_true, Bool.not_false, reduceCtorEq, true_and, and_true, List.length_cons, List.length_nil, List.cons_append, List.nil_append, List.map_cons, List.map_nil, Nat.reduceAdd, Nat.zero_add, DL.isNon, kindD, Ty.has, truD]
          exact wE_fin rfl q
    · have e : ruleOk (.tup ws) us = false := by
        unfold ruleOk
        split
        · rename_i e; simp at e; subst e; simp at h1
        · rfl
      rw [e] at q
      have h3 : ((ws.length : Int) == 2) = false := by simp; omega
      simp only [wS_mSeq, wS_mSet, wS_mRet, wS_mRetN, wS_mDrop, wS_mIf, wS_mSub, wS_mNx, wS_mBrk, wS_mCnt, wS_mAsg, wE_ok, wE_exc, w_var, w_c, w_op, w_T, w_chain, w_tr, w_not, w_and, w_or, w_ite, w_andV, w_orV, w_notV, w_neg, w_nil, w_cons, w_tup, w_call, w_fz, w_al, w_disp, w_callL, w_R1, w_R2, w_rgL, w_rgT, w_itR, w_isi, w_met, w_noP, w_part, w_sl, w_itV, w_itE, w_itZ, w_repL, wE_mLc, wS_mFor, o_addI, o_addT, o_addL, o_sub, o_I, o_mulI, o_mulT, o_mulN, o_B, o_C, o_is, o_eqI, o_ixT, o_ixL, o_ixR, o_slT, o_slL, f_lenT, f_lenL, f_abs, f_int, f_tupL, f_tupT, f_listT, f_listL, f_listS, f_sum, f_sorted, f_append, f_extendL, w_trN, w_getN, w_newD, wS_mSubN, w_disp1, w_itN, w_itT, w_dc, wS_mAsgL, w_sortIt, w_idx, wS_mRz, wS_mTry1, w_fld, w_meth, w_make, wS_mSetF, w_Xf, w_IsX, wS_mIfR, wS_exc, f_rng, w_itG, w_itDn, w_itC, w_lIt, w_lVs, w_sortSet, w_cntT, List.getElem?_cons_zero, List.getElem?_cons_succ, List.set_cons_zero, List.set_cons_succ, Option.some.injEq, exists_eq_left', exists_eq_left, D.int.injEq, D.bl.injEq, D.ref.injEq, MO.lst.injEq, ↓reduceIte, Bool.false_eq_true, Bool.not_true, Bool.not_false, reduceCtorEq, true_and, and_true, List.length_cons, List.length_nil, List.cons_append, List.nil_append, List.map_cons, List.map_nil, Nat.reduceAdd, Nat.zero_add, DL.isNon, kindD, Ty.has, truD, h3]
      exact wE_fin rfl q
  | _ =>
    simp only [wS_mSeq, wS_mSet, wS_mRet, wS_mRetN, wS_mDrop, wS_mIf, wS_mSub, wS_mNx, wS_mBrk, wS_mCnt, wS_mAsg, wE_ok, wE_exc, w_var, w_c, w_op, w_T, w_chain, w_tr, w_not, w_and, w_or, w_ite, w_andV, w_orV, w_notV, w_neg, w_nil, w_cons, w_tup, w_call, w_fz, w_al, w_disp, w_callL, w_R1, w_R2, w_rgL, w_rgT, w_itR, w_isi, w_met, w_noP, w_part, w_sl, w_itV, w_itE, w_itZ, w_repL, wE_mLc, wS_mFor, o_addI, o_addT, o_addL, o_sub, o_I, o_mulI, o_mulT, o_mulN, o_B, o_C, o_is, o_eqI, o_ixT, o_ixL, o_ixR, o_slT, o_slL, f_lenT, f_lenL, f_abs, f_int, f_tupL, f_tupT, f_listT, f_listL, f_listS, f_sum, f_sorted, f_append, f_extendL, w_trN, w_getN, w_newD, wS_mSubN, w_disp1, w_itN, w_itT, w_dc, wS_mAsgL, w_sortIt, w_idx, wS_mRz, wS_mTry1, w_fld, w_meth, w_make, wS_mSetF, w_Xf, w_IsX, wS_mIfR, wS_exc, f_rng, w_itG, w_itDn, w_itC, w_lIt, w_lVs, w_sortSet, w_cntT, List.getElem?_cons_zero, List.getElem?_cons_succ, List.set_cons_zero, List.set_cons_succ, Option.some.injEq, exists_eq_left', exists_eq_left, D.int.injEq, D.bl.injEq, D.ref.injEq, MO.lst.injEq, ↓reduceIte, Bool.false_eq_true, Bool.not_true, Bool.not_false, reduceCtorEq, true_and, and_true, List.length_cons, List.length_nil, List.cons_append, List.nil_append, List.map_cons, List.map_nil, Nat.reduceAdd, Nat.zero_add, DL.isNon, kindD, Ty.has, truD]
    exact wE_fin rfl q
def listOk (v : D) : Bool := match v with
  | .tup [.tup us, .tup rs, a] => widthsOk (.tup us) && decide ((rs.length : Int) ≤ 7) && btw a 0 5 && rs.all (ruleOk · us)
  | _ => false
theorem list_spec {d : D} {S : Sto} {X : Ex → Sto → Prop} {Q : D → Sto → Prop} (hp : DL.pure d = true) (q : Q (.bl (listOk d)) S) : wE (m_is_list [d] S) X Q := by
  refine go_is_list ?_
  unfold b_is_list
  cases d with
  | ref _ => simp [DL.pure] at hp
  | scr _ => simp [DL.pure] at hp
  | rng _ _ => simp [DL.pure] at hp
  | tup ws =>
    simp only [DL.pure] at hp
    have hp := pureL_iff.mp hp
    by_cases h1 : ws.length = 3
    · obtain ⟨a, b, c, rfl⟩ : ∃ a b c, ws = [a, b, c] := by
        match ws, h1 with
        | [a, b, c], _ => exact ⟨a, b, c, rfl⟩
      have a0 : atI [a, b, c] 0 = some a := rfl
      have a1 : atI [a, b, c] 1 = some b := rfl
      have a2 : atI [a, b, c] 2 = some c := rfl
      simp only [wS_mSeq, wS_mSet, wS_mRet, wS_mRetN, wS_mDrop, wS_mIf, wS_mSub, wS_mNx, wS_mBrk, wS_mCnt, wS_mAsg, wE_ok, wE_exc, w_var, w_c, w_op, w_T, w_chain, w_tr, w_not, w_and, w_or, w_ite, w_andV, w_orV, w_notV, w_neg, w_nil, w_cons, w_tup, w_call, w_fz, w_al, w_disp, w_callL, w_R1, w_R2, w_rgL, w_rgT, w_itR, w_isi, w_met, w_noP, w_part, w_sl, w_itV, w_itE, w_itZ, w_repL, wE_mLc, wS_mFor, o_addI, o_addT, o_addL, o_sub, o_I, o_mulI, o_mulT, o_mulN, o_B, o_C, o_is, o_eqI, o_ixT, o_ixL, o_ixR, o_slT, o_slL, f_lenT, f_lenL, f_abs, f_int, f_tupL, f_tupT, f_listT, f_listL, f_listS, f_sum, f_sorted, f_append, f_extendL, w_trN, w_getN, w_newD, wS_mSubN, w_disp1, w_itN, w_itT, w_dc, wS_mAsgL, w_sortIt, w_idx, wS_mRz, wS_mTry1, w_fld, w_meth, w_make, wS_mSetF, w_Xf, w_IsX, wS_mIfR, wS_exc, f_rng, w_itG, w_itDn, w_itC, w_lIt, w_lVs, w_sortSet, w_cntT, List.getElem?_cons_zero, List.getElem?_cons_succ, List.set_cons_zero, List.set_cons_succ, Option.some.injEq, exists_eq_left', exists_eq_left, D.int.injEq, D.bl.injEq, D.ref.injEq, MO.lst.injEq, ↓reduceIte, Bool.false_eq_true, Bool.not_true, Bool.not_false, reduceCtorEq, true_and, and_true, List.length_cons, List.length_nil, List.cons_append, List.nil_append, List.map_cons, List.map_nil, Nat.reduceAdd, Nat.zero_add, DL.isNon, kindD, Ty.has, truD, a0, a1, a2, show (((3 : Nat) : Int) == 3) = true from rfl]
      refine widths_spec (hp a (by simp)) ?_
      cases hb : widthsOk a with
      | false =>
        simp only [wS_mSeq, wS_mSet, wS_mRet, wS_mRetN, wS_mDrop, wS_mIf, wS_mSub, wS_mNx, wS_mBrk, wS_mCnt, wS_mAsg, wE_ok, wE_exc, w_var, w_c, w_op, w_T, w_chain, w_tr, w_not, w_and, w_or, w_ite, w_andV, w_orV, w_notV, w_neg, w_nil, w_cons, w_tup, w_call, w_fz, w_al, w_disp, w_callL, w_R1, w_R2, w_rgL, w_rgT, w_itR, w_isi, w_met, w_noP, w_part, w_sl, w_itV, w_itE, w_itZ, w_repL, wE_mLc, wS_mFor, o_addI, o_addT, o_addL, o_sub, o_I, o_mulI, o_mulT, o_mulN, o_B, o_C, o_is, o_eqI, o_ixT, o_ixL, o_ixR, o_slT, o_slL, f_lenT, f_lenL, f_abs, f_int, f_tupL, f_tupT, f_listT, f_listL, f_listS, f_sum, f_sorted, f_append, f_extendL, w_trN, w_getN, w_newD, wS_mSubN, w_disp1, w_itN, w_itT, w_dc, wS_mAsgL, w_sortIt, w_idx, wS_mRz, wS_mTry1, w_fld, w_meth, w_make, wS_mSetF, w_Xf, w_IsX, wS_mIfR, wS_exc, f_rng, w_itG, w_itDn, w_itC, w_lIt, w_lVs, w_sortSet, w_cntT, List.getElem?_cons_zero, List.getElem?_cons_succ, List.set_cons_zero, List.set_cons_succ, Option.some.injEq, exists_eq_left', exists_eq_left, D.int.injEq, D.bl.injEq, D.ref.injEq, MO.lst.injEq, ↓reduceIte, Bool.false_eq_true, Bool.not_true, Bool.not_false, reduceCtorEq, true_and, and_true, List.length_cons, List.length_nil, List.cons_append, List.nil_append, List.map_cons, List.map_nil, Nat.reduceAdd, Nat.zero_add, DL.isNon, kindD, Ty.has, truD]
        have e : listOk (.tup [a, b, c]) = false := by
          cases a <;> cases b <;> simp [listOk] <;> simp_all
        rw [e] at q
        exact wE_fin rfl q
      | true =>
        obtain ⟨us, rfl⟩ : ∃ us, a = .tup us := by
          cases a <;> simp [widthsOk] at hb ⊢
        have hus : us.length ≤ 3 ∧ ∀ u ∈ us, ∃ i, u = .int i := by
          simp only [widthsOk, Bool.and_eq_true, decide_eq_true_eq, List.all_eq_true] at hb
          exact ⟨by omega, fun u hu => let ⟨i, e, _⟩ := btw_int (hb.2 u hu); ⟨i, e⟩⟩
        have pb := hp b (by simp)
        cases b with
        | ref _ => simp [DL.pure] at pb
        | scr _ => simp [DL.pure] at pb
        | rng _ _ => simp [DL.pure] at pb
        | tup rs =>
          simp only [DL.pure] at pb
          have pb := pureL_iff.mp pb
          simp only [wS_mSeq, wS_mSet, wS_mRet, wS_mRetN, wS_mDrop, wS_mIf, wS_mSub, wS_mNx, wS_mBrk, wS_mCnt, wS_mAsg, wE_ok, wE_exc, w_var, w_c, w_op, w_T, w_chain, w_tr, w_not, w_and, w_or, w_ite, w_andV, w_orV, w_notV, w_neg, w_nil, w_cons, w_tup, w_call, w_fz, w_al, w_disp, w_callL, w_R1, w_R2, w_rgL, w_rgT, w_itR, w_isi, w_met, w_noP, w_part, w_sl, w_itV, w_itE, w_itZ, w_repL, wE_mLc, wS_mFor, o_addI, o_addT, o_addL, o_sub, o_I, o_mulI, o_mulT, o_mulN, o_B, o_C, o_is, o_eqI, o_ixT, o_ixL, o_ixR, o_slT, o_slL, f_lenT, f_lenL, f_abs, f_int, f_tupL, f_tupT, f_listT, f_listL, f_listS, f_sum, f_sorted, f_append, f_extendL, w_trN, w_getN, w_newD, wS_mSubN, w_disp1, w_itN, w_itT, w_dc, wS_mAsgL, w_sortIt, w_idx, wS_mRz, wS_mTry1, w_fld, w_meth, w_make, wS_mSetF, w_Xf, w_IsX, wS_mIfR, wS_exc, f_rng, w_itG, w_itDn, w_itC, w_lIt, w_lVs, w_sortSet, w_cntT, List.getElem?_cons_zero, List.getElem?_cons_succ, List.set_cons_zero, List.set_cons_succ, Option.some.injEq, exists_eq_left', exists_eq_left, D.int.injEq, D.bl.injEq, D.ref.injEq, MO.lst.injEq, ↓reduceIte, Bool.false_eq_true, Bool.not_true, Bool.not_false, reduceCtorEq, true_and, and_true, List.length_cons, List.length_nil, List.cons_append, List.nil_append, List.map_cons, List.map_nil, Nat.reduceAdd, Nat.zero_add, DL.isNon, kindD, Ty.has, truD]
          simp only [listOk, hb, Bool.true_and] at q
          cases hl2 : decide ((rs.length : Int) ≤ 7) with
          | false =>
            have hl3 : decide ((7 : Int) < (rs.length : Int)) = true := by simp at hl2 ⊢; omega
            rw [hl2] at q
            simp only [wS_mSeq, wS_mSet, wS_mRet, wS_mRetN, wS_mDrop, wS_mIf, wS_mSub, wS_mNx, wS_mBrk, wS_mCnt, wS_mAsg, wE_ok, wE_exc, w_var, w_c, w_op, w_T, w_chain, w_tr, w_not, w_and, w_or, w_ite, w_andV, w_orV, w_notV, w_neg, w_nil, w_cons, w_tup, w_call, w_fz, w_al, w_disp, w_callL, w_R1, w_R2, w_rgL, w_rgT, w_itR, w_isi, w_met, w_noP, w_part, w_sl, w_itV, w_itE, w_itZ, w_repL, wE_mLc, wS_mFor, o_addI, o_addT, o_addL, o_sub, o_I, o_mulI, o_mulT, o_mulN, o_B, o_C, o_is, o_eqI, o_ixT, o_ixL, o_ixR, o_slT, o_slL, f_lenT, f_lenL, f_abs, f_int, f_tupL, f_tupT, f_listT, f_listL, f_listS, f_sum, f_sorted, f_append, f_extendL, w_trN, w_getN, w_newD, wS_mSubN, w_disp1, w_itN, w_itT, w_dc, wS_mAsgL, w_sortIt, w_idx, wS_mRz, wS_mTry1, w_fld, w_meth, w_make, wS_mSetF, w_Xf, w_IsX, wS_mIfR, wS_exc, f_rng, w_itG, w_itDn, w_itC, w_lIt, w_lVs, w_sortSet, w_cntT, List.getElem?_cons_zero, List.getElem?_cons_succ, List.set_cons_zero, List.set_cons_succ, Option.some.injEq, exists_eq_left', exists_eq_left, D.int.injEq, D.bl.injEq, D.ref.injEq, MO.lst.injEq, ↓reduceIte, Bool.false_eq_true, Bool.not_true, Bool.not_false, reduceCtorEq, true_and, and_true, List.length_cons, List.length_nil, List.cons_append, List.nil_append, List.map_cons, List.map_nil, Nat.reduceAdd, Nat.zero_add, DL.isNon, kindD, Ty.has, truD, hl3]
            exact wE_fin rfl q
          | true =>
            have hl4 : rs.length ≤ 7 := by simp at hl2; omega
            have hl3 : decide ((7 : Int) < (rs.length : Int)) = false := by simp; omega
            rw [hl2, Bool.true_and] at q
            simp only [wS_mSeq, wS_mSet, wS_mRet, wS_mRetN, wS_mDrop, wS_mIf, wS_mSub, wS_mNx, wS_mBrk, wS_mCnt, wS_mAsg, wE_ok, wE_exc, w_var, w_c, w_op, w_T, w_chain, w_tr, w_not, w_and, w_or, w_ite, w_andV, w_orV, w_notV, w_neg, w_nil, w_cons, w_tup, w_call, w_fz, w_al, w_disp, w_callL, w_R1, w_R2, w_rgL, w_rgT, w_itR, w_isi, w_met, w_noP, w_part, w_sl, w_itV, w_itE, w_itZ, w_repL, wE_mLc, wS_mFor, o_addI, o_addT, o_addL, o_sub, o_I, o_mulI, o_mulT, o_mulN, o_B, o_C, o_is, o_eqI, o_ixT, o_ixL, o_ixR, o_slT, o_slL, f_lenT, f_lenL, f_abs, f_int, f_tupL, f_tupT, f_listT, f_listL, f_listS, f_sum, f_sorted, f_append, f_extendL, w_trN, w_getN, w_newD, wS_mSubN, w_disp1, w_itN, w_itT, w_dc, wS_mAsgL, w_sortIt, w_idx, wS_mRz, wS_mTry1, w_fld, w_meth, w_make, wS_mSetF, w_Xf, w_IsX, wS_mIfR, wS_exc, f_rng, w_itG, w_itDn, w_itC, w_lIt, w_lVs, w_sortSet, w_cntT, List.getElem?_cons_zero, List.getElem?_cons_succ, List.set_cons_zero, List.set_cons_succ, Option.some.injEq, exists_eq_left', exists_eq_left, D.int.injEq, D.bl.injEq, D.ref.injEq, MO.lst.injEq, ↓reduceIte, Bool.false_eq_true, Bool.not_true, Bool.not_false, reduceCtorEq, true_and, and_true, List.length_cons, List.length_nil, List.cons_append, List.nil_append, List.map_cons, List.map_nil, Nat.reduceAdd, Nat.zero_add, DL.isNon, kindD, Ty.has, truD, hl3]
            refine between_spec (hp c (by simp)) ?_
            cases hc : btw c 0 5 with
            | false =>
              rw [hc] at q
              simp only [wS_mSeq, wS_mSet, wS_mRet, wS_mRetN, wS_mDrop, wS_mIf, wS_mSub, wS_mNx, wS_mBrk, wS_mCnt, wS_mAsg, wE_ok, wE_exc, w_var, w_c, w_op, w_T, w_chain, w_tr, w_not, w_and, w_or, w_ite, w_andV, w_orV, w_notV, w_neg, w_nil, w_cons, w_tup, w_call, w_fz, w_al, w_disp, w_callL, w_R1, w_R2, w_rgL, w_rgT, w_itR, w_isi, w_met, w_noP, w_part, w_sl, w_itV, w_itE, w_itZ, w_repL, wE_mLc, wS_mFor, o_addI, o_addT, o_addL, o_sub, o_I, o_mulI, o_mulT, o_mulN, o_B, o_C, o_is, o_eqI, o_ixT, o_ixL, o_ixR, o_slT, o_slL, f_lenT, f_lenL, f_abs, f_int, f_tupL, f_tupT, f_listT, f_listL, f_listS, f_sum, f_sorted, f_append, f_extendL, w_trN, w_getN, w_newD, wS_mSubN, w_disp1, w_itN, w_itT, w_dc, wS_mAsgL, w_sortIt, w_idx, wS_mRz, wS_mTry1, w_fld, w_meth, w_make, wS_mSetF, w_Xf, w_IsX, wS_mIfR, wS_exc, f_rng, w_itG, w_itDn, w_itC, w_lIt, w_lVs, w_sortSet, w_cntT, List.getElem?_cons_zero, List.getElem?_cons_succ, List.set_cons_zero, List.set_cons_succ, Option.some.injEq, exists_eq_left', exists_eq_left, D.int.injEq, D.bl.injEq, D.ref.injEq, MO.lst.injEq, ↓reduceIte, Bool.false_eq_true, Bool.not_true, Bool.not_false, reduceCtorEq, true_and, and_true, List.length_cons, List.length_nil, List.cons_append, List.nil_append, List.map_cons, List.map_nil, Nat.reduceAdd, Nat.zero_add, DL.isNon, kindD, Ty.has, truD]
              exact wE_fin rfl q
            | true =>
              rw [hc, Bool.true_and] at q
              simp only [wS_mSeq, wS_mSet, wS_mRet, wS_mRetN, wS_mDrop, wS_mIf, wS_mSub, wS_mNx, wS_mBrk, wS_mCnt, wS_mAsg, wE_ok, wE_exc, w_var, w_c, w_op, w_T, w_chain, w_tr, w_not, w_and, w_or, w_ite, w_andV, w_orV, w_notV, w_neg, w_nil, w_cons, w_tup, w_call, w_fz, w_al, w_disp, w_callL, w_R1, w_R2, w_rgL, w_rgT, w_itR, w_isi, w_met, w_noP, w_part, w_sl, w_itV, w_itE, w_itZ, w_repL, wE_mLc, wS_mFor, o_addI, o_addT, o_addL, o_sub, o_I, o_mulI, o_mulT, o_mulN, o_B, o_C, o_is, o_eqI, o_ixT, o_ixL, o_ixR, o_slT, o_slL, f_lenT, f_lenL, f_abs, f_int, f_tupL, f_tupT, f_listT, f_listL, f_listS, f_sum, f_sorted, f_append, f_extendL, w_trN, w_getN, w_newD, wS_mSubN, w_disp1, w_itN, w_itT, w_dc, wS_mAsgL, w_sortIt, w_idx, wS_mRz, wS_mTry1, w_fld, w_meth, w_make, wS_mSetF, w_Xf, w_IsX, wS_mIfR, wS_exc, f_rng, w_itG, w_itDn, w_itC, w_lIt, w_lVs, w_sortSet, w_cntT, List.getElem?_cons_zero, List.getElem?_cons_succ, List.set_cons_zero, List.set_cons_succ, Option.some.injEq, exists_eq_left', exists_eq_left, D.int.injEq, D.bl.injEq, D.ref.injEq, MO.lst.injEq, ↓reduceIte, Bool.false_eq_true, Bool.not_true, Bool.not_false, reduceCtorEq, true_and, and_true, List.length_cons, List.length_nil, List.cons_append, List.nil_append, List.map_cons, List.map_nil, Nat.reduceAdd, Nat.zero_add, DL.isNon, kindD, Ty.has, truD]
              refine all_wp (f := (ruleOk · us)) (fun x hx => ⟨_, rfl, fun X Q q => ?_⟩) (show rs.length ≤ 16777216 by omega) ?_
              · simp only [wS_mSeq, wS_mSet, wS_mRet, wS_mRetN, wS_mDrop, wS_mIf, wS_mSub, wS_mNx, wS_mBrk, wS_mCnt, wS_mAsg, wE_ok, wE_exc, w_var, w_c, w_op, w_T, w_chain, w_tr, w_not, w_and, w_or, w_ite, w_andV, w_orV, w_notV, w_neg, w_nil, w_cons, w_tup, w_call, w_fz, w_al, w_disp, w_callL, w_R1, w_R2, w_rgL, w_rgT, w_itR, w_isi, w_met, w_noP, w_part, w_sl, w_itV, w_itE, w_itZ, w_repL, wE_mLc, wS_mFor, o_addI, o_addT, o_addL, o_sub, o_I, o_mulI, o_mulT, o_mulN, o_B, o_C, o_is, o_eqI, o_ixT, o_ixL, o_ixR, o_slT, o_slL, f_lenT, f_lenL, f_abs, f_int, f_tupL, f_tupT, f_listT, f_listL, f_listS, f_sum, f_sorted, f_append, f_extendL, w_trN, w_getN, w_newD, wS_mSubN, w_disp1, w_itN, w_itT, w_dc, wS_mAsgL, w_sortIt, w_idx, wS_mRz, wS_mTry1, w_fld, w_meth, w_make, wS_mSetF, w_Xf, w_IsX, wS_mIfR, wS_exc, f_rng, w_itG, w_itDn, w_itC, w_lIt, w_lVs, w_sortSet, w_cntT, List.getElem?_cons_zero, List.getElem?_cons_succ, List.set_cons_zero, List.set_cons_succ, Option.some.injEq, exists_eq_left', exists_eq_left, D.int.injEq, D.bl.injEq, D.ref.injEq, MO.lst.injEq, ↓reduceIte, Bool.false_eq_true, Bool.not_true, Bool.not_false, reduceCtorEq, true_and, and_true, List.length_cons, List.length_nil, List.cons_append, List.nil_append, List.map_cons, List.map_nil, Nat.reduceAdd, Nat.zero_add, wipeD, a0]
                exact rule_spec (pb x hx) hus.2 (show us.length ≤ 16777216 by omega) q
              · exact wE_fin rfl q
        | _ =>
          simp only [wS_mSeq, wS_mSet, wS_mRet, wS_mRetN, wS_mDrop, wS_mIf, wS_mSub, wS_mNx, wS_mBrk, wS_mCnt, wS_mAsg, wE_ok, wE_exc, w_var, w_c, w_op, w_T, w_chain, w_tr, w_not, w_and, w_or, w_ite, w_andV, w_orV, w_notV, w_neg, w_nil, w_cons, w_tup, w_call, w_fz, w_al, w_disp, w_callL, w_R1, w_R2, w_rgL, w_rgT, w_itR, w_isi, w_met, w_noP, w_part, w_sl, w_itV, w_itE, w_itZ, w_repL, wE_mLc, wS_mFor, o_addI, o_addT, o_addL, o_sub, o_I, o_mulI, o_mulT, o_mulN, o_B, o_C, o_is, o_eqI, o_ixT, o_ixL, o_ixR, o_slT, o_slL, f_lenT, f_lenL, f_abs, f_int, f_tupL, f_tupT, f_listT, f_listL, f_listS, f_sum, f_sorted, f_append, f_extendL, w_trN, w_getN, w_newD, wS_mSubN, w_disp1, w_itN, w_itT, w_dc, wS_mAsgL, w_sortIt, w_idx, wS_mRz, wS_mTry1, w_fld, w_meth, w_make, wS_mSetF, w_Xf, w_IsX, wS_mIfR, wS_exc, f_rng, w_itG, w_itDn, w_itC, w_lIt, w_lVs, w_sortSet, w_cntT, List.getElem?_cons_zero, List.getElem?_cons_succ, List.set_cons_zero, List.set_cons_succ, Option.some.injEq, exists_eq_left', exists_eq_left, D.int.injEq, D.bl.injEq, D.ref.injEq, MO.lst.injEq, ↓reduceIte, Bool.false_eq_true, Bool.not_true, Bool.not_false, reduceCtorEq, true_and, and_true, List.length_cons, List.length_nil, List.cons_append, List.nil_append, List.map_cons, List.map_nil, Nat.reduceAdd, Nat.zero_add, DL.isNon, kindD, Ty.has, truD]
          exact wE_fin rfl q
    · have e : listOk (.tup ws) = false := by
        unfold listOk
        split
        · rename_i e; simp at e; subst e; simp at h1
        · rfl
      rw [e] at q
      have h3 : ((ws.length : Int) == 3) = false := by simp; omega
      simp only [wS_mSeq, wS_mSet, wS_mRet, wS_mRetN, wS_mDrop, wS_mIf, wS_mSub, wS_mNx, wS_mBrk, wS_mCnt, wS_mAsg, wE_ok, wE_exc, w_var, w_c, w_op, w_T, w_chain, w_tr, w_not, w_and, w_or, w_ite, w_andV, w_orV, w_notV, w_neg, w_nil, w_cons, w_tup, w_call, w_fz, w_al, w_disp, w_callL, w_R1, w_R2, w_rgL, w_rgT, w_itR, w_isi, w_met, w_noP, w_part, w_sl, w_itV, w_itE, w_itZ, w_repL, wE_mLc, wS_mFor, o_addI, o_addT, o_addL, o_sub, o_I, o_mulI, o_mulT, o_mulN, o_B, o_C, o_is, o_eqI, o_ixT, o_ixL, o_ixR, o_slT, o_slL, f_lenT, f_lenL, f_abs, f_int, f_tupL, f_tupT, f_listT, f_listL, f_listS, f_sum, f_sorted, f_append, f_extendL, w_trN, w_getN, w_newD, wS_mSubN, w_disp1, w_itN, w_itT, w_dc, wS_mAsgL, w_sortIt, w_idx, wS_mRz, wS_mTry1, w_fld, w_meth, w_make, wS_mSetF, w_Xf, w_IsX, wS_mIfR, wS_exc, f_rng, w_itG, w_itDn, w_itC, w_lIt, w_lVs, w_sortSet, w_cntT, List.getElem?_cons_zero, List.getElem?_cons_succ, List.set_cons_zero, List.set_cons_succ, Option.some.injEq, exists_eq_left', exists_eq_left, D.int.injEq, D.bl.injEq, D.ref.injEq, MO.lst.injEq, ↓reduceIte, Bool.false_eq_true, Bool.not_true, Bool.not_false, reduceCtorEq, true_and, and_true, List.length_cons, List.length_nil, List.cons_append, List.nil_append, List.map_cons, List.map_nil, Nat.reduceAdd, Nat.zero_add, DL.isNon, kindD, Ty.has, truD, h3]
      exact wE_fin rfl q
  | _ =>
    simp only [wS_mSeq, wS_mSet, wS_mRet, wS_mRetN, wS_mDrop, wS_mIf, wS_mSub, wS_mNx, wS_mBrk, wS_mCnt, wS_mAsg, wE_ok, wE_exc, w_var, w_c, w_op, w_T, w_chain, w_tr, w_not, w_and, w_or, w_ite, w_andV, w_orV, w_notV, w_neg, w_nil, w_cons, w_tup, w_call, w_fz, w_al, w_disp, w_callL, w_R1, w_R2, w_rgL, w_rgT, w_itR, w_isi, w_met, w_noP, w_part, w_sl, w_itV, w_itE, w_itZ, w_repL, wE_mLc, wS_mFor, o_addI, o_addT, o_addL, o_sub, o_I, o_mulI, o_mulT, o_mulN, o_B, o_C, o_is, o_eqI, o_ixT, o_ixL, o_ixR, o_slT, o_slL, f_lenT, f_lenL, f_abs, f_int, f_tupL, f_tupT, f_listT, f_listL, f_listS, f_sum, f_sorted, f_append, f_extendL, w_trN, w_getN, w_newD, wS_mSubN, w_disp1, w_itN, w_itT, w_dc, wS_mAsgL, w_sortIt, w_idx, wS_mRz, wS_mTry1, w_fld, w_meth, w_make, wS_mSetF, w_Xf, w_IsX, wS_mIfR, wS_exc, f_rng, w_itG, w_itDn, w_itC, w_lIt, w_lVs, w_sortSet, w_cntT, List.getElem?_cons_zero, List.getElem?_cons_succ, List.set_cons_zero, List.set_cons_succ, Option.some.injEq, exists_eq_left', exists_eq_left, D.int.injEq, D.bl.injEq, D.ref.injEq, MO.lst.injEq, ↓reduceIte, Bool.false_eq_true, Bool.not_true, Bool.not_false, reduceCtorEq, true_and, and_true, List.length_cons, List.length_nil, List.cons_append, List.nil_append, List.map_cons, List.map_nil, Nat.reduceAdd, Nat.zero_add, DL.isNon, kindD, Ty.has, truD]
    exact wE_fin rfl q
end LW

namespace LW
open PySem PySem.Spec PyProof.Rows L2 DL
/-! ### lists of rules -/
structure LV where
  ws : List Int
  rules : List (Int × List (Int × Int))
  rest : Int
def pairD (r : Int × Int) : D := .tup [.int r.1, .int r.2]
def ruleD (r : Int × List (Int × Int)) : D := .tup [.int r.1, .tup (r.2.map pairD)]
def LV.d (L : LV) : D := .tup [.tup (L.ws.map .int), .tup (L.rules.map ruleD), .int L.rest]
def caseD (c : List Int) : D := .tup (c.map .int)
def fitsW (ws : List Int) (rs : List (Int × Int)) : Prop := rs.length = ws.length ∧ ∀ (i : Nat) (w : Int), ws[i]? = some w → ∃ p, rs[i]? = some p ∧ 0 ≤ p.1 ∧ p.1 ≤ p.2 ∧ p.2 ≤ w - 1
structure LV.Ok (L : LV) : Prop where
  l1 : 1 ≤ L.ws.length
  l2 : L.ws.length ≤ 3
  w : ∀ x ∈ L.ws, 1 ≤ x ∧ x ≤ 8
  n : L.rules.length ≤ 7
  r : ∀ r ∈ L.rules, 0 ≤ r.1 ∧ r.1 ≤ 5 ∧ fitsW L.ws r.2
  a : 0 ≤ L.rest ∧ L.rest ≤ 5
theorem pure_ints (ws : List Int) : pureL (ws.map D.int) = true := pureL_iff.mpr fun y hy' => by obtain ⟨i, _, rfl⟩ := List.mem_map.mp hy'; rfl
theorem pure_pairs (rs : List (Int × Int)) : pureL (rs.map pairD) = true := pureL_iff.mpr fun y hy' => by obtain ⟨i, _, rfl⟩ := List.mem_map.mp hy'; rfl
theorem pure_rule (r : Int × List (Int × Int)) : DL.pure (ruleD r) = true := by simp [ruleD, DL.pure, pureL, pure_pairs]
theorem LV.pure (L : LV) : DL.pure L.d = true := by
  have h : pureL (L.rules.map ruleD) = true := pureL_iff.mpr fun y hy' => by obtain ⟨i, _, rfl⟩ := List.mem_map.mp hy'; exact pure_rule i
  simp [LV.d, DL.pure, pureL, pure_ints, h]
theorem ruleD_ok {ws : List Int} {r : Int × List (Int × Int)} (h1 : 0 ≤ r.1 ∧ r.1 ≤ 5) (h2 : fitsW ws r.2) : ruleOk (ruleD r) (ws.map .int) = true := by
  simp only [ruleOk, ruleD, Bool.and_eq_true]
  refine ⟨⟨by simp [btw, h1], by simp [h2.1]⟩, List.all_eq_true.mpr fun x hx => ?_⟩
  obtain ⟨i, u, rfl, hi⟩ := enumD_mem hx
  rw [List.getElem?_map, Option.map_eq_some_iff] at hi
  obtain ⟨w, hw, rfl⟩ := hi
  obtain ⟨p, hp, h3, h4, h5⟩ := h2.2 i w hw
  have e : atI (r.2.map pairD) (i : Int) = some (pairD p) := by rw [atI_nat', List.getElem?_map, hp]; rfl
  simp only [fieldOk, e]
  simp [pairD, rangeOk, btw]
  omega
theorem LV.Ok.listOk {L : LV} (h : L.Ok) : LW.listOk L.d = true := by
  have h1 := h.l1
  have h2 := h.l2
  have h3 := h.n
  simp only [LW.listOk, LV.d, widthsOk, Bool.and_eq_true, decide_eq_true_eq, List.all_eq_true, List.length_map]
  refine ⟨⟨⟨⟨⟨by omega, by omega⟩, fun x hx => ?_⟩, by omega⟩, by simp [btw, h.a]⟩, fun x hx => ?_⟩
  · obtain ⟨i, hi, rfl⟩ := List.mem_map.mp hx
    simp [btw, h.w i hi]
  · obtain ⟨r, hr, rfl⟩ := List.mem_map.mp hx
    have q := h.r r hr
    exact ruleD_ok ⟨q.1, q.2.1⟩ q.2.2
theorem at0 {x y z : D} : atI [x, y, z] 0 = some x := rfl
theorem at1 {x y z : D} : atI [x, y, z] 1 = some y := rfl
theorem at2 {x y z : D} : atI [x, y, z] 2 = some z := rfl
theorem at20 {x y : D} : atI [x, y] 0 = some x := rfl
theorem at21 {x y : D} : atI [x, y] 1 = some y := rfl
theorem at10 {x : D} : atI [x] 0 = some x := rfl
/-! ### cases -/
def rgI (w : Int) : List Int := (List.range w.toNat).map fun i : Nat => (i : Int)
theorem rgD_rgI {w : Int} : rgD 0 w = (rgI w).map .int := by
  unfold rgD rgI
  rw [List.map_map, Int.sub_zero]
  congr 1
  funext i
  simp
def longer (found : List (List Int)) (w : Int) : List (List Int) := found.flatMap fun c => (rgI w).map fun v => c ++ [v]
def casesL (ws : List Int) : List (List Int) := ws.foldl longer [[]]
theorem longer_len {found : List (List Int)} {w : Int} : (longer found w).length = found.length * w.toNat := by
  unfold longer
  induction found with
  | nil => simp
  | cons c cs ih =>
    rw [List.flatMap_cons, List.length_append, ih]
    simp [rgI, Nat.succ_mul, Nat.add_comm]
theorem case_len : ∀ {ws : List Int} {c : List Int}, c ∈ casesL ws → c.length = ws.length := by
  have key : ∀ (ws : List Int) (found : List (List Int)) (k : Nat), (∀ c ∈ found, c.length = k) → ∀ c ∈ ws.foldl longer found, c.length = k + ws.length := by
    intro ws
    induction ws with
    | nil => intro found k h c hc; simpa using h c hc
    | cons w ws ih =>
      intro found k h c hc
      have := ih (longer found w) (k + 1) (fun c' hc' => by
        unfold longer at hc'
        obtain ⟨c0, h0, h1⟩ := List.mem_flatMap.mp hc'
        obtain ⟨v, _, rfl⟩ := List.mem_map.mp h1
        simp [h c0 h0]) c hc
      simp at this ⊢
      omega
  intro ws c hc
  have := key ws [[]] 0 (by simp) c hc
  omega
theorem cases_len {ws : List Int} (h : ∀ x ∈ ws, x ≤ 8) : (casesL ws).length ≤ 8 ^ ws.length := by
  have key : ∀ (ws : List Int) (found : List (List Int)), (∀ x ∈ ws, x ≤ 8) → (ws.foldl longer found).length ≤ found.length * 8 ^ ws.length := by
    intro ws
    induction ws with
    | nil => intro found _; simp
    | cons w ws ih =>
      intro found h
      have h1 := ih (longer found w) fun x hx => h x (List.mem_cons_of_mem _ hx)
      have h2 := h w (List.mem_cons_self ..)
      rw [longer_len] at h1
      refine Nat.le_trans h1 ?_
      rw [List.length_cons, Nat.pow_succ, Nat.mul_assoc, Nat.mul_comm (8 ^ ws.length) 8]
      exact Nat.mul_le_mul_left _ (Nat.mul_le_mul_right _ (by omega))
  simpa [casesL] using key ws [[]] h
theorem lc_map_eq {T1 : Tg} {elt : ME} {r : EnvD} {f : D → D} {S : Sto} : ∀ {ds acc : List D}, (∀ d ∈ ds, ∃ r', tgSet T1 d r = some r' ∧ elt r' S = .ok (f d) S) → acc.length + ds.length ≤ 16777216 → foldL none (lcStep T1 mYes elt r) ds acc S = .ok (acc ++ ds.map f) S
  | [], acc, h, hl => by rw [foldL_nil]; simp
  | d :: ds, acc, h, hl => by
    obtain ⟨r', e1, e2⟩ := h d (List.mem_cons_self ..)
    rw [foldL_cons]
    have hl2 : acc.length + (ds.length + 1) ≤ 16777216 := hl
    have e : lcStep T1 mYes elt r d acc S = .ok (acc ++ [f d]) S := by
      simp only [lcStep, e1, mYes, if_true, lcPush, e2, if_pos (show acc.length < 16777216 by omega)]
    rw [e]
    show foldL none _ ds (acc ++ [f d]) S = _
    rw [lc_map_eq (fun d' hd' => h d' (List.mem_cons_of_mem _ hd')) (by rw [List.length_append]; show acc.length + 1 + ds.length ≤ _; omega)]
    simp
theorem flat_wp {T : Tg} {it1 : MI} {T1 : Tg} {elt : ME} {vs1 : List Nat} {rho : EnvD} {F : D → List D} {S : Sto} {X : Ex → Sto → Prop} {QL : List D → Sto → Prop} : ∀ {ds acc : List D}, (∀ d ∈ ds, ∀ acc : List D, acc.length + (F d).length ≤ 16777216 → lc2Step T mYes it1 T1 mYes elt vs1 rho d acc S = .ok (acc ++ F d) S) → (acc ++ ds.flatMap F).length ≤ 16777216 → QL (acc ++ ds.flatMap F) S → wE (foldL none (lc2Step T mYes it1 T1 mYes elt vs1 rho) ds acc S) X QL
  | [], acc, h, hl, q => by rw [foldL_nil, wE_ok]; simpa using q
  | d :: ds, acc, h, hl, q => by
    rw [List.flatMap_cons, ← List.append_assoc] at q hl
    rw [foldL_cons, h d (List.mem_cons_self ..) acc (by rw [List.length_append, List.length_append] at hl; omega)]
    exact flat_wp (fun d' hd' => h d' (List.mem_cons_of_mem _ hd')) hl q
theorem wE_mLc2 {it : MI} {T : Tg} {tt : MB} {it1 : MI} {T1 : Tg} {tt1 : MB} {elt : ME} {vs vs1 : List Nat} {rho : EnvD} {S : Sto} {X : Ex → Sto → Prop} {Q : List D → Sto → Prop} : wE (mLc2 it T tt it1 T1 tt1 elt vs vs1 rho S) X Q = wE (it rho S) X fun a S1 => wE (foldL a.1 (lc2Step T tt it1 T1 tt1 elt vs1 (wipeD rho vs)) a.2 [] S1) X Q := by unfold mLc2; rw [wE_bind]
theorem cases_spec {ws : List Int} {S : Sto} {X : Ex → Sto → Prop} {Q : D → Sto → Prop} (hn : ws.length ≤ 3) (hw : ∀ x ∈ ws, 1 ≤ x ∧ x ≤ 8) (q : Q (.lst ((casesL ws).map caseD)) S) : wE (m_cases_of [.tup (ws.map .int)] S) X Q := by
  refine go_cases_of ?_
  unfold b_cases_of
  simp only [wS_mSeq, wS_mSet, wS_mRet, wS_mRetN, wS_mDrop, wS_mIf, wS_mSub, wS_mNx, wS_mBrk, wS_mCnt, wS_mAsg, wE_ok, wE_exc, w_var, w_c, w_op, w_T, w_chain, w_tr, w_not, w_and, w_or, w_ite, w_andV, w_orV, w_notV, w_neg, w_nil, w_cons, w_tup, w_call, w_fz, w_al, w_disp, w_callL, w_R1, w_R2, w_rgL, w_rgT, w_itR, w_isi, w_met, w_noP, w_part, w_sl, w_itV, w_itE, w_itZ, w_repL, wE_mLc, wS_mFor, o_addI, o_addT, o_addL, o_sub, o_I, o_mulI, o_mulT, o_mulN, o_B, o_C, o_is, o_eqI, o_ixT, o_ixL, o_ixR, o_slT, o_slL, f_lenT, f_lenL, f_abs, f_int, f_tupL, f_tupT, f_listT, f_listL, f_listS, f_sum, f_sorted, f_append, f_extendL, w_trN, w_getN, w_newD, wS_mSubN, w_disp1, w_itN, w_itT, w_dc, wS_mAsgL, w_sortIt, w_idx, wS_mRz, wS_mTry1, w_fld, w_meth, w_make, wS_mSetF, w_Xf, w_IsX, wS_mIfR, wS_exc, f_rng, w_itG, w_itDn, w_itC, w_lIt, w_lVs, w_sortSet, w_cntT, List.getElem?_cons_zero, List.getElem?_cons_succ, List.set_cons_zero, List.set_cons_succ, Option.some.injEq, exists_eq_left', exists_eq_left, D.int.injEq, D.bl.injEq, D.ref.injEq, MO.lst.injEq, ↓reduceIte, Bool.false_eq_true, Bool.not_true, Bool.not_false, reduceCtorEq, true_and, and_true, List.length_cons, List.length_nil, List.cons_append, List.nil_append, List.map_cons, List.map_nil, Nat.reduceAdd, Nat.zero_add]
  refine ⟨by decide, by decide, ?_⟩
  refine loop_wp (I := fun rest rho S' => ∃ a b x3 x4 x5, ws = a ++ b ∧ rest = b.map .int ∧ rho = [some (.tup (ws.map .int)), some (.lst ((casesL a).map caseD)), x3, x4, x5] ∧ S' = S) (fun d rest rho S' hI => ?_) ⟨[], ws, _, _, _, rfl, rfl, rfl, rfl⟩ fun rho S' hI => ?_
  · obtain ⟨a, b, x3, x4, x5, e, hb, rfl, rfl⟩ := hI
    cases b with
    | nil => cases hb
    | cons w b =>
      obtain ⟨rfl, rfl⟩ := List.cons.inj hb
      simp only [tgSet, wS_mSet, w_fz, wE_mLc2]
      simp only [wS_mSeq, wS_mSet, wS_mRet, wS_mRetN, wS_mDrop, wS_mIf, wS_mSub, wS_mNx, wS_mBrk, wS_mCnt, wS_mAsg, wE_ok, wE_exc, w_var, w_c, w_op, w_T, w_chain, w_tr, w_not, w_and, w_or, w_ite, w_andV, w_orV, w_notV, w_neg, w_nil, w_cons, w_tup, w_call, w_fz, w_al, w_disp, w_callL, w_R1, w_R2, w_rgL, w_rgT, w_itR, w_isi, w_met, w_noP, w_part, w_sl, w_itV, w_itE, w_itZ, w_repL, wE_mLc, wS_mFor, o_addI, o_addT, o_addL, o_sub, o_I, o_mulI, o_mulT, o_mulN, o_B, o_C, o_is, o_eqI, o_ixT, o_ixL, o_ixR, o_slT, o_slL, f_lenT, f_lenL, f_abs, f_int, f_tupL, f_tupT, f_listT, f_listL, f_listS, f_sum, f_sorted, f_append, f_extendL, w_trN, w_getN, w_newD, wS_mSubN, w_disp1, w_itN, w_itT, w_dc, wS_mAsgL, w_sortIt, w_idx, wS_mRz, wS_mTry1, w_fld, w_meth, w_make, wS_mSetF, w_Xf, w_IsX, wS_mIfR, wS_exc, f_rng, w_itG, w_itDn, w_itC, w_lIt, w_lVs, w_sortSet, w_cntT, List.getElem?_cons_zero, List.getElem?_cons_succ, List.set_cons_zero, List.set_cons_succ, Option.some.injEq, exists_eq_left', exists_eq_left, D.int.injEq, D.bl.injEq, D.ref.injEq, MO.lst.injEq, ↓reduceIte, Bool.false_eq_true, Bool.not_true, Bool.not_false, reduceCtorEq, true_and, and_true, List.length_cons, List.length_nil, List.cons_append, List.nil_append, List.map_cons, List.map_nil, Nat.reduceAdd, Nat.zero_add, wipeD]
      have hwm := hw w (by rw [e]; simp)
      have ha : (casesL (a ++ [w])) = longer (casesL a) w := by simp [casesL, List.foldl_append]
      have hl : a.length ≤ 2 := by have := congrArg List.length e; simp at this; omega
      have hc : (casesL a).length ≤ 64 := by
        have h1 := cases_len (ws := a) fun x hx => (hw x (by rw [e]; simp [hx])).2
        have h2 : 8 ^ a.length ≤ 8 ^ 2 := Nat.pow_le_pow_right (by decide) hl
        omega
      have eF : ((casesL a).map caseD).flatMap (fun d => (rgD 0 w).map fun v => match d, v with | .tup c, v => .tup (c ++ [v]) | _, _ => .non) = (longer (casesL a) w).map caseD := by
        unfold longer
        rw [List.flatMap_map, List.map_flatMap, rgD_rgI]
        congr 1
        funext c
        rw [List.map_map, List.map_map]
        congr 1
        funext v
        simp [caseD]
      refine flat_wp (F := fun d => (rgD 0 w).map fun v => match d, v with | .tup c, v => .tup (c ++ [v]) | _, _ => .non) (fun d hd acc hacc => ?_) ?_ ?_
      · obtain ⟨c, hc', rfl⟩ := List.mem_map.mp hd
        have hcl := case_len hc'
        rw [List.length_map] at hacc
        have hit : mItR (mR1 (mVar 2)) [some (.tup (ws.map .int)), some (.lst ((casesL a).map caseD)), some (.int w), some (caseD c), none] S' = .ok (none, rgD 0 w) S' := by
          show (if _ then _ else _) = _
          rw [if_pos (by show (-4611686018427387904 : Int) ≤ 0 ∧ (0 : Int) < 4611686018427387904 ∧ -4611686018427387904 ≤ w ∧ w < 4611686018427387904; omega)]
        simp only [lc2Step, tgSet, mYes, if_true, List.set_cons_succ, List.set_cons_zero, hit]
        refine lc_map_eq (fun v hv => ?_) hacc
        obtain ⟨i, rfl, _, _⟩ := rgD_mem hv
        refine ⟨_, rfl, ?_⟩
        show (if _ then _ else _) = _
        rw [if_pos (by show (c.map D.int).length + 1 ≤ 16777216; simp; omega)]
        rfl
      · rw [List.nil_append, eF, List.length_map, longer_len]
        have : (casesL a).length * w.toNat ≤ 64 * 8 := Nat.mul_le_mul hc (by omega)
        omega
      · rw [List.nil_append, eF, ← ha]
        exact ⟨a ++ [w], b, _, _, _, by rw [e]; simp, rfl, rfl, rfl⟩
  · obtain ⟨a, b, x3, x4, x5, e, hb, rfl, rfl⟩ := hI
    have : b = [] := by simpa using hb.symm
    subst this
    rw [List.append_nil] at e
    subst e
    exact ⟨_, rfl, wE_fin rfl q⟩
end LW

namespace LW
open PySem PySem.Spec PyProof.Rows L2 DL
open Classical in
noncomputable def matchB (rs : List (Int × Int)) (c : List Int) : Bool := decide (∀ (i : Nat) (v : Int), c[i]? = some v → ∃ p, rs[i]? = some p ∧ p.1 ≤ v ∧ v ≤ p.2)
def inP (p : Option (Int × Int)) (v : Int) : Bool := match p with
  | some p => decide (p.1 ≤ v) && decide (v ≤ p.2)
  | none => false
def fE (rs : List (Int × Int)) (x : D) : Bool := match x with
  | .tup [.int i, .int v] => inP rs[i.toNat]? v
  | _ => false
def fR (rs : List (Int × Int)) (c : List Int) (x : D) : Bool := match x with
  | .int i => (match c[i.toNat]? with
    | some v => inP rs[i.toNat]? v
    | none => false)
  | _ => false
theorem inP_iff {p : Option (Int × Int)} {v : Int} : inP p v = true ↔ ∃ q, p = some q ∧ q.1 ≤ v ∧ v ≤ q.2 := by
  cases p <;> simp [inP]
theorem matchB_iff {rs : List (Int × Int)} {c : List Int} : matchB rs c = true ↔ ∀ (i : Nat) (v : Int), c[i]? = some v → ∃ p, rs[i]? = some p ∧ p.1 ≤ v ∧ v ≤ p.2 := by
  unfold matchB; simp only [decide_eq_true_eq]
theorem all_fE {rs : List (Int × Int)} {c : List Int} : (enumD 0 (c.map .int)).all (fE rs) = matchB rs c := by
  rw [Bool.eq_iff_iff, matchB_iff, List.all_eq_true]
  constructor
  · intro h i v hi
    have hx : D.tup [.int (i : Int), .int v] ∈ enumD 0 (c.map .int) := by
      obtain ⟨h1, h2⟩ := List.getElem?_eq_some_iff.mp hi
      have hl : i < (enumD 0 (c.map D.int)).length := by rw [enumD_length]; simpa using h1
      obtain ⟨d, e2, e3⟩ := enumD_get 0 (c.map .int) i _ (List.getElem?_eq_getElem hl)
      rw [List.getElem?_map, hi] at e2
      cases e2
      rw [Nat.zero_add] at e3
      rw [← e3]; exact List.getElem_mem _
    have := h _ hx
    simp only [fE, Int.toNat_natCast] at this
    exact inP_iff.mp this
  · intro h x hx
    obtain ⟨i, d, rfl, hi⟩ := enumD_mem hx
    rw [List.getElem?_map, Option.map_eq_some_iff] at hi
    obtain ⟨v, hv, rfl⟩ := hi
    simp only [fE, Int.toNat_natCast]
    exact inP_iff.mpr (h i v hv)
theorem all_fR {rs : List (Int × Int)} {c : List Int} : (rgD 0 c.length).all (fR rs c) = matchB rs c := by
  rw [Bool.eq_iff_iff, matchB_iff, List.all_eq_true]
  constructor
  · intro h i v hi
    obtain ⟨h1, h2⟩ := List.getElem?_eq_some_iff.mp hi
    have := h (.int i) (by unfold rgD; exact List.mem_map.mpr ⟨i, by simpa using h1, by simp⟩)
    simp only [fR, Int.toNat_natCast, hi] at this
    exact inP_iff.mp this
  · intro h x hx
    obtain ⟨i, rfl, h0, h1⟩ := rgD_mem hx
    have h2 : c[i.toNat]? = some c[i.toNat] := List.getElem?_eq_getElem (by omega)
    simp only [fR, h2]
    exact inP_iff.mpr (h _ _ h2)
theorem atI_map {α : Type} {f : α → D} {xs : List α} {i : Nat} {x : α} (h : xs[i]? = some x) : atI (xs.map f) (i : Int) = some (f x) := by
  rw [atI_nat', List.getElem?_map, h]; rfl
theorem rules_at {L : LV} {n : Nat} {r : Int × List (Int × Int)} (h : L.rules[n]? = some r) : atI (L.rules.map ruleD) (n : Int) = some (ruleD r) := atI_map h
theorem matches_spec {L : LV} {n : Nat} {c : List Int} {r : Int × List (Int × Int)} {S : Sto} {X : Ex → Sto → Prop} {Q : D → Sto → Prop} (hr : L.rules[n]? = some r) (hl : r.2.length = c.length) (hc : c.length ≤ 3) (q : Q (.bl (matchB r.2 c)) S) : wE (m_matches_in [L.d, .int n, caseD c] S) X Q := by
  refine go_matches_in ?_
  unfold b_matches_in
  have e := rules_at hr
  simp only [wS_mSeq, wS_mSet, wS_mRet, wS_mRetN, wS_mDrop, wS_mIf, wS_mSub, wS_mNx, wS_mBrk, wS_mCnt, wS_mAsg, wE_ok, wE_exc, w_var, w_c, w_op, w_T, w_chain, w_tr, w_not, w_and, w_or, w_ite, w_andV, w_orV, w_notV, w_neg, w_nil, w_cons, w_tup, w_call, w_fz, w_al, w_disp, w_callL, w_R1, w_R2, w_rgL, w_rgT, w_itR, w_isi, w_met, w_noP, w_part, w_sl, w_itV, w_itE, w_itZ, w_repL, wE_mLc, wS_mFor, o_addI, o_addT, o_addL, o_sub, o_I, o_mulI, o_mulT, o_mulN, o_B, o_C, o_is, o_eqI, o_ixT, o_ixL, o_ixR, o_slT, o_slL, f_lenT, f_lenL, f_abs, f_int, f_tupL, f_tupT, f_listT, f_listL, f_listS, f_sum, f_sorted, f_append, f_extendL, w_trN, w_getN, w_newD, wS_mSubN, w_disp1, w_itN, w_itT, w_dc, wS_mAsgL, w_sortIt, w_idx, wS_mRz, wS_mTry1, w_fld, w_meth, w_make, wS_mSetF, w_Xf, w_IsX, wS_mIfR, wS_exc, f_rng, w_itG, w_itDn, w_itC, w_lIt, w_lVs, w_sortSet, w_cntT, List.getElem?_cons_zero, List.getElem?_cons_succ, List.set_cons_zero, List.set_cons_succ, Option.some.injEq, exists_eq_left', exists_eq_left, D.int.injEq, D.bl.injEq, D.ref.injEq, MO.lst.injEq, ↓reduceIte, Bool.false_eq_true, Bool.not_true, Bool.not_false, reduceCtorEq, true_and, and_true, List.length_cons, List.length_nil, List.cons_append, List.nil_append, List.map_cons, List.map_nil, Nat.reduceAdd, Nat.zero_add, LV.d, caseD, at0, at1, at2, e, ruleD, at20, at21]
  refine all_wp (f := fE r.2) (fun x hx => ?_) (by rw [enumD_length]; simp; omega) (wE_fin rfl (by rw [all_fE]; exact q))
  obtain ⟨i, d, rfl, hi⟩ := enumD_mem hx
  rw [List.getElem?_map, Option.map_eq_some_iff] at hi
  obtain ⟨v, hv, rfl⟩ := hi
  obtain ⟨h1, _⟩ := List.getElem?_eq_some_iff.mp hv
  have hp : r.2[i]? = some r.2[i] := List.getElem?_eq_getElem (by omega)
  refine ⟨_, rfl, fun X Q q => ?_⟩
  simp only [wS_mSeq, wS_mSet, wS_mRet, wS_mRetN, wS_mDrop, wS_mIf, wS_mSub, wS_mNx, wS_mBrk, wS_mCnt, wS_mAsg, wE_ok, wE_exc, w_var, w_c, w_op, w_T, w_chain, w_tr, w_not, w_and, w_or, w_ite, w_andV, w_orV, w_notV, w_neg, w_nil, w_cons, w_tup, w_call, w_fz, w_al, w_disp, w_callL, w_R1, w_R2, w_rgL, w_rgT, w_itR, w_isi, w_met, w_noP, w_part, w_sl, w_itV, w_itE, w_itZ, w_repL, wE_mLc, wS_mFor, o_addI, o_addT, o_addL, o_sub, o_I, o_mulI, o_mulT, o_mulN, o_B, o_C, o_is, o_eqI, o_ixT, o_ixL, o_ixR, o_slT, o_slL, f_lenT, f_lenL, f_abs, f_int, f_tupL, f_tupT, f_listT, f_listL, f_listS, f_sum, f_sorted, f_append, f_extendL, w_trN, w_getN, w_newD, wS_mSubN, w_disp1, w_itN, w_itT, w_dc, wS_mAsgL, w_sortIt, w_idx, wS_mRz, wS_mTry1, w_fld, w_meth, w_make, wS_mSetF, w_Xf, w_IsX, wS_mIfR, wS_exc, f_rng, w_itG, w_itDn, w_itC, w_lIt, w_lVs, w_sortSet, w_cntT, List.getElem?_cons_zero, List.getElem?_cons_succ, List.set_cons_zero, List.set_cons_succ, Option.some.injEq, exists_eq_left', exists_eq_left, D.int.injEq, D.bl.injEq, D.ref.injEq, MO.lst.injEq, ↓reduceIte, Bool.false_eq_true, Bool.not_true, Bool.not_false, reduceCtorEq, true_and, and_true, List.length_cons, List.length_nil, List.cons_append, List.nil_append, List.map_cons, List.map_nil, Nat.reduceAdd, Nat.zero_add, wipeD, tgSet, atI_map hp, pairD, at20, at21]
  simp only [fE, Int.toNat_natCast, hp, inP] at q
  split
  · rename_i h; rw [h, Bool.true_and] at q; exact q
  · rename_i h; rw [Bool.not_eq_true] at h; rw [h, Bool.false_and] at q; exact q
theorem lmatches_spec {c : List Int} {r : Int × List (Int × Int)} {S : Sto} {X : Ex → Sto → Prop} {Q : D → Sto → Prop} (hl : r.2.length = c.length) (hc : c.length ≤ 3) (q : Q (.bl (matchB r.2 c)) S) : wE (m__law_matches [ruleD r, caseD c] S) X Q := by
  refine go__law_matches ?_
  unfold b__law_matches
  simp only [wS_mSeq, wS_mSet, wS_mRet, wS_mRetN, wS_mDrop, wS_mIf, wS_mSub, wS_mNx, wS_mBrk, wS_mCnt, wS_mAsg, wE_ok, wE_exc, w_var, w_c, w_op, w_T, w_chain, w_tr, w_not, w_and, w_or, w_ite, w_andV, w_orV, w_notV, w_neg, w_nil, w_cons, w_tup, w_call, w_fz, w_al, w_disp, w_callL, w_R1, w_R2, w_rgL, w_rgT, w_itR, w_isi, w_met, w_noP, w_part, w_sl, w_itV, w_itE, w_itZ, w_repL, wE_mLc, wS_mFor, o_addI, o_addT, o_addL, o_sub, o_I, o_mulI, o_mulT, o_mulN, o_B, o_C, o_is, o_eqI, o_ixT, o_ixL, o_ixR, o_slT, o_slL, f_lenT, f_lenL, f_abs, f_int, f_tupL, f_tupT, f_listT, f_listL, f_listS, f_sum, f_sorted, f_append, f_extendL, w_trN, w_getN, w_newD, wS_mSubN, w_disp1, w_itN, w_itT, w_dc, wS_mAsgL, w_sortIt, w_idx, wS_mRz, wS_mTry1, w_fld, w_meth, w_make, wS_mSetF, w_Xf, w_IsX, wS_mIfR, wS_exc, f_rng, w_itG, w_itDn, w_itC, w_lIt, w_lVs, w_sortSet, w_cntT, List.getElem?_cons_zero, List.getElem?_cons_succ, List.set_cons_zero, List.set_cons_succ, Option.some.injEq, exists_eq_left', exists_eq_left, D.int.injEq, D.bl.injEq, D.ref.injEq, MO.lst.injEq, ↓reduceIte, Bool.false_eq_true, Bool.not_true, Bool.not_false, reduceCtorEq, true_and, and_true, List.length_cons, List.length_nil, List.cons_append, List.nil_append, List.map_cons, List.map_nil, Nat.reduceAdd, Nat.zero_add, caseD, at0, at1, at2, ruleD, at20, at21, List.length_map]
  refine ⟨by omega, ?_⟩
  refine all_wp (f := fR r.2 c) (fun x hx => ?_) (by rw [rgD_len]; omega) (wE_fin rfl (by rw [all_fR]; exact q))
  obtain ⟨i, rfl, h0, h1⟩ := rgD_mem hx
  obtain ⟨k, rfl⟩ : ∃ k : Nat, i = k := ⟨i.toNat, by omega⟩
  have hv : c[k]? = some c[k] := List.getElem?_eq_getElem (by omega)
  have hp : r.2[k]? = some r.2[k] := List.getElem?_eq_getElem (by omega)
  refine ⟨_, rfl, fun X Q q => ?_⟩
  simp only [wS_mSeq, wS_mSet, wS_mRet, wS_mRetN, wS_mDrop, wS_mIf, wS_mSub, wS_mNx, wS_mBrk, wS_mCnt, wS_mAsg, wE_ok, wE_exc, w_var, w_c, w_op, w_T, w_chain, w_tr, w_not, w_and, w_or, w_ite, w_andV, w_orV, w_notV, w_neg, w_nil, w_cons, w_tup, w_call, w_fz, w_al, w_disp, w_callL, w_R1, w_R2, w_rgL, w_rgT, w_itR, w_isi, w_met, w_noP, w_part, w_sl, w_itV, w_itE, w_itZ, w_repL, wE_mLc, wS_mFor, o_addI, o_addT, o_addL, o_sub, o_I, o_mulI, o_mulT, o_mulN, o_B, o_C, o_is, o_eqI, o_ixT, o_ixL, o_ixR, o_slT, o_slL, f_lenT, f_lenL, f_abs, f_int, f_tupL, f_tupT, f_listT, f_listL, f_listS, f_sum, f_sorted, f_append, f_extendL, w_trN, w_getN, w_newD, wS_mSubN, w_disp1, w_itN, w_itT, w_dc, wS_mAsgL, w_sortIt, w_idx, wS_mRz, wS_mTry1, w_fld, w_meth, w_make, wS_mSetF, w_Xf, w_IsX, wS_mIfR, wS_exc, f_rng, w_itG, w_itDn, w_itC, w_lIt, w_lVs, w_sortSet, w_cntT, List.getElem?_cons_zero, List.getElem?_cons_succ, List.set_cons_zero, List.set_cons_succ, Option.some.injEq, exists_eq_left', exists_eq_left, D.int.injEq, D.bl.injEq, D.ref.injEq, MO.lst.injEq, ↓reduceIte, Bool.false_eq_true, Bool.not_true, Bool.not_false, reduceCtorEq, true_and, and_true, List.length_cons, List.length_nil, List.cons_append, List.nil_append, List.map_cons, List.map_nil, Nat.reduceAdd, Nat.zero_add, wipeD, tgSet, atI_map hp, atI_map hv, pairD, at20, at21]
  simp only [fR, Int.toNat_natCast, hp, hv, inP] at q
  split
  · rename_i h; rw [h, Bool.true_and] at q; exact q
  · rename_i h; rw [Bool.not_eq_true] at h; rw [h, Bool.false_and] at q; exact q
/-! ### deciding -/
noncomputable def matchN (L : LV) (c : List Int) (n : Nat) : Bool := match L.rules[n]? with
  | some r => matchB r.2 c
  | none => false
def actN (L : LV) (n : Nat) : Int := match L.rules[n]? with
  | some r => r.1
  | none => 0
noncomputable def firstM (L : LV) (row : List Nat) (c : List Int) : Option Nat := row.find? (matchN L c)
def numD : Option Nat → D
  | some n => .int n
  | none => .non
def actO (L : LV) : Option Nat → Int
  | some n => actN L n
  | none => L.rest
def decD (L : LV) (o : Option Nat) : D := .tup [.int (actO L o), numD o]
def rowD (row : List Nat) : List D := row.map fun n : Nat => D.int n
structure Row (L : LV) (row : List Nat) : Prop where
  lt : ∀ n ∈ row, n < L.rules.length
theorem ldecided_spec {L : LV} {row : List Nat} {c : List Int} {S : Sto} {X : Ex → Sto → Prop} {Q : D → Sto → Prop} (h : L.Ok) (hrow : ∀ n ∈ row, n < L.rules.length) (hc : c.length = L.ws.length) (q : Q (decD L (firstM L row c)) S) : wE (m__law_decided [L.d, .tup (rowD row), caseD c] S) X Q := by
  refine go__law_decided ?_
  unfold b__law_decided
  have h2 := h.l2
  simp only [wS_mSeq, wS_mSet, wS_mRet, wS_mRetN, wS_mDrop, wS_mIf, wS_mSub, wS_mNx, wS_mBrk, wS_mCnt, wS_mAsg, wE_ok, wE_exc, w_var, w_c, w_op, w_T, w_chain, w_tr, w_not, w_and, w_or, w_ite, w_andV, w_orV, w_notV, w_neg, w_nil, w_cons, w_tup, w_call, w_fz, w_al, w_disp, w_callL, w_R1, w_R2, w_rgL, w_rgT, w_itR, w_isi, w_met, w_noP, w_part, w_sl, w_itV, w_itE, w_itZ, w_repL, wE_mLc, wS_mFor, o_addI, o_addT, o_addL, o_sub, o_I, o_mulI, o_mulT, o_mulN, o_B, o_C, o_is, o_eqI, o_ixT, o_ixL, o_ixR, o_slT, o_slL, f_lenT, f_lenL, f_abs, f_int, f_tupL, f_tupT, f_listT, f_listL, f_listS, f_sum, f_sorted, f_append, f_extendL, w_trN, w_getN, w_newD, wS_mSubN, w_disp1, w_itN, w_itT, w_dc, wS_mAsgL, w_sortIt, w_idx, wS_mRz, wS_mTry1, w_fld, w_meth, w_make, wS_mSetF, w_Xf, w_IsX, wS_mIfR, wS_exc, f_rng, w_itG, w_itDn, w_itC, w_lIt, w_lVs, w_sortSet, w_cntT, List.getElem?_cons_zero, List.getElem?_cons_succ, List.set_cons_zero, List.set_cons_succ, Option.some.injEq, exists_eq_left', exists_eq_left, D.int.injEq, D.bl.injEq, D.ref.injEq, MO.lst.injEq, ↓reduceIte, Bool.false_eq_true, Bool.not_true, Bool.not_false, reduceCtorEq, true_and, and_true, List.length_cons, List.length_nil, List.cons_append, List.nil_append, List.map_cons, List.map_nil, Nat.reduceAdd, Nat.zero_add]
  refine loop_wp (I := fun rest rho S' => ∃ b x3, (∀ n ∈ b, n < L.rules.length) ∧ rest = rowD b ∧ firstM L row c = firstM L b c ∧ rho = [some L.d, some (.tup (rowD row)), some (caseD c), x3] ∧ S' = S) (fun d rest rho S' hI => ?_) ⟨row, _, hrow, rfl, rfl, rfl, rfl⟩ fun rho S' hI => ?_
  · obtain ⟨b, x3, hb, e, ef, rfl, rfl⟩ := hI
    cases b with
    | nil => cases e
    | cons n b =>
      obtain ⟨rfl, rfl⟩ := List.cons.inj e
      have hn := hb n (List.mem_cons_self ..)
      have hr : L.rules[n]? = some L.rules[n] := List.getElem?_eq_getElem hn
      have hk := h.r _ (List.getElem_mem hn)
      have hm : matchN L c n = matchB L.rules[n].2 c := by unfold matchN; rw [hr]
      simp only [tgSet, wS_mSeq, wS_mSet, wS_mRet, wS_mRetN, wS_mDrop, wS_mIf, wS_mSub, wS_mNx, wS_mBrk, wS_mCnt, wS_mAsg, wE_ok, wE_exc, w_var, w_c, w_op, w_T, w_chain, w_tr, w_not, w_and, w_or, w_ite, w_andV, w_orV, w_notV, w_neg, w_nil, w_cons, w_tup, w_call, w_fz, w_al, w_disp, w_callL, w_R1, w_R2, w_rgL, w_rgT, w_itR, w_isi, w_met, w_noP, w_part, w_sl, w_itV, w_itE, w_itZ, w_repL, wE_mLc, wS_mFor, o_addI, o_addT, o_addL, o_sub, o_I, o_mulI, o_mulT, o_mulN, o_B, o_C, o_is, o_eqI, o_ixT, o_ixL, o_ixR, o_slT, o_slL, f_lenT, f_lenL, f_abs, f_int, f_tupL, f_tupT, f_listT, f_listL, f_listS, f_sum, f_sorted, f_append, f_extendL, w_trN, w_getN, w_newD, wS_mSubN, w_disp1, w_itN, w_itT, w_dc, wS_mAsgL, w_sortIt, w_idx, wS_mRz, wS_mTry1, w_fld, w_meth, w_make, wS_mSetF, w_Xf, w_IsX, wS_mIfR, wS_exc, f_rng, w_itG, w_itDn, w_itC, w_lIt, w_lVs, w_sortSet, w_cntT, List.getElem?_cons_zero, List.getElem?_cons_succ, List.set_cons_zero, List.set_cons_succ, Option.some.injEq, exists_eq_left', exists_eq_left, D.int.injEq, D.bl.injEq, D.ref.injEq, MO.lst.injEq, ↓reduceIte, Bool.false_eq_true, Bool.not_true, Bool.not_false, reduceCtorEq, true_and, and_true, List.length_cons, List.length_nil, List.cons_append, List.nil_append, List.map_cons, List.map_nil, Nat.reduceAdd, Nat.zero_add, DL.isNon, kindD, Ty.has, truD, LV.d, at0, at1, at2, rules_at hr]
      refine lmatches_spec (by rw [hk.2.2.1, hc]) (by omega) ?_
      cases hb' : matchB L.rules[n].2 c with
      | true =>
        have e1 : firstM L (n :: b) c = some n := by unfold firstM; rw [List.find?_cons, hm, hb']
        rw [ef, e1] at q
        simp only [decD, actO, numD, actN, hr] at q
        simp only [wS_mSeq, wS_mSet, wS_mRet, wS_mRetN, wS_mDrop, wS_mIf, wS_mSub, wS_mNx, wS_mBrk, wS_mCnt, wS_mAsg, wE_ok, wE_exc, w_var, w_c, w_op, w_T, w_chain, w_tr, w_not, w_and, w_or, w_ite, w_andV, w_orV, w_notV, w_neg, w_nil, w_cons, w_tup, w_call, w_fz, w_al, w_disp, w_callL, w_R1, w_R2, w_rgL, w_rgT, w_itR, w_isi, w_met, w_noP, w_part, w_sl, w_itV, w_itE, w_itZ, w_repL, wE_mLc, wS_mFor, o_addI, o_addT, o_addL, o_sub, o_I, o_mulI, o_mulT, o_mulN, o_B, o_C, o_is, o_eqI, o_ixT, o_ixL, o_ixR, o_slT, o_slL, f_lenT, f_lenL, f_abs, f_int, f_tupL, f_tupT, f_listT, f_listL, f_listS, f_sum, f_sorted, f_append, f_extendL, w_trN, w_getN, w_newD, wS_mSubN, w_disp1, w_itN, w_itT, w_dc, wS_mAsgL, w_sortIt, w_idx, wS_mRz, wS_mTry1, w_fld, w_meth, w_make, wS_mSetF, w_Xf, w_IsX, wS_mIfR, wS_exc, f_rng, w_itG, w_itDn, w_itC, w_lIt, w_lVs, w_sortSet, w_cntT, List.getElem?_cons_zero, List.getElem?_cons_succ, List.set_cons_zero, List.set_cons_succ, Option.some.injEq, exists_eq_left', exists_eq_left, D.int.injEq, D.bl.injEq, D.ref.injEq, MO.lst.injEq, ↓reduceIte, Bool.false_eq_true, Bool.not_true, Bool.not_false, reduceCtorEq, true_and, and_true, List.length_cons, List.length_nil, List.cons_append, List.nil_append, List.map_cons, List.map_nil, Nat.reduceAdd, Nat.zero_add, DL.isNon, kindD, Ty.has, truD, LV.d, at0, at1, at2, rules_at hr, ruleD, at20, at21]
        first | exact wE_fin rfl q | exact ⟨by decide, wE_fin rfl q⟩
      | false =>
        have e1 : firstM L (n :: b) c = firstM L b c := by unfold firstM; rw [List.find?_cons, hm, hb']
        simp only [wS_mSeq, wS_mSet, wS_mRet, wS_mRetN, wS_mDrop, wS_mIf, wS_mSub, wS_mNx, wS_mBrk, wS_mCnt, wS_mAsg, wE_ok, wE_exc, w_var, w_c, w_op, w_T, w_chain, w_tr, w_not, w_and, w_or, w_ite, w_andV, w_orV, w_notV, w_neg, w_nil, w_cons, w_tup, w_call, w_fz, w_al, w_disp, w_callL, w_R1, w_R2, w_rgL, w_rgT, w_itR, w_isi, w_met, w_noP, w_part, w_sl, w_itV, w_itE, w_itZ, w_repL, wE_mLc, wS_mFor, o_addI, o_addT, o_addL, o_sub, o_I, o_mulI, o_mulT, o_mulN, o_B, o_C, o_is, o_eqI, o_ixT, o_ixL, o_ixR, o_slT, o_slL, f_lenT, f_lenL, f_abs, f_int, f_tupL, f_tupT, f_listT, f_listL, f_listS, f_sum, f_sorted, f_append, f_extendL, w_trN, w_getN, w_newD, wS_mSubN, w_disp1, w_itN, w_itT, w_dc, wS_mAsgL, w_sortIt, w_idx, wS_mRz, wS_mTry1, w_fld, w_meth, w_make, wS_mSetF, w_Xf, w_IsX, wS_mIfR, wS_exc, f_rng, w_itG, w_itDn, w_itC, w_lIt, w_lVs, w_sortSet, w_cntT, List.getElem?_cons_zero, List.getElem?_cons_succ, List.set_cons_zero, List.set_cons_succ, Option.some.injEq, exists_eq_left', exists_eq_left, D.int.injEq, D.bl.injEq, D.ref.injEq, MO.lst.injEq, ↓reduceIte, Bool.false_eq_true, Bool.not_true, Bool.not_false, reduceCtorEq, true_and, and_true, List.length_cons, List.length_nil, List.cons_append, List.nil_append, List.map_cons, List.map_nil, Nat.reduceAdd, Nat.zero_add, DL.isNon, kindD, Ty.has, truD]
        first | exact ⟨b, _, fun m hm => hb m (List.mem_cons_of_mem _ hm), rfl, by rw [ef, e1], rfl, rfl⟩ | exact ⟨b, _, fun m hm => hb m (List.mem_cons_of_mem _ hm), rfl, by rw [ef, e1], rfl⟩ | exact ⟨b, fun m hm => hb m (List.mem_cons_of_mem _ hm), rfl, by rw [ef, e1]⟩
  · obtain ⟨b, x3, hb, e, ef, rfl, rfl⟩ := hI
    have : b = [] := by cases b with
      | nil => rfl
      | cons => cases e
    subst this
    rw [ef] at q
    refine ⟨_, rfl, ?_⟩
    simp only [wS_mSeq, wS_mSet, wS_mRet, wS_mRetN, wS_mDrop, wS_mIf, wS_mSub, wS_mNx, wS_mBrk, wS_mCnt, wS_mAsg, wE_ok, wE_exc, w_var, w_c, w_op, w_T, w_chain, w_tr, w_not, w_and, w_or, w_ite, w_andV, w_orV, w_notV, w_neg, w_nil, w_cons, w_tup, w_call, w_fz, w_al, w_disp, w_callL, w_R1, w_R2, w_rgL, w_rgT, w_itR, w_isi, w_met, w_noP, w_part, w_sl, w_itV, w_itE, w_itZ, w_repL, wE_mLc, wS_mFor, o_addI, o_addT, o_addL, o_sub, o_I, o_mulI, o_mulT, o_mulN, o_B, o_C, o_is, o_eqI, o_ixT, o_ixL, o_ixR, o_slT, o_slL, f_lenT, f_lenL, f_abs, f_int, f_tupL, f_tupT, f_listT, f_listL, f_listS, f_sum, f_sorted, f_append, f_extendL, w_trN, w_getN, w_newD, wS_mSubN, w_disp1, w_itN, w_itT, w_dc, wS_mAsgL, w_sortIt, w_idx, wS_mRz, wS_mTry1, w_fld, w_meth, w_make, wS_mSetF, w_Xf, w_IsX, wS_mIfR, wS_exc, f_rng, w_itG, w_itDn, w_itC, w_lIt, w_lVs, w_sortSet, w_cntT, List.getElem?_cons_zero, List.getElem?_cons_succ, List.set_cons_zero, List.set_cons_succ, Option.some.injEq, exists_eq_left', exists_eq_left, D.int.injEq, D.bl.injEq, D.ref.injEq, MO.lst.injEq, ↓reduceIte, Bool.false_eq_true, Bool.not_true, Bool.not_false, reduceCtorEq, true_and, and_true, List.length_cons, List.length_nil, List.cons_append, List.nil_append, List.map_cons, List.map_nil, Nat.reduceAdd, Nat.zero_add, LV.d, at2]
    first | exact wE_fin rfl q | exact ⟨by decide, wE_fin rfl q⟩
end LW
namespace LW
open PySem PySem.Spec PyProof.Rows L2 DL
theorem wE_eq {A : Type} {r : R A} {v : A} {S : Sto} (h : wE r (fun _ _ => False) fun a S' => a = v ∧ S' = S) : r = .ok v S := by
  rw [wE_z] at h
  cases r with
  | ok a S' =>
    obtain ⟨rfl, rfl⟩ := (show a = v ∧ S' = S from h)
    rfl
  | exc x S' => exact False.elim h
  | stuck => exact False.elim h
theorem filter_wp {T : Tg} {tt : MB} {elt : ME} {rho : EnvD} {t : D → Bool} {f : D → D} {ds : List D} {S : Sto} {X : Ex → Sto → Prop} {QL : List D → Sto → Prop} (h : ∀ d ∈ ds, ∃ r, tgSet T d rho = some r ∧ (∀ (X : Ex → Sto → Prop) (Q : Bool → Sto → Prop), Q (t d) S → wE (tt r S) X Q) ∧ (t d = true → ∀ (X : Ex → Sto → Prop) (Q : D → Sto → Prop), Q (f d) S → wE (elt r S) X Q)) (hl : ds.length ≤ 16777216) (q : QL ((ds.filter t).map f) S) : wE (foldL none (lcStep T tt elt rho) ds [] S) X QL := by
  refine lc_pure (t := t) (f := f) (fun d hd => ?_) (by simpa using hl) (by simpa using q)
  obtain ⟨r, e1, e2, e3⟩ := h d hd
  exact ⟨r, e1, wE_eq (e2 _ _ ⟨rfl, rfl⟩), fun ht => wE_eq (e3 ht _ _ ⟨rfl, rfl⟩)⟩
section
variable {X : Ex → Sto → Prop} {Q : D → Sto → Prop} {S : Sto} {neg : Bool} {n : Nat} {o : Option Nat} {x : D} {ds : List D}
theorem o_inT : wE (opIn neg x (.tup ds) S) X Q = ((flatD x = true ∧ ds.all flatD = true) ∧ Q (.bl (if neg = true then !inD x ds else inD x ds)) S) := by simp only [opIn, wE_guard, wE_ok]
def optD : Option (List Int) → D
  | some c => caseD c
  | none => .non
theorem in_row {row : List Nat} : inD (.int n) (rowD row) = row.contains n := by
  unfold inD rowD
  rw [List.any_map, Bool.eq_iff_iff, List.any_eq_true, List.contains_iff_mem]
  constructor
  · rintro ⟨m, hm, e⟩
    have : (m : Int) = n := by simpa [eqD] using e
    have : m = n := by omega
    rw [← this]; exact hm
  · intro h; exact ⟨n, h, by simp [eqD]⟩
theorem flat_row {row : List Nat} : (rowD row).all flatD = true := by
  rw [List.all_eq_true]; intro d hd; obtain ⟨m, _, rfl⟩ := List.mem_map.mp hd; rfl
theorem fit_row {row : List Nat} (h : row.length ≤ 100) : fit (.tup (rowD row)) = true := by
  simp only [fit, Bool.and_eq_true, decide_eq_true_eq]
  refine ⟨by simp [rowD]; omega, fitL_iff.mpr fun d hd => ?_⟩
  obtain ⟨m, _, rfl⟩ := List.mem_map.mp hd; rfl
theorem dp_row {row : List Nat} : dpL (rowD row) = 0 := by
  induction row with
  | nil => rfl
  | cons n row ih => show max 0 (dpL (rowD row)) = 0; rw [ih]; rfl
end
/-! ### the law's own list -/
theorem lrange2_spec {st : MO} {rest : Sto} {w : Int} {X : Ex → Sto → Prop} {Q : D → Sto → Prop} (hs : Strm st) (h0 : 0 < w) (h1 : w < 100) (hq : ∀ (p : Int × Int) st', 0 ≤ p.1 → p.1 ≤ p.2 → p.2 ≤ w - 1 → Strm st' → Q (pairD p) (st' :: rest)) : wE (m__law_range [.ref 0, .int w] (st :: rest)) X Q := by
  refine go__law_range ?_
  unfold b__law_range
  simp only [wS_mSeq, wS_mSet, wS_mRet, wS_mRetN, wS_mDrop, wS_mIf, wS_mSub, wS_mNx, wS_mBrk, wS_mCnt, wS_mAsg, wE_ok, wE_exc, w_var, w_c, w_op, w_T, w_chain, w_tr, w_not, w_and, w_or, w_ite, w_andV, w_orV, w_notV, w_neg, w_nil, w_cons, w_tup, w_call, w_fz, w_al, w_disp, w_callL, w_R1, w_R2, w_rgL, w_rgT, w_itR, w_isi, w_met, w_noP, w_part, w_sl, w_itV, w_itE, w_itZ, w_repL, wE_mLc, wS_mFor, o_addI, o_addT, o_addL, o_sub, o_I, o_mulI, o_mulT, o_mulN, o_B, o_C, o_is, o_eqI, o_ixT, o_ixL, o_ixR, o_slT, o_slL, f_lenT, f_lenL, f_abs, f_int, f_tupL, f_tupT, f_listT, f_listL, f_listS, f_sum, f_sorted, f_append, f_extendL, w_trN, w_getN, w_newD, wS_mSubN, w_disp1, w_itN, w_itT, w_dc, wS_mAsgL, w_sortIt, w_idx, wS_mRz, wS_mTry1, w_fld, w_meth, w_make, wS_mSetF, w_Xf, w_IsX, wS_mIfR, wS_exc, f_rng, w_itG, w_itDn, w_itC, w_lIt, w_lVs, w_sortSet, w_cntT, List.getElem?_cons_zero, List.getElem?_cons_succ, List.set_cons_zero, List.set_cons_succ, Option.some.injEq, exists_eq_left', exists_eq_left, D.int.injEq, D.bl.injEq, D.ref.injEq, MO.lst.injEq, ↓reduceIte, Bool.false_eq_true, Bool.not_true, Bool.not_false, reduceCtorEq, true_and, and_true, List.length_cons, List.length_nil, List.cons_append, List.nil_append, List.map_cons, List.map_nil, Nat.reduceAdd, Nat.zero_add]
  refine next_spec hs h0 (by omega) fun a st1 a0 a1 hs1 => ?_
  try simp only [wS_mSeq, wS_mSet, wS_mRet, wS_mRetN, wS_mDrop, wS_mIf, wS_mSub, wS_mNx, wS_mBrk, wS_mCnt, wS_mAsg, wE_ok, wE_exc, w_var, w_c, w_op, w_T, w_chain, w_tr, w_not, w_and, w_or, w_ite, w_andV, w_orV, w_notV, w_neg, w_nil, w_cons, w_tup, w_call, w_fz, w_al, w_disp, w_callL, w_R1, w_R2, w_rgL, w_rgT, w_itR, w_isi, w_met, w_noP, w_part, w_sl, w_itV, w_itE, w_itZ, w_repL, wE_mLc, wS_mFor, o_addI, o_addT, o_addL, o_sub, o_I, o_mulI, o_mulT, o_mulN, o_B, o_C, o_is, o_eqI, o_ixT, o_ixL, o_ixR, o_slT, o_slL, f_lenT, f_lenL, f_abs, f_int, f_tupL, f_tupT, f_listT, f_listL, f_listS, f_sum, f_sorted, f_append, f_extendL, w_trN, w_getN, w_newD, wS_mSubN, w_disp1, w_itN, w_itT, w_dc, wS_mAsgL, w_sortIt, w_idx, wS_mRz, wS_mTry1, w_fld, w_meth, w_make, wS_mSetF, w_Xf, w_IsX, wS_mIfR, wS_exc, f_rng, w_itG, w_itDn, w_itC, w_lIt, w_lVs, w_sortSet, w_cntT, List.getElem?_cons_zero, List.getElem?_cons_succ, List.set_cons_zero, List.set_cons_succ, Option.some.injEq, exists_eq_left', exists_eq_left, D.int.injEq, D.bl.injEq, D.ref.injEq, MO.lst.injEq, ↓reduceIte, Bool.false_eq_true, Bool.not_true, Bool.not_false, reduceCtorEq, true_and, and_true, List.length_cons, List.length_nil, List.cons_append, List.nil_append, List.map_cons, List.map_nil, Nat.reduceAdd, Nat.zero_add]
  refine next_spec hs1 (by omega) (by omega) fun b st2 b0 b1 hs2 => ?_
  try simp only [wS_mSeq, wS_mSet, wS_mRet, wS_mRetN, wS_mDrop, wS_mIf, wS_mSub, wS_mNx, wS_mBrk, wS_mCnt, wS_mAsg, wE_ok, wE_exc, w_var, w_c, w_op, w_T, w_chain, w_tr, w_not, w_and, w_or, w_ite, w_andV, w_orV, w_notV, w_neg, w_nil, w_cons, w_tup, w_call, w_fz, w_al, w_disp, w_callL, w_R1, w_R2, w_rgL, w_rgT, w_itR, w_isi, w_met, w_noP, w_part, w_sl, w_itV, w_itE, w_itZ, w_repL, wE_mLc, wS_mFor, o_addI, o_addT, o_addL, o_sub, o_I, o_mulI, o_mulT, o_mulN, o_B, o_C, o_is, o_eqI, o_ixT, o_ixL, o_ixR, o_slT, o_slL, f_lenT, f_lenL, f_abs, f_int, f_tupL, f_tupT, f_listT, f_listL, f_listS, f_sum, f_sorted, f_append, f_extendL, w_trN, w_getN, w_newD, wS_mSubN, w_disp1, w_itN, w_itT, w_dc, wS_mAsgL, w_sortIt, w_idx, wS_mRz, wS_mTry1, w_fld, w_meth, w_make, wS_mSetF, w_Xf, w_IsX, wS_mIfR, wS_exc, f_rng, w_itG, w_itDn, w_itC, w_lIt, w_lVs, w_sortSet, w_cntT, List.getElem?_cons_zero, List.getElem?_cons_succ, List.set_cons_zero, List.set_cons_succ, Option.some.injEq, exists_eq_left', exists_eq_left, D.int.injEq, D.bl.injEq, D.ref.injEq, MO.lst.injEq, ↓reduceIte, Bool.false_eq_true, Bool.not_true, Bool.not_false, reduceCtorEq, true_and, and_true, List.length_cons, List.length_nil, List.cons_append, List.nil_append, List.map_cons, List.map_nil, Nat.reduceAdd, Nat.zero_add]
  refine ⟨by decide, wE_fin rfl (hq (a, a + b) _ a0 (by show a ≤ a + b; omega) (by show a + b ≤ w - 1; omega) hs2)⟩
theorem lrule_spec {st : MO} {rest : Sto} {ws : List Int} {acts : Int} {X : Ex → Sto → Prop} {Q : D → Sto → Prop} (hs : Strm st) (h0 : 0 < acts) (h1 : acts ≤ 6) (hl : ws.length ≤ 3) (hw : ∀ x ∈ ws, 1 ≤ x ∧ x ≤ 8) (hq : ∀ (r : Int × List (Int × Int)) st', 0 ≤ r.1 → r.1 < acts → fitsW ws r.2 → Strm st' → Q (ruleD r) (st' :: rest)) : wE (m__law_rule [.ref 0, .tup (ws.map .int), .int acts] (st :: rest)) X Q := by
  refine go__law_rule ?_
  unfold b__law_rule
  simp only [wS_mSeq, wS_mSet, wS_mRet, wS_mRetN, wS_mDrop, wS_mIf, wS_mSub, wS_mNx, wS_mBrk, wS_mCnt, wS_mAsg, wE_ok, wE_exc, w_var, w_c, w_op, w_T, w_chain, w_tr, w_not, w_and, w_or, w_ite, w_andV, w_orV, w_notV, w_neg, w_nil, w_cons, w_tup, w_call, w_fz, w_al, w_disp, w_callL, w_R1, w_R2, w_rgL, w_rgT, w_itR, w_isi, w_met, w_noP, w_part, w_sl, w_itV, w_itE, w_itZ, w_repL, wE_mLc, wS_mFor, o_addI, o_addT, o_addL, o_sub, o_I, o_mulI, o_mulT, o_mulN, o_B, o_C, o_is, o_eqI, o_ixT, o_ixL, o_ixR, o_slT, o_slL, f_lenT, f_lenL, f_abs, f_int, f_tupL, f_tupT, f_listT, f_listL, f_listS, f_sum, f_sorted, f_append, f_extendL, w_trN, w_getN, w_newD, wS_mSubN, w_disp1, w_itN, w_itT, w_dc, wS_mAsgL, w_sortIt, w_idx, wS_mRz, wS_mTry1, w_fld, w_meth, w_make, wS_mSetF, w_Xf, w_IsX, wS_mIfR, wS_exc, f_rng, w_itG, w_itDn, w_itC, w_lIt, w_lVs, w_sortSet, w_cntT, List.getElem?_cons_zero, List.getElem?_cons_succ, List.set_cons_zero, List.set_cons_succ, Option.some.injEq, exists_eq_left', exists_eq_left, D.int.injEq, D.bl.injEq, D.ref.injEq, MO.lst.injEq, ↓reduceIte, Bool.false_eq_true, Bool.not_true, Bool.not_false, reduceCtorEq, true_and, and_true, List.length_cons, List.length_nil, List.cons_append, List.nil_append, List.map_cons, List.map_nil, Nat.reduceAdd, Nat.zero_add]
  refine next_spec hs h0 (by omega) fun a st1 a0 a1 hs1 => ?_
  refine lc_wp (J := fun S => ∃ st', S = st' :: rest ∧ Strm st') (P := fun x y => ∃ w p, x = .int w ∧ y = pairD p ∧ 0 ≤ p.1 ∧ p.1 ≤ p.2 ∧ p.2 ≤ w - 1) (fun x hx S hS => ?_) ⟨_, rfl, hs1⟩ (by simp; omega) fun ys S' hy hS => ?_
  · obtain ⟨st2, rfl, hs2⟩ := hS
    obtain ⟨w, hw', rfl⟩ := List.mem_map.mp hx
    have := hw w hw'
    refine ⟨_, rfl, ?_⟩
    simp only [wS_mSeq, wS_mSet, wS_mRet, wS_mRetN, wS_mDrop, wS_mIf, wS_mSub, wS_mNx, wS_mBrk, wS_mCnt, wS_mAsg, wE_ok, wE_exc, w_var, w_c, w_op, w_T, w_chain, w_tr, w_not, w_and, w_or, w_ite, w_andV, w_orV, w_notV, w_neg, w_nil, w_cons, w_tup, w_call, w_fz, w_al, w_disp, w_callL, w_R1, w_R2, w_rgL, w_rgT, w_itR, w_isi, w_met, w_noP, w_part, w_sl, w_itV, w_itE, w_itZ, w_repL, wE_mLc, wS_mFor, o_addI, o_addT, o_addL, o_sub, o_I, o_mulI, o_mulT, o_mulN, o_B, o_C, o_is, o_eqI, o_ixT, o_ixL, o_ixR, o_slT, o_slL, f_lenT, f_lenL, f_abs, f_int, f_tupL, f_tupT, f_listT, f_listL, f_listS, f_sum, f_sorted, f_append, f_extendL, w_trN, w_getN, w_newD, wS_mSubN, w_disp1, w_itN, w_itT, w_dc, wS_mAsgL, w_sortIt, w_idx, wS_mRz, wS_mTry1, w_fld, w_meth, w_make, wS_mSetF, w_Xf, w_IsX, wS_mIfR, wS_exc, f_rng, w_itG, w_itDn, w_itC, w_lIt, w_lVs, w_sortSet, w_cntT, List.getElem?_cons_zero, List.getElem?_cons_succ, List.set_cons_zero, List.set_cons_succ, Option.some.injEq, exists_eq_left', exists_eq_left, D.int.injEq, D.bl.injEq, D.ref.injEq, MO.lst.injEq, ↓reduceIte, Bool.false_eq_true, Bool.not_true, Bool.not_false, reduceCtorEq, true_and, and_true, List.length_cons, List.length_nil, List.cons_append, List.nil_append, List.map_cons, List.map_nil, Nat.reduceAdd, Nat.zero_add, wipeD]
    refine lrange2_spec hs2 (by omega) (by omega) fun p st3 h1 h2 h3 hs3 => ⟨⟨_, rfl, hs3⟩, w, p, rfl, rfl, h1, h2, h3⟩
  · obtain ⟨st2, rfl, hs2⟩ := hS
    obtain ⟨ps, rfl, hf⟩ : ∃ ps : List (Int × Int), ys = ps.map pairD ∧ fitsW ws ps := by
      clear hq hs hs1 hl hw
      induction ws generalizing ys with
      | nil => cases hy; exact ⟨[], rfl, rfl, fun i w h => by simp at h⟩
      | cons w ws ih =>
        cases hy with
        | cons h t =>
          obtain ⟨w', p, e1, rfl, h1, h2, h3⟩ := h
          cases e1
          obtain ⟨ps, rfl, hf⟩ := ih _ t
          refine ⟨p :: ps, rfl, by simp [hf.1], fun i w2 hi => ?_⟩
          cases i with
          | zero => simp at hi; subst hi; exact ⟨p, rfl, h1, h2, h3⟩
          | succ i => simpa using hf.2 i w2 (by simpa using hi)
    simp only [wS_mSeq, wS_mSet, wS_mRet, wS_mRetN, wS_mDrop, wS_mIf, wS_mSub, wS_mNx, wS_mBrk, wS_mCnt, wS_mAsg, wE_ok, wE_exc, w_var, w_c, w_op, w_T, w_chain, w_tr, w_not, w_and, w_or, w_ite, w_andV, w_orV, w_notV, w_neg, w_nil, w_cons, w_tup, w_call, w_fz, w_al, w_disp, w_callL, w_R1, w_R2, w_rgL, w_rgT, w_itR, w_isi, w_met, w_noP, w_part, w_sl, w_itV, w_itE, w_itZ, w_repL, wE_mLc, wS_mFor, o_addI, o_addT, o_addL, o_sub, o_I, o_mulI, o_mulT, o_mulN, o_B, o_C, o_is, o_eqI, o_ixT, o_ixL, o_ixR, o_slT, o_slL, f_lenT, f_lenL, f_abs, f_int, f_tupL, f_tupT, f_listT, f_listL, f_listS, f_sum, f_sorted, f_append, f_extendL, w_trN, w_getN, w_newD, wS_mSubN, w_disp1, w_itN, w_itT, w_dc, wS_mAsgL, w_sortIt, w_idx, wS_mRz, wS_mTry1, w_fld, w_meth, w_make, wS_mSetF, w_Xf, w_IsX, wS_mIfR, wS_exc, f_rng, w_itG, w_itDn, w_itC, w_lIt, w_lVs, w_sortSet, w_cntT, List.getElem?_cons_zero, List.getElem?_cons_succ, List.set_cons_zero, List.set_cons_succ, Option.some.injEq, exists_eq_left', exists_eq_left, D.int.injEq, D.bl.injEq, D.ref.injEq, MO.lst.injEq, ↓reduceIte, Bool.false_eq_true, Bool.not_true, Bool.not_false, reduceCtorEq, true_and, and_true, List.length_cons, List.length_nil, List.cons_append, List.nil_append, List.map_cons, List.map_nil, Nat.reduceAdd, Nat.zero_add]
    exact ⟨by decide, wE_fin rfl (hq (a, ps) _ a0 a1 hf hs2)⟩
theorem llist4_spec {st : MO} {fields wide many : Int} {X : Ex → Sto → Prop} {Q : D → Sto → Prop} (hs : Strm st) (f0 : 1 ≤ fields) (f1 : fields ≤ 3) (w0 : 1 ≤ wide) (w1 : wide ≤ 8) (m0 : 0 ≤ many) (m1 : many ≤ 7) (hq : ∀ (L : LV) st', L.Ok → (L.rules.length : Int) ≤ many → (L.ws.length : Int) ≤ fields → (∀ x ∈ L.ws, x ≤ wide) → Strm st' → Q L.d [st']) : wE (m__law_list [.ref 0, .int fields, .int wide, .int many] [st]) X Q := by
  refine go__law_list ?_
  unfold b__law_list
  simp only [wS_mSeq, wS_mSet, wS_mRet, wS_mRetN, wS_mDrop, wS_mIf, wS_mSub, wS_mNx, wS_mBrk, wS_mCnt, wS_mAsg, wE_ok, wE_exc, w_var, w_c, w_op, w_T, w_chain, w_tr, w_not, w_and, w_or, w_ite, w_andV, w_orV, w_notV, w_neg, w_nil, w_cons, w_tup, w_call, w_fz, w_al, w_disp, w_callL, w_R1, w_R2, w_rgL, w_rgT, w_itR, w_isi, w_met, w_noP, w_part, w_sl, w_itV, w_itE, w_itZ, w_repL, wE_mLc, wS_mFor, o_addI, o_addT, o_addL, o_sub, o_I, o_mulI, o_mulT, o_mulN, o_B, o_C, o_is, o_eqI, o_ixT, o_ixL, o_ixR, o_slT, o_slL, f_lenT, f_lenL, f_abs, f_int, f_tupL, f_tupT, f_listT, f_listL, f_listS, f_sum, f_sorted, f_append, f_extendL, w_trN, w_getN, w_newD, wS_mSubN, w_disp1, w_itN, w_itT, w_dc, wS_mAsgL, w_sortIt, w_idx, wS_mRz, wS_mTry1, w_fld, w_meth, w_make, wS_mSetF, w_Xf, w_IsX, wS_mIfR, wS_exc, f_rng, w_itG, w_itDn, w_itC, w_lIt, w_lVs, w_sortSet, w_cntT, List.getElem?_cons_zero, List.getElem?_cons_succ, List.set_cons_zero, List.set_cons_succ, Option.some.injEq, exists_eq_left', exists_eq_left, D.int.injEq, D.bl.injEq, D.ref.injEq, MO.lst.injEq, ↓reduceIte, Bool.false_eq_true, Bool.not_true, Bool.not_false, reduceCtorEq, true_and, and_true, List.length_cons, List.length_nil, List.cons_append, List.nil_append, List.map_cons, List.map_nil, Nat.reduceAdd, Nat.zero_add]
  refine next_spec hs (by omega) (by omega) fun n st1 n0 n1 hs1 => ?_
  try simp only [wS_mSeq, wS_mSet, wS_mRet, wS_mRetN, wS_mDrop, wS_mIf, wS_mSub, wS_mNx, wS_mBrk, wS_mCnt, wS_mAsg, wE_ok, wE_exc, w_var, w_c, w_op, w_T, w_chain, w_tr, w_not, w_and, w_or, w_ite, w_andV, w_orV, w_notV, w_neg, w_nil, w_cons, w_tup, w_call, w_fz, w_al, w_disp, w_callL, w_R1, w_R2, w_rgL, w_rgT, w_itR, w_isi, w_met, w_noP, w_part, w_sl, w_itV, w_itE, w_itZ, w_repL, wE_mLc, wS_mFor, o_addI, o_addT, o_addL, o_sub, o_I, o_mulI, o_mulT, o_mulN, o_B, o_C, o_is, o_eqI, o_ixT, o_ixL, o_ixR, o_slT, o_slL, f_lenT, f_lenL, f_abs, f_int, f_tupL, f_tupT, f_listT, f_listL, f_listS, f_sum, f_sorted, f_append, f_extendL, w_trN, w_getN, w_newD, wS_mSubN, w_disp1, w_itN, w_itT, w_dc, wS_mAsgL, w_sortIt, w_idx, wS_mRz, wS_mTry1, w_fld, w_meth, w_make, wS_mSetF, w_Xf, w_IsX, wS_mIfR, wS_exc, f_rng, w_itG, w_itDn, w_itC, w_lIt, w_lVs, w_sortSet, w_cntT, List.getElem?_cons_zero, List.getElem?_cons_succ, List.set_cons_zero, List.set_cons_succ, Option.some.injEq, exists_eq_left', exists_eq_left, D.int.injEq, D.bl.injEq, D.ref.injEq, MO.lst.injEq, ↓reduceIte, Bool.false_eq_true, Bool.not_true, Bool.not_false, reduceCtorEq, true_and, and_true, List.length_cons, List.length_nil, List.cons_append, List.nil_append, List.map_cons, List.map_nil, Nat.reduceAdd, Nat.zero_add]
  refine ⟨by omega, ?_⟩
  refine mem_wp (J := fun S => ∃ st', S = [st'] ∧ Strm st') (P := fun y => ∃ i, y = .int i ∧ 1 ≤ i ∧ i ≤ wide) (fun x hx S hS => ?_) ⟨_, rfl, hs1⟩ (by rw [rgD_len]; omega) fun ys S' hl hy hS => ?_
  · obtain ⟨st', rfl, hs'⟩ := hS
    refine ⟨_, rfl, ?_⟩
    simp only [wS_mSeq, wS_mSet, wS_mRet, wS_mRetN, wS_mDrop, wS_mIf, wS_mSub, wS_mNx, wS_mBrk, wS_mCnt, wS_mAsg, wE_ok, wE_exc, w_var, w_c, w_op, w_T, w_chain, w_tr, w_not, w_and, w_or, w_ite, w_andV, w_orV, w_notV, w_neg, w_nil, w_cons, w_tup, w_call, w_fz, w_al, w_disp, w_callL, w_R1, w_R2, w_rgL, w_rgT, w_itR, w_isi, w_met, w_noP, w_part, w_sl, w_itV, w_itE, w_itZ, w_repL, wE_mLc, wS_mFor, o_addI, o_addT, o_addL, o_sub, o_I, o_mulI, o_mulT, o_mulN, o_B, o_C, o_is, o_eqI, o_ixT, o_ixL, o_ixR, o_slT, o_slL, f_lenT, f_lenL, f_abs, f_int, f_tupL, f_tupT, f_listT, f_listL, f_listS, f_sum, f_sorted, f_append, f_extendL, w_trN, w_getN, w_newD, wS_mSubN, w_disp1, w_itN, w_itT, w_dc, wS_mAsgL, w_sortIt, w_idx, wS_mRz, wS_mTry1, w_fld, w_meth, w_make, wS_mSetF, w_Xf, w_IsX, wS_mIfR, wS_exc, f_rng, w_itG, w_itDn, w_itC, w_lIt, w_lVs, w_sortSet, w_cntT, List.getElem?_cons_zero, List.getElem?_cons_succ, List.set_cons_zero, List.set_cons_succ, Option.some.injEq, exists_eq_left', exists_eq_left, D.int.injEq, D.bl.injEq, D.ref.injEq, MO.lst.injEq, ↓reduceIte, Bool.false_eq_true, Bool.not_true, Bool.not_false, reduceCtorEq, true_and, and_true, List.length_cons, List.length_nil, List.cons_append, List.nil_append, List.map_cons, List.map_nil, Nat.reduceAdd, Nat.zero_add, wipeD]
    refine next_spec hs' (by omega) (by omega) fun d st2 d0 d1 hs2 => ?_
    try simp only [wS_mSeq, wS_mSet, wS_mRet, wS_mRetN, wS_mDrop, wS_mIf, wS_mSub, wS_mNx, wS_mBrk, wS_mCnt, wS_mAsg, wE_ok, wE_exc, w_var, w_c, w_op, w_T, w_chain, w_tr, w_not, w_and, w_or, w_ite, w_andV, w_orV, w_notV, w_neg, w_nil, w_cons, w_tup, w_call, w_fz, w_al, w_disp, w_callL, w_R1, w_R2, w_rgL, w_rgT, w_itR, w_isi, w_met, w_noP, w_part, w_sl, w_itV, w_itE, w_itZ, w_repL, wE_mLc, wS_mFor, o_addI, o_addT, o_addL, o_sub, o_I, o_mulI, o_mulT, o_mulN, o_B, o_C, o_is, o_eqI, o_ixT, o_ixL, o_ixR, o_slT, o_slL, f_lenT, f_lenL, f_abs, f_int, f_tupL, f_tupT, f_listT, f_listL, f_listS, f_sum, f_sorted, f_append, f_extendL, w_trN, w_getN, w_newD, wS_mSubN, w_disp1, w_itN, w_itT, w_dc, wS_mAsgL, w_sortIt, w_idx, wS_mRz, wS_mTry1, w_fld, w_meth, w_make, wS_mSetF, w_Xf, w_IsX, wS_mIfR, wS_exc, f_rng, w_itG, w_itDn, w_itC, w_lIt, w_lVs, w_sortSet, w_cntT, List.getElem?_cons_zero, List.getElem?_cons_succ, List.set_cons_zero, List.set_cons_succ, Option.some.injEq, exists_eq_left', exists_eq_left, D.int.injEq, D.bl.injEq, D.ref.injEq, MO.lst.injEq, ↓reduceIte, Bool.false_eq_true, Bool.not_true, Bool.not_false, reduceCtorEq, true_and, and_true, List.length_cons, List.length_nil, List.cons_append, List.nil_append, List.map_cons, List.map_nil, Nat.reduceAdd, Nat.zero_add]
    exact ⟨⟨_, rfl, hs2⟩, by omega, by omega⟩
  obtain ⟨st2, rfl, hs2⟩ := hS
  rw [rgD_len] at hl
  obtain ⟨ws, rfl, hw⟩ : ∃ ws : List Int, ys = ws.map .int ∧ ∀ x ∈ ws, 1 ≤ x ∧ x ≤ wide := by
    clear hl
    induction ys with
    | nil => exact ⟨[], rfl, by simp⟩
    | cons y ys ih =>
      obtain ⟨ws, e, h⟩ := ih fun y hy' => hy y (List.mem_cons_of_mem _ hy')
      obtain ⟨i, rfl, hi⟩ := hy y (List.mem_cons_self ..)
      exact ⟨i :: ws, by rw [e]; rfl, fun x hx => by rcases List.mem_cons.mp hx with rfl | hx; exact hi; exact h x hx⟩
  rw [List.length_map] at hl
  have hwd := hw
  have hw : ∀ x ∈ ws, 1 ≤ x ∧ x ≤ 8 := fun x hx => by have := hwd x hx; omega
  refine next_spec hs2 (by decide) (by decide) fun m st3 m0 m1 hs3 => ?_
  try simp only [wS_mSeq, wS_mSet, wS_mRet, wS_mRetN, wS_mDrop, wS_mIf, wS_mSub, wS_mNx, wS_mBrk, wS_mCnt, wS_mAsg, wE_ok, wE_exc, w_var, w_c, w_op, w_T, w_chain, w_tr, w_not, w_and, w_or, w_ite, w_andV, w_orV, w_notV, w_neg, w_nil, w_cons, w_tup, w_call, w_fz, w_al, w_disp, w_callL, w_R1, w_R2, w_rgL, w_rgT, w_itR, w_isi, w_met, w_noP, w_part, w_sl, w_itV, w_itE, w_itZ, w_repL, wE_mLc, wS_mFor, o_addI, o_addT, o_addL, o_sub, o_I, o_mulI, o_mulT, o_mulN, o_B, o_C, o_is, o_eqI, o_ixT, o_ixL, o_ixR, o_slT, o_slL, f_lenT, f_lenL, f_abs, f_int, f_tupL, f_tupT, f_listT, f_listL, f_listS, f_sum, f_sorted, f_append, f_extendL, w_trN, w_getN, w_newD, wS_mSubN, w_disp1, w_itN, w_itT, w_dc, wS_mAsgL, w_sortIt, w_idx, wS_mRz, wS_mTry1, w_fld, w_meth, w_make, wS_mSetF, w_Xf, w_IsX, wS_mIfR, wS_exc, f_rng, w_itG, w_itDn, w_itC, w_lIt, w_lVs, w_sortSet, w_cntT, List.getElem?_cons_zero, List.getElem?_cons_succ, List.set_cons_zero, List.set_cons_succ, Option.some.injEq, exists_eq_left', exists_eq_left, D.int.injEq, D.bl.injEq, D.ref.injEq, MO.lst.injEq, ↓reduceIte, Bool.false_eq_true, Bool.not_true, Bool.not_false, reduceCtorEq, true_and, and_true, List.length_cons, List.length_nil, List.cons_append, List.nil_append, List.map_cons, List.map_nil, Nat.reduceAdd, Nat.zero_add]
  refine next_spec hs3 (by omega) (by omega) fun k st4 k0 k1 hs4 => ?_
  refine ⟨_, rfl, by omega, ?_⟩
  refine mem_wp (J := fun S => ∃ st', S = [st'] ∧ Strm st') (P := fun y => ∃ r : Int × List (Int × Int), y = ruleD r ∧ 0 ≤ r.1 ∧ r.1 ≤ 5 ∧ fitsW ws r.2) (fun x hx S hS => ?_) ⟨_, rfl, hs4⟩ (by rw [rgD_len]; omega) fun ys S' hl2 hy hS => ?_
  · obtain ⟨st', rfl, hs'⟩ := hS
    refine ⟨_, rfl, ?_⟩
    simp only [wS_mSeq, wS_mSet, wS_mRet, wS_mRetN, wS_mDrop, wS_mIf, wS_mSub, wS_mNx, wS_mBrk, wS_mCnt, wS_mAsg, wE_ok, wE_exc, w_var, w_c, w_op, w_T, w_chain, w_tr, w_not, w_and, w_or, w_ite, w_andV, w_orV, w_notV, w_neg, w_nil, w_cons, w_tup, w_call, w_fz, w_al, w_disp, w_callL, w_R1, w_R2, w_rgL, w_rgT, w_itR, w_isi, w_met, w_noP, w_part, w_sl, w_itV, w_itE, w_itZ, w_repL, wE_mLc, wS_mFor, o_addI, o_addT, o_addL, o_sub, o_I, o_mulI, o_mulT, o_mulN, o_B, o_C, o_is, o_eqI, o_ixT, o_ixL, o_ixR, o_slT, o_slL, f_lenT, f_lenL, f_abs, f_int, f_tupL, f_tupT, f_listT, f_listL, f_listS, f_sum, f_sorted, f_append, f_extendL, w_trN, w_getN, w_newD, wS_mSubN, w_disp1, w_itN, w_itT, w_dc, wS_mAsgL, w_sortIt, w_idx, wS_mRz, wS_mTry1, w_fld, w_meth, w_make, wS_mSetF, w_Xf, w_IsX, wS_mIfR, wS_exc, f_rng, w_itG, w_itDn, w_itC, w_lIt, w_lVs, w_sortSet, w_cntT, List.getElem?_cons_zero, List.getElem?_cons_succ, List.set_cons_zero, List.set_cons_succ, Option.some.injEq, exists_eq_left', exists_eq_left, D.int.injEq, D.bl.injEq, D.ref.injEq, MO.lst.injEq, ↓reduceIte, Bool.false_eq_true, Bool.not_true, Bool.not_false, reduceCtorEq, true_and, and_true, List.length_cons, List.length_nil, List.cons_append, List.nil_append, List.map_cons, List.map_nil, Nat.reduceAdd, Nat.zero_add, wipeD]
    exact lrule_spec hs' (by omega) (by omega) (by omega) hw fun r st5 h0 h1 h2 hs5 => ⟨⟨_, rfl, hs5⟩, r, rfl, h0, by omega, h2⟩
  obtain ⟨st5, rfl, hs5⟩ := hS
  rw [rgD_len] at hl2
  obtain ⟨rs, rfl, hr⟩ : ∃ rs : List (Int × List (Int × Int)), ys = rs.map ruleD ∧ ∀ r ∈ rs, 0 ≤ r.1 ∧ r.1 ≤ 5 ∧ fitsW ws r.2 := by
    clear hl2
    induction ys with
    | nil => exact ⟨[], rfl, by simp⟩
    | cons y ys ih =>
      obtain ⟨rs, e, h⟩ := ih fun y hy' => hy y (List.mem_cons_of_mem _ hy')
      obtain ⟨i, rfl, hi⟩ := hy y (List.mem_cons_self ..)
      exact ⟨i :: rs, by rw [e]; rfl, fun x hx => by rcases List.mem_cons.mp hx with rfl | hx; exact hi; exact h x hx⟩
  rw [List.length_map] at hl2
  try simp only [wS_mSeq, wS_mSet, wS_mRet, wS_mRetN, wS_mDrop, wS_mIf, wS_mSub, wS_mNx, wS_mBrk, wS_mCnt, wS_mAsg, wE_ok, wE_exc, w_var, w_c, w_op, w_T, w_chain, w_tr, w_not, w_and, w_or, w_ite, w_andV, w_orV, w_notV, w_neg, w_nil, w_cons, w_tup, w_call, w_fz, w_al, w_disp, w_callL, w_R1, w_R2, w_rgL, w_rgT, w_itR, w_isi, w_met, w_noP, w_part, w_sl, w_itV, w_itE, w_itZ, w_repL, wE_mLc, wS_mFor, o_addI, o_addT, o_addL, o_sub, o_I, o_mulI, o_mulT, o_mulN, o_B, o_C, o_is, o_eqI, o_ixT, o_ixL, o_ixR, o_slT, o_slL, f_lenT, f_lenL, f_abs, f_int, f_tupL, f_tupT, f_listT, f_listL, f_listS, f_sum, f_sorted, f_append, f_extendL, w_trN, w_getN, w_newD, wS_mSubN, w_disp1, w_itN, w_itT, w_dc, wS_mAsgL, w_sortIt, w_idx, wS_mRz, wS_mTry1, w_fld, w_meth, w_make, wS_mSetF, w_Xf, w_IsX, wS_mIfR, wS_exc, f_rng, w_itG, w_itDn, w_itC, w_lIt, w_lVs, w_sortSet, w_cntT, List.getElem?_cons_zero, List.getElem?_cons_succ, List.set_cons_zero, List.set_cons_succ, Option.some.injEq, exists_eq_left', exists_eq_left, D.int.injEq, D.bl.injEq, D.ref.injEq, MO.lst.injEq, ↓reduceIte, Bool.false_eq_true, Bool.not_true, Bool.not_false, reduceCtorEq, true_and, and_true, List.length_cons, List.length_nil, List.cons_append, List.nil_append, List.map_cons, List.map_nil, Nat.reduceAdd, Nat.zero_add]
  refine next_spec hs5 (by omega) (by omega) fun c st6 c0 c1 hs6 => ?_
  exact ⟨by decide, wE_fin rfl (hq ⟨ws, rs, c⟩ st6 ⟨by show 1 ≤ ws.length; omega, by show ws.length ≤ 3; omega, hw, by show rs.length ≤ 7; omega, hr, c0, by show c ≤ 5; omega⟩ (by show (rs.length : Int) ≤ _; omega) (by show (ws.length : Int) ≤ _; omega) (fun x hx => (hwd x hx).2) hs6)⟩
end LW
namespace LW
open PySem PySem.Spec PyProof.Rows L2 DL
def asc (L : LV) : List Nat := List.range L.rules.length
theorem asc_lt {L : LV} : ∀ n ∈ asc L, n < L.rules.length := fun n h => List.mem_range.mp h
theorem asc_len {L : LV} : (asc L).length = L.rules.length := List.length_range
theorem rowD_asc {n : Nat} : rgD 0 (n : Int) = rowD (List.range n) := by
  unfold rgD rowD
  rw [Int.sub_zero, Int.toNat_natCast]
  congr 1
  funext i
  simp
theorem row_len {row : List Nat} : (rowD row).length = row.length := by simp [rowD]
theorem row_mem {row : List Nat} {d : D} (h : d ∈ rowD row) : ∃ n, n ∈ row ∧ d = .int (n : Nat) := by
  obtain ⟨n, hn, rfl⟩ := List.mem_map.mp h; exact ⟨n, hn, rfl⟩
theorem case_bound {L : LV} (h : L.Ok) : (casesL L.ws).length ≤ 512 := by
  have h1 := cases_len (ws := L.ws) fun x hx => (h.w x hx).2
  have h2 : 8 ^ L.ws.length ≤ 8 ^ 3 := Nat.pow_le_pow_right (by decide) h.l2
  omega
section
variable {L : LV} {row : List Nat} {c : List Int} {S : Sto} {X : Ex → Sto → Prop} {Q : D → Sto → Prop}
theorem asc_spec (h : L.Ok) (q : Q (.tup (rowD (asc L))) S) : wE (m_ascending [L.d] S) X Q := by
  refine go_ascending ?_
  unfold b_ascending
  have hn := h.n
  simp only [wS_mSeq, wS_mSet, wS_mRet, wS_mRetN, wS_mDrop, wS_mIf, wS_mSub, wS_mNx, wS_mBrk, wS_mCnt, wS_mAsg, wE_ok, wE_exc, w_var, w_c, w_op, w_T, w_chain, w_tr, w_not, w_and, w_or, w_ite, w_andV, w_orV, w_notV, w_neg, w_nil, w_cons, w_tup, w_call, w_fz, w_al, w_disp, w_callL, w_R1, w_R2, w_rgL, w_rgT, w_itR, w_isi, w_met, w_noP, w_part, w_sl, w_itV, w_itE, w_itZ, w_repL, wE_mLc, wS_mFor, o_addI, o_addT, o_addL, o_sub, o_I, o_mulI, o_mulT, o_mulN, o_B, o_C, o_is, o_eqI, o_ixT, o_ixL, o_ixR, o_slT, o_slL, f_lenT, f_lenL, f_abs, f_int, f_tupL, f_tupT, f_listT, f_listL, f_listS, f_sum, f_sorted, f_append, f_extendL, w_trN, w_getN, w_newD, wS_mSubN, w_disp1, w_itN, w_itT, w_dc, wS_mAsgL, w_sortIt, w_idx, wS_mRz, wS_mTry1, w_fld, w_meth, w_make, wS_mSetF, w_Xf, w_IsX, wS_mIfR, wS_exc, f_rng, w_itG, w_itDn, w_itC, w_lIt, w_lVs, w_sortSet, w_cntT, List.getElem?_cons_zero, List.getElem?_cons_succ, List.set_cons_zero, List.set_cons_succ, Option.some.injEq, exists_eq_left', exists_eq_left, D.int.injEq, D.bl.injEq, D.ref.injEq, MO.lst.injEq, ↓reduceIte, Bool.false_eq_true, Bool.not_true, Bool.not_false, reduceCtorEq, true_and, and_true, List.length_cons, List.length_nil, List.cons_append, List.nil_append, List.map_cons, List.map_nil, Nat.reduceAdd, Nat.zero_add, LV.d, at1, List.length_map]
  refine ⟨by omega, wE_fin rfl ?_⟩
  rw [rowD_asc]; exact q
theorem lasc_spec (h : L.Ok) (q : Q (.tup (rowD (asc L))) S) : wE (m__law_ascending [L.d] S) X Q := by
  refine go__law_ascending ?_
  unfold b__law_ascending
  have hn := h.n
  simp only [wS_mSeq, wS_mSet, wS_mRet, wS_mRetN, wS_mDrop, wS_mIf, wS_mSub, wS_mNx, wS_mBrk, wS_mCnt, wS_mAsg, wE_ok, wE_exc, w_var, w_c, w_op, w_T, w_chain, w_tr, w_not, w_and, w_or, w_ite, w_andV, w_orV, w_notV, w_neg, w_nil, w_cons, w_tup, w_call, w_fz, w_al, w_disp, w_callL, w_R1, w_R2, w_rgL, w_rgT, w_itR, w_isi, w_met, w_noP, w_part, w_sl, w_itV, w_itE, w_itZ, w_repL, wE_mLc, wS_mFor, o_addI, o_addT, o_addL, o_sub, o_I, o_mulI, o_mulT, o_mulN, o_B, o_C, o_is, o_eqI, o_ixT, o_ixL, o_ixR, o_slT, o_slL, f_lenT, f_lenL, f_abs, f_int, f_tupL, f_tupT, f_listT, f_listL, f_listS, f_sum, f_sorted, f_append, f_extendL, w_trN, w_getN, w_newD, wS_mSubN, w_disp1, w_itN, w_itT, w_dc, wS_mAsgL, w_sortIt, w_idx, wS_mRz, wS_mTry1, w_fld, w_meth, w_make, wS_mSetF, w_Xf, w_IsX, wS_mIfR, wS_exc, f_rng, w_itG, w_itDn, w_itC, w_lIt, w_lVs, w_sortSet, w_cntT, List.getElem?_cons_zero, List.getElem?_cons_succ, List.set_cons_zero, List.set_cons_succ, Option.some.injEq, exists_eq_left', exists_eq_left, D.int.injEq, D.bl.injEq, D.ref.injEq, MO.lst.injEq, ↓reduceIte, Bool.false_eq_true, Bool.not_true, Bool.not_false, reduceCtorEq, true_and, and_true, List.length_cons, List.length_nil, List.cons_append, List.nil_append, List.map_cons, List.map_nil, Nat.reduceAdd, Nat.zero_add, LV.d, at1, List.length_map]
  refine ⟨by omega, wE_fin rfl ?_⟩
  rw [rowD_asc]; exact q
theorem check_spec (h : L.Ok) (q : Q .non S) : wE (m_check_list [L.d] S) X Q := by
  refine go_check_list ?_
  unfold b_check_list
  simp only [wS_mSeq, wS_mSet, wS_mRet, wS_mRetN, wS_mDrop, wS_mIf, wS_mSub, wS_mNx, wS_mBrk, wS_mCnt, wS_mAsg, wE_ok, wE_exc, w_var, w_c, w_op, w_T, w_chain, w_tr, w_not, w_and, w_or, w_ite, w_andV, w_orV, w_notV, w_neg, w_nil, w_cons, w_tup, w_call, w_fz, w_al, w_disp, w_callL, w_R1, w_R2, w_rgL, w_rgT, w_itR, w_isi, w_met, w_noP, w_part, w_sl, w_itV, w_itE, w_itZ, w_repL, wE_mLc, wS_mFor, o_addI, o_addT, o_addL, o_sub, o_I, o_mulI, o_mulT, o_mulN, o_B, o_C, o_is, o_eqI, o_ixT, o_ixL, o_ixR, o_slT, o_slL, f_lenT, f_lenL, f_abs, f_int, f_tupL, f_tupT, f_listT, f_listL, f_listS, f_sum, f_sorted, f_append, f_extendL, w_trN, w_getN, w_newD, wS_mSubN, w_disp1, w_itN, w_itT, w_dc, wS_mAsgL, w_sortIt, w_idx, wS_mRz, wS_mTry1, w_fld, w_meth, w_make, wS_mSetF, w_Xf, w_IsX, wS_mIfR, wS_exc, f_rng, w_itG, w_itDn, w_itC, w_lIt, w_lVs, w_sortSet, w_cntT, List.getElem?_cons_zero, List.getElem?_cons_succ, List.set_cons_zero, List.set_cons_succ, Option.some.injEq, exists_eq_left', exists_eq_left, D.int.injEq, D.bl.injEq, D.ref.injEq, MO.lst.injEq, ↓reduceIte, Bool.false_eq_true, Bool.not_true, Bool.not_false, reduceCtorEq, true_and, and_true, List.length_cons, List.length_nil, List.cons_append, List.nil_append, List.map_cons, List.map_nil, Nat.reduceAdd, Nat.zero_add]
  refine list_spec L.pure ?_
  rw [h.listOk]
  simp only [wS_mSeq, wS_mSet, wS_mRet, wS_mRetN, wS_mDrop, wS_mIf, wS_mSub, wS_mNx, wS_mBrk, wS_mCnt, wS_mAsg, wE_ok, wE_exc, w_var, w_c, w_op, w_T, w_chain, w_tr, w_not, w_and, w_or, w_ite, w_andV, w_orV, w_notV, w_neg, w_nil, w_cons, w_tup, w_call, w_fz, w_al, w_disp, w_callL, w_R1, w_R2, w_rgL, w_rgT, w_itR, w_isi, w_met, w_noP, w_part, w_sl, w_itV, w_itE, w_itZ, w_repL, wE_mLc, wS_mFor, o_addI, o_addT, o_addL, o_sub, o_I, o_mulI, o_mulT, o_mulN, o_B, o_C, o_is, o_eqI, o_ixT, o_ixL, o_ixR, o_slT, o_slL, f_lenT, f_lenL, f_abs, f_int, f_tupL, f_tupT, f_listT, f_listL, f_listS, f_sum, f_sorted, f_append, f_extendL, w_trN, w_getN, w_newD, wS_mSubN, w_disp1, w_itN, w_itT, w_dc, wS_mAsgL, w_sortIt, w_idx, wS_mRz, wS_mTry1, w_fld, w_meth, w_make, wS_mSetF, w_Xf, w_IsX, wS_mIfR, wS_exc, f_rng, w_itG, w_itDn, w_itC, w_lIt, w_lVs, w_sortSet, w_cntT, List.getElem?_cons_zero, List.getElem?_cons_succ, List.set_cons_zero, List.set_cons_succ, Option.some.injEq, exists_eq_left', exists_eq_left, D.int.injEq, D.bl.injEq, D.ref.injEq, MO.lst.injEq, ↓reduceIte, Bool.false_eq_true, Bool.not_true, Bool.not_false, reduceCtorEq, true_and, and_true, List.length_cons, List.length_nil, List.cons_append, List.nil_append, List.map_cons, List.map_nil, Nat.reduceAdd, Nat.zero_add, DL.isNon, kindD, Ty.has, truD]
  exact wE_fin rfl q
noncomputable def numF (L : LV) (c : List Int) : Option Nat := firstM L (asc L) c
noncomputable def agB (L : LV) (row : List Nat) (c : List Int) : Bool := !(actO L (firstM L row c) == actO L (numF L c))
theorem ldecision_spec (h : L.Ok) (hc : c.length = L.ws.length) (q : Q (.int (actO L (numF L c))) S) : wE (m__law_decision [L.d, caseD c] S) X Q := by
  refine go__law_decision ?_
  unfold b__law_decision
  simp only [wS_mSeq, wS_mSet, wS_mRet, wS_mRetN, wS_mDrop, wS_mIf, wS_mSub, wS_mNx, wS_mBrk, wS_mCnt, wS_mAsg, wE_ok, wE_exc, w_var, w_c, w_op, w_T, w_chain, w_tr, w_not, w_and, w_or, w_ite, w_andV, w_orV, w_notV, w_neg, w_nil, w_cons, w_tup, w_call, w_fz, w_al, w_disp, w_callL, w_R1, w_R2, w_rgL, w_rgT, w_itR, w_isi, w_met, w_noP, w_part, w_sl, w_itV, w_itE, w_itZ, w_repL, wE_mLc, wS_mFor, o_addI, o_addT, o_addL, o_sub, o_I, o_mulI, o_mulT, o_mulN, o_B, o_C, o_is, o_eqI, o_ixT, o_ixL, o_ixR, o_slT, o_slL, f_lenT, f_lenL, f_abs, f_int, f_tupL, f_tupT, f_listT, f_listL, f_listS, f_sum, f_sorted, f_append, f_extendL, w_trN, w_getN, w_newD, wS_mSubN, w_disp1, w_itN, w_itT, w_dc, wS_mAsgL, w_sortIt, w_idx, wS_mRz, wS_mTry1, w_fld, w_meth, w_make, wS_mSetF, w_Xf, w_IsX, wS_mIfR, wS_exc, f_rng, w_itG, w_itDn, w_itC, w_lIt, w_lVs, w_sortSet, w_cntT, List.getElem?_cons_zero, List.getElem?_cons_succ, List.set_cons_zero, List.set_cons_succ, Option.some.injEq, exists_eq_left', exists_eq_left, D.int.injEq, D.bl.injEq, D.ref.injEq, MO.lst.injEq, ↓reduceIte, Bool.false_eq_true, Bool.not_true, Bool.not_false, reduceCtorEq, true_and, and_true, List.length_cons, List.length_nil, List.cons_append, List.nil_append, List.map_cons, List.map_nil, Nat.reduceAdd, Nat.zero_add]
  refine lasc_spec h ?_
  refine ldecided_spec h asc_lt hc ?_
  simp only [wS_mSeq, wS_mSet, wS_mRet, wS_mRetN, wS_mDrop, wS_mIf, wS_mSub, wS_mNx, wS_mBrk, wS_mCnt, wS_mAsg, wE_ok, wE_exc, w_var, w_c, w_op, w_T, w_chain, w_tr, w_not, w_and, w_or, w_ite, w_andV, w_orV, w_notV, w_neg, w_nil, w_cons, w_tup, w_call, w_fz, w_al, w_disp, w_callL, w_R1, w_R2, w_rgL, w_rgT, w_itR, w_isi, w_met, w_noP, w_part, w_sl, w_itV, w_itE, w_itZ, w_repL, wE_mLc, wS_mFor, o_addI, o_addT, o_addL, o_sub, o_I, o_mulI, o_mulT, o_mulN, o_B, o_C, o_is, o_eqI, o_ixT, o_ixL, o_ixR, o_slT, o_slL, f_lenT, f_lenL, f_abs, f_int, f_tupL, f_tupT, f_listT, f_listL, f_listS, f_sum, f_sorted, f_append, f_extendL, w_trN, w_getN, w_newD, wS_mSubN, w_disp1, w_itN, w_itT, w_dc, wS_mAsgL, w_sortIt, w_idx, wS_mRz, wS_mTry1, w_fld, w_meth, w_make, wS_mSetF, w_Xf, w_IsX, wS_mIfR, wS_exc, f_rng, w_itG, w_itDn, w_itC, w_lIt, w_lVs, w_sortSet, w_cntT, List.getElem?_cons_zero, List.getElem?_cons_succ, List.set_cons_zero, List.set_cons_succ, Option.some.injEq, exists_eq_left', exists_eq_left, D.int.injEq, D.bl.injEq, D.ref.injEq, MO.lst.injEq, ↓reduceIte, Bool.false_eq_true, Bool.not_true, Bool.not_false, reduceCtorEq, true_and, and_true, List.length_cons, List.length_nil, List.cons_append, List.nil_append, List.map_cons, List.map_nil, Nat.reduceAdd, Nat.zero_add, decD, at20]
  exact wE_fin rfl q
noncomputable def needC (L : LV) (row : List Nat) : Option (List Int) := (casesL L.ws).find? (agB L row)
noncomputable def decsD (L : LV) : D := .lst ((casesL L.ws).map fun c => .tup [caseD c, numD (numF L c)])
def oth (L : LV) (n : Nat) : List Nat := (asc L).filter fun m => !(m == n)
theorem filter_row {p : Nat → Bool} {row : List Nat} {t : D → Bool} (h : ∀ n ∈ row, t (.int (n : Nat)) = p n) : ((rowD row).filter t).map id = rowD (row.filter p) := by
  rw [List.map_id]
  unfold rowD
  rw [List.filter_map]
  congr 1
  refine List.filter_congr fun n hn => ?_
  exact h n hn
def tInt (p : Nat → Bool) : D → Bool
  | .int i => p i.toNat
  | _ => false
theorem row_filter_wp {p : Nat → Bool} {row : List Nat} {T : Tg} {tt : MB} {elt : ME} {rho : EnvD} {QL : List D → Sto → Prop} (hl : row.length ≤ 100) (h : ∀ n ∈ row, ∃ r, tgSet T (.int (n : Nat)) rho = some r ∧ (∀ (X : Ex → Sto → Prop) (Q : Bool → Sto → Prop), Q (p n) S → wE (tt r S) X Q) ∧ (∀ (X : Ex → Sto → Prop) (Q : D → Sto → Prop), Q (.int (n : Nat)) S → wE (elt r S) X Q)) (q : QL (rowD (row.filter p)) S) : wE (foldL none (lcStep T tt elt rho) (rowD row) [] S) X QL := by
  refine filter_wp (t := tInt p) (f := id) (fun d hd => ?_) (by rw [row_len]; omega) (by rw [filter_row (p := p) (t := tInt p) (fun n _ => by simp [tInt])]; exact q)
  obtain ⟨n, hn, rfl⟩ := row_mem hd
  obtain ⟨r, e, h1, h2⟩ := h n hn
  exact ⟨r, e, fun X Q q => h1 X Q (by simpa [tInt] using q), fun _ X Q q => h2 X Q q⟩
end
end LW
namespace LW
open PySem PySem.Spec PyProof.Rows L2 DL
section
variable {T : Tg} {tt : MB} {elt : ME} {rho : EnvD} {S : Sto} {X : Ex → Sto → Prop} {QL : List D → Sto → Prop}
theorem enc_wp0 {α : Type} {enc g : α → D} {p : α → Bool} : ∀ {xs : List α} {acc : List D}, (∀ x ∈ xs, ∃ r, tgSet T (enc x) rho = some r ∧ (∀ (X : Ex → Sto → Prop) (Q : Bool → Sto → Prop), Q (p x) S → wE (tt r S) X Q) ∧ (p x = true → ∀ (X : Ex → Sto → Prop) (Q : D → Sto → Prop), Q (g x) S → wE (elt r S) X Q)) → acc.length + xs.length ≤ 16777216 → QL (acc ++ (xs.filter p).map g) S → wE (foldL none (lcStep T tt elt rho) (xs.map enc) acc S) X QL
  | [], acc, h, hl, q => by rw [List.map_nil, foldL_nil, wE_ok]; simpa using q
  | x :: xs, acc, h, hl, q => by
    rw [List.map_cons, foldL_cons]
    have hl2 : acc.length + (xs.length + 1) ≤ 16777216 := hl
    obtain ⟨r, er, h1, h2⟩ := h x (List.mem_cons_self ..)
    have e1 : tt r S = .ok (p x) S := wE_eq (h1 _ _ ⟨rfl, rfl⟩)
    unfold lcStep
    simp only [er, e1]
    cases ep : p x with
    | false =>
      simp only [Bool.false_eq_true, if_false]
      exact enc_wp0 (fun y hy => h y (List.mem_cons_of_mem _ hy)) (by omega) (by simpa [List.filter_cons, ep] using q)
    | true =>
      have e2 : elt r S = .ok (g x) S := wE_eq (h2 ep _ _ ⟨rfl, rfl⟩)
      simp only [if_true, lcPush, e2, if_pos (show acc.length < 16777216 by omega)]
      refine enc_wp0 (fun y hy => h y (List.mem_cons_of_mem _ hy)) (by rw [List.length_append]; show acc.length + 1 + xs.length ≤ _; omega) ?_
      simpa [List.filter_cons, ep] using q
theorem enc_wp {α : Type} {enc : α → D} {xs : List α} (g : α → D) (p : α → Bool) (hl : xs.length ≤ 100000) (h : ∀ x ∈ xs, ∃ r, tgSet T (enc x) rho = some r ∧ (∀ (X : Ex → Sto → Prop) (Q : Bool → Sto → Prop), Q (p x) S → wE (tt r S) X Q) ∧ (p x = true → ∀ (X : Ex → Sto → Prop) (Q : D → Sto → Prop), Q (g x) S → wE (elt r S) X Q)) (q : QL ((xs.filter p).map g) S) : wE (foldL none (lcStep T tt elt rho) (xs.map enc) [] S) X QL :=
  enc_wp0 h (by simp; omega) (by simpa using q)
theorem enc_map {α : Type} {enc : α → D} {xs : List α} (g : α → D) (hl : xs.length ≤ 100000) (h : ∀ x ∈ xs, ∃ r, tgSet T (enc x) rho = some r ∧ ∀ (X : Ex → Sto → Prop) (Q : D → Sto → Prop), Q (g x) S → wE (elt r S) X Q) (q : QL (xs.map g) S) : wE (foldL none (lcStep T mYes elt rho) (xs.map enc) [] S) X QL := by
  refine enc_wp g (fun _ => true) hl (fun x hx => ?_) (by rw [List.filter_eq_self.mpr (by simp)]; exact q)
  obtain ⟨r, e, h1⟩ := h x hx
  exact ⟨r, e, fun X Q q => by unfold mYes; rw [wE_ok]; exact q, fun _ X Q q => h1 X Q q⟩
end
theorem atI_cons0 {α : Type} {x : α} {xs : List α} : atI (x :: xs) 0 = some x := by
  have := atI_nat' (xs := x :: xs) (i := 0)
  simpa using this
section
variable {L : LV} {row : List Nat} {c : List Int} {S : Sto} {X : Ex → Sto → Prop} {Q : D → Sto → Prop} {n : Nat}
noncomputable def ownC (L : LV) (n : Nat) : Option (List Int) := (casesL L.ws).find? fun c => numF L c == some n
noncomputable def idleR (L : LV) : List Nat := (asc L).filter fun n => (ownC L n).isNone
noncomputable def goR (L : LV) : List Nat := (asc L).filter fun n => (needC L (oth L n)).isNone
/-! the law's own words -/
theorem lcases_spec (h : L.Ok) (q : Q (.lst ((casesL L.ws).map caseD)) S) : wE (m__law_cases [.tup (L.ws.map .int)] S) X Q := by
  refine go__law_cases ?_
  unfold b__law_cases
  have hn := h.l2
  have hw := h.w
  generalize L.ws = ws at hn hw q ⊢
  simp only [wS_mSeq, wS_mSet, wS_mRet, wS_mRetN, wS_mDrop, wS_mIf, wS_mSub, wS_mNx, wS_mBrk, wS_mCnt, wS_mAsg, wE_ok, wE_exc, w_var, w_c, w_op, w_T, w_chain, w_tr, w_not, w_and, w_or, w_ite, w_andV, w_orV, w_notV, w_neg, w_nil, w_cons, w_tup, w_call, w_fz, w_al, w_disp, w_callL, w_R1, w_R2, w_rgL, w_rgT, w_itR, w_isi, w_met, w_noP, w_part, w_sl, w_itV, w_itE, w_itZ, w_repL, wE_mLc, wS_mFor, o_addI, o_addT, o_addL, o_sub, o_I, o_mulI, o_mulT, o_mulN, o_B, o_C, o_is, o_eqI, o_ixT, o_ixL, o_ixR, o_slT, o_slL, f_lenT, f_lenL, f_abs, f_int, f_tupL, f_tupT, f_listT, f_listL, f_listS, f_sum, f_sorted, f_append, f_extendL, w_trN, w_getN, w_newD, wS_mSubN, w_disp1, w_itN, w_itT, w_dc, wS_mAsgL, w_sortIt, w_idx, wS_mRz, wS_mTry1, w_fld, w_meth, w_make, wS_mSetF, w_Xf, w_IsX, wS_mIfR, wS_exc, f_rng, w_itG, w_itDn, w_itC, w_lIt, w_lVs, w_sortSet, w_cntT, List.getElem?_cons_zero, List.getElem?_cons_succ, List.set_cons_zero, List.set_cons_succ, Option.some.injEq, exists_eq_left', exists_eq_left, D.int.injEq, D.bl.injEq, D.ref.injEq, MO.lst.injEq, ↓reduceIte, Bool.false_eq_true, Bool.not_true, Bool.not_false, reduceCtorEq, true_and, and_true, List.length_cons, List.length_nil, List.cons_append, List.nil_append, List.map_cons, List.map_nil, Nat.reduceAdd, Nat.zero_add]
  refine ⟨by decide, by decide, ?_⟩
  refine loop_wp (I := fun rest rho S' => ∃ a b x2 x3 x4 x5, ws = a ++ b ∧ rest = b.map .int ∧ rho = [some (.tup (ws.map .int)), some (.lst ((casesL a).map caseD)), x2, x3, x4, x5] ∧ S' = S) (fun d rest rho S' hI => ?_) ⟨[], ws, _, _, _, _, rfl, rfl, rfl, rfl⟩ fun rho S' hI => ?_
  · obtain ⟨a, b, x2, x3, x4, x5, e, hb, rfl, rfl⟩ := hI
    cases b with
    | nil => cases hb
    | cons w b =>
      obtain ⟨rfl, rfl⟩ := List.cons.inj hb
      have hwm := hw w (by rw [e]; simp)
      have ha : (casesL (a ++ [w])) = longer (casesL a) w := by simp [casesL, List.foldl_append]
      have hl : a.length ≤ 2 := by have := congrArg List.length e; simp at this; omega
      have hc : (casesL a).length ≤ 64 := by
        have h1 := cases_len (ws := a) fun x hx => (hw x (by rw [e]; simp [hx])).2
        have h2 : 8 ^ a.length ≤ 8 ^ 2 := Nat.pow_le_pow_right (by decide) hl
        omega
      simp only [tgSet, wS_mSeq, wS_mSet, wS_mRet, wS_mRetN, wS_mDrop, wS_mIf, wS_mSub, wS_mNx, wS_mBrk, wS_mCnt, wS_mAsg, wE_ok, wE_exc, w_var, w_c, w_op, w_T, w_chain, w_tr, w_not, w_and, w_or, w_ite, w_andV, w_orV, w_notV, w_neg, w_nil, w_cons, w_tup, w_call, w_fz, w_al, w_disp, w_callL, w_R1, w_R2, w_rgL, w_rgT, w_itR, w_isi, w_met, w_noP, w_part, w_sl, w_itV, w_itE, w_itZ, w_repL, wE_mLc, wS_mFor, o_addI, o_addT, o_addL, o_sub, o_I, o_mulI, o_mulT, o_mulN, o_B, o_C, o_is, o_eqI, o_ixT, o_ixL, o_ixR, o_slT, o_slL, f_lenT, f_lenL, f_abs, f_int, f_tupL, f_tupT, f_listT, f_listL, f_listS, f_sum, f_sorted, f_append, f_extendL, w_trN, w_getN, w_newD, wS_mSubN, w_disp1, w_itN, w_itT, w_dc, wS_mAsgL, w_sortIt, w_idx, wS_mRz, wS_mTry1, w_fld, w_meth, w_make, wS_mSetF, w_Xf, w_IsX, wS_mIfR, wS_exc, f_rng, w_itG, w_itDn, w_itC, w_lIt, w_lVs, w_sortSet, w_cntT, List.getElem?_cons_zero, List.getElem?_cons_succ, List.set_cons_zero, List.set_cons_succ, Option.some.injEq, exists_eq_left', exists_eq_left, D.int.injEq, D.bl.injEq, D.ref.injEq, MO.lst.injEq, ↓reduceIte, Bool.false_eq_true, Bool.not_true, Bool.not_false, reduceCtorEq, true_and, and_true, List.length_cons, List.length_nil, List.cons_append, List.nil_append, List.map_cons, List.map_nil, Nat.reduceAdd, Nat.zero_add]
      refine ⟨by decide, ?_⟩
      have hm : ∀ c ∈ casesL a, c.length ≤ 2 := fun c hc' => by rw [case_len hc']; exact hl
      generalize hR : casesL a = R at hc ha hm ⊢
      refine loop_wp (I := fun rest rho S2 => ∃ p q' y4 y5, R = p ++ q' ∧ rest = q'.map caseD ∧ rho = [some (.tup (ws.map .int)), some (.lst (R.map caseD)), some (.int w), some (.lst ((longer p w).map caseD)), y4, y5] ∧ S2 = S') (fun d rest rho S2 hI => ?_) ⟨[], R, _, _, rfl, rfl, rfl, rfl⟩ fun rho S2 hI => ?_
      · obtain ⟨p, q', y4, y5, e2, hb2, rfl, rfl⟩ := hI
        cases q' with
        | nil => cases hb2
        | cons c q' =>
          obtain ⟨rfl, rfl⟩ := List.cons.inj hb2
          have hcm := hm c (by rw [e2]; simp)
          simp only [tgSet, wS_mSeq, wS_mSet, wS_mRet, wS_mRetN, wS_mDrop, wS_mIf, wS_mSub, wS_mNx, wS_mBrk, wS_mCnt, wS_mAsg, wE_ok, wE_exc, w_var, w_c, w_op, w_T, w_chain, w_tr, w_not, w_and, w_or, w_ite, w_andV, w_orV, w_notV, w_neg, w_nil, w_cons, w_tup, w_call, w_fz, w_al, w_disp, w_callL, w_R1, w_R2, w_rgL, w_rgT, w_itR, w_isi, w_met, w_noP, w_part, w_sl, w_itV, w_itE, w_itZ, w_repL, wE_mLc, wS_mFor, o_addI, o_addT, o_addL, o_sub, o_I, o_mulI, o_mulT, o_mulN, o_B, o_C, o_is, o_eqI, o_ixT, o_ixL, o_ixR, o_slT, o_slL, f_lenT, f_lenL, f_abs, f_int, f_tupL, f_tupT, f_listT, f_listL, f_listS, f_sum, f_sorted, f_append, f_extendL, w_trN, w_getN, w_newD, wS_mSubN, w_disp1, w_itN, w_itT, w_dc, wS_mAsgL, w_sortIt, w_idx, wS_mRz, wS_mTry1, w_fld, w_meth, w_make, wS_mSetF, w_Xf, w_IsX, wS_mIfR, wS_exc, f_rng, w_itG, w_itDn, w_itC, w_lIt, w_lVs, w_sortSet, w_cntT, List.getElem?_cons_zero, List.getElem?_cons_succ, List.set_cons_zero, List.set_cons_succ, Option.some.injEq, exists_eq_left', exists_eq_left, D.int.injEq, D.bl.injEq, D.ref.injEq, MO.lst.injEq, ↓reduceIte, Bool.false_eq_true, Bool.not_true, Bool.not_false, reduceCtorEq, true_and, and_true, List.length_cons, List.length_nil, List.cons_append, List.nil_append, List.map_cons, List.map_nil, Nat.reduceAdd, Nat.zero_add]
          refine ⟨by omega, ?_⟩
          rw [rgD_rgI]
          have hrl : (rgI w).length = w.toNat := by simp [rgI]
          refine enc_map (fun v => caseD (c ++ [v])) (by rw [hrl]; omega) (fun v hv => ⟨_, rfl, fun X Q q => ?_⟩) ?_
          · simp only [wS_mSeq, wS_mSet, wS_mRet, wS_mRetN, wS_mDrop, wS_mIf, wS_mSub, wS_mNx, wS_mBrk, wS_mCnt, wS_mAsg, wE_ok, wE_exc, w_var, w_c, w_op, w_T, w_chain, w_tr, w_not, w_and, w_or, w_ite, w_andV, w_orV, w_notV, w_neg, w_nil, w_cons, w_tup, w_call, w_fz, w_al, w_disp, w_callL, w_R1, w_R2, w_rgL, w_rgT, w_itR, w_isi, w_met, w_noP, w_part, w_sl, w_itV, w_itE, w_itZ, w_repL, wE_mLc, wS_mFor, o_addI, o_addT, o_addL, o_sub, o_I, o_mulI, o_mulT, o_mulN, o_B, o_C, o_is, o_eqI, o_ixT, o_ixL, o_ixR, o_slT, o_slL, f_lenT, f_lenL, f_abs, f_int, f_tupL, f_tupT, f_listT, f_listL, f_listS, f_sum, f_sorted, f_append, f_extendL, w_trN, w_getN, w_newD, wS_mSubN, w_disp1, w_itN, w_itT, w_dc, wS_mAsgL, w_sortIt, w_idx, wS_mRz, wS_mTry1, w_fld, w_meth, w_make, wS_mSetF, w_Xf, w_IsX, wS_mIfR, wS_exc, f_rng, w_itG, w_itDn, w_itC, w_lIt, w_lVs, w_sortSet, w_cntT, List.getElem?_cons_zero, List.getElem?_cons_succ, List.set_cons_zero, List.set_cons_succ, Option.some.injEq, exists_eq_left', exists_eq_left, D.int.injEq, D.bl.injEq, D.ref.injEq, MO.lst.injEq, ↓reduceIte, Bool.false_eq_true, Bool.not_true, Bool.not_false, reduceCtorEq, true_and, and_true, List.length_cons, List.length_nil, List.cons_append, List.nil_append, List.map_cons, List.map_nil, Nat.reduceAdd, Nat.zero_add, wipeD, caseD, List.length_map]
            refine ⟨by decide, by omega, ?_⟩
            simpa [caseD] using q
          · simp only [wS_mSeq, wS_mSet, wS_mRet, wS_mRetN, wS_mDrop, wS_mIf, wS_mSub, wS_mNx, wS_mBrk, wS_mCnt, wS_mAsg, wE_ok, wE_exc, w_var, w_c, w_op, w_T, w_chain, w_tr, w_not, w_and, w_or, w_ite, w_andV, w_orV, w_notV, w_neg, w_nil, w_cons, w_tup, w_call, w_fz, w_al, w_disp, w_callL, w_R1, w_R2, w_rgL, w_rgT, w_itR, w_isi, w_met, w_noP, w_part, w_sl, w_itV, w_itE, w_itZ, w_repL, wE_mLc, wS_mFor, o_addI, o_addT, o_addL, o_sub, o_I, o_mulI, o_mulT, o_mulN, o_B, o_C, o_is, o_eqI, o_ixT, o_ixL, o_ixR, o_slT, o_slL, f_lenT, f_lenL, f_abs, f_int, f_tupL, f_tupT, f_listT, f_listL, f_listS, f_sum, f_sorted, f_append, f_extendL, w_trN, w_getN, w_newD, wS_mSubN, w_disp1, w_itN, w_itT, w_dc, wS_mAsgL, w_sortIt, w_idx, wS_mRz, wS_mTry1, w_fld, w_meth, w_make, wS_mSetF, w_Xf, w_IsX, wS_mIfR, wS_exc, f_rng, w_itG, w_itDn, w_itC, w_lIt, w_lVs, w_sortSet, w_cntT, List.getElem?_cons_zero, List.getElem?_cons_succ, List.set_cons_zero, List.set_cons_succ, Option.some.injEq, exists_eq_left', exists_eq_left, D.int.injEq, D.bl.injEq, D.ref.injEq, MO.lst.injEq, ↓reduceIte, Bool.false_eq_true, Bool.not_true, Bool.not_false, reduceCtorEq, true_and, and_true, List.length_cons, List.length_nil, List.cons_append, List.nil_append, List.map_cons, List.map_nil, Nat.reduceAdd, Nat.zero_add, List.length_map, longer_len, hrl]
            have hp : p.length ≤ 64 := by have := congrArg List.length e2; simp at this; omega
            have hpw : p.length * w.toNat ≤ 64 * 8 := Nat.mul_le_mul hp (by omega)
            have eL : (longer (p ++ [c]) w).map caseD = (longer p w).map caseD ++ (rgI w).map (fun v => caseD (c ++ [v])) := by
              simp [longer, List.map_map, Function.comp_def]
            refine ⟨by omega, p ++ [c], q', some (caseD c), y5, by rw [e2]; simp, rfl, by rw [eL]⟩
      · obtain ⟨p, q', y4, y5, e2, hb2, rfl, rfl⟩ := hI
        have : q' = [] := by simpa using hb2.symm
        subst this
        rw [List.append_nil] at e2
        subst e2
        exact ⟨_, rfl, a ++ [w], b, some (.int w), some (.lst ((longer R w).map caseD)), y4, y5, by rw [e]; simp, rfl, by rw [ha]; rfl, rfl⟩
  · obtain ⟨a, b, x2, x3, x4, x5, e, hb, rfl, rfl⟩ := hI
    have : b = [] := by simpa using hb.symm
    subst this
    rw [List.append_nil] at e
    subst e
    exact ⟨_, rfl, wE_fin rfl q⟩
end
end LW

namespace LW
open PySem PySem.Spec PyProof.Rows L2 DL
section
variable {L : LV} {S : Sto} {X : Ex → Sto → Prop} {Q : D → Sto → Prop}
theorem ix0 : wE (opIx L.d (.int 0) S) X Q = Q (.tup (L.ws.map .int)) S := by unfold LV.d; rw [o_ixT]; simp [at0]
theorem ix1 : wE (opIx L.d (.int 1) S) X Q = Q (.tup (L.rules.map ruleD)) S := by unfold LV.d; rw [o_ixT]; simp [at1]
theorem ix2 : wE (opIx L.d (.int 2) S) X Q = Q (.int L.rest) S := by unfold LV.d; rw [o_ixT]; simp [at2]
end
end LW

namespace LW
open PySem PySem.Spec PyProof.Rows L2 DL
end LW

namespace LW
open PySem PySem.Spec PyProof.Rows L2 DL
/-! ### boxes of cases -/
abbrev Box := List (Int × Int)
def casesS : List Int → List (List Int)
  | [] => [[]]
  | w :: ws => (rgI w).flatMap fun v => (casesS ws).map (v :: ·)
/-! how many -/
def sizeB : Box → Int
  | [] => 1
  | p :: rs => (p.2 - p.1 + 1) * sizeB rs
/-! one box within another -/
def contM (a b : Box) : Bool := (a.zip b).all fun pq => decide (pq.1.1 ≤ pq.2.1) && decide (pq.2.2 ≤ pq.1.2)
/-- a case made place by place -/
def mkC (n : Nat) (f : Nat → Int) : List Int := (List.range n).map f
def bAt (a : Box) (i : Nat) : Int × Int := (a[i]?).getD (0, 0)
/-! two boxes joined -/
def pLe (p q : Int × Int) : Bool := !DL.lessD (pairD q) (pairD p)
def unlM (a b : Box) : List Nat := (List.range a.length).filter fun i => !decide (bAt a i = bAt b i)
def joinP (p q : Int × Int) : Option (Int × Int) := if pLe p q = true then (if q.1 > p.2 + 1 then none else some (p.1, max p.2 q.2)) else (if p.1 > q.2 + 1 then none else some (q.1, max q.2 p.2))
def joinM (a b : Box) : Option Box := if contM a b = true then some a else if contM b a = true then some b else match unlM a b with
  | [i] => (joinP (bAt a i) (bAt b i)).map fun p => a.take i ++ [p] ++ a.drop (i + 1)
  | _ => none
section
variable {ws : List Int} {a b R : Box}
end
end LW

namespace LW
open PySem PySem.Spec PyProof.Rows L2 DL
/-! ### dicts with keys of one type -/
section
variable {κ β : Type} [DecidableEq κ] {enc : κ → D} {encv : β → D}
def lookT (kvs : List (κ × β)) (k : κ) : Option β := (kvs.find? fun kv => decide (kv.1 = k)).map (·.2)
def putT (kvs : List (κ × β)) (k : κ) (v : β) : List (κ × β) := if kvs.any (fun kv => decide (kv.1 = k)) = true then kvs.map (fun kv => if kv.1 = k then (kv.1, v) else kv) else kvs ++ [(k, v)]
def encT (enc : κ → D) (encv : β → D) (kvs : List (κ × β)) : Kvs := kvs.map fun kv => (enc kv.1, encv kv.2)
def InjK (enc : κ → D) : Prop := ∀ a b, nkD (enc a) = nkD (enc b) → a = b
theorem InjK.iff (h : InjK enc) {a b : κ} : nkD (enc a) = nkD (enc b) ↔ a = b := ⟨h a b, fun e => by rw [e]⟩
theorem look_enc (h : InjK enc) {k : κ} : ∀ {kvs : List (κ × β)}, lookN (encT enc encv kvs) (enc k) = (lookT kvs k).map encv
  | [] => rfl
  | kv :: kvs => by
    show lookN ((enc kv.1, encv kv.2) :: encT enc encv kvs) (enc k) = _
    rw [lookN_cons, look_enc h (kvs := kvs)]
    unfold lookT
    rw [List.find?_cons]
    by_cases e : kv.1 = k
    · rw [if_pos (h.iff.mpr e)]; simp [e]
    · rw [if_neg (fun z => e (h _ _ z))]; simp [e]
theorem any_enc (h : InjK enc) {k : κ} {kvs : List (κ × β)} : (encT enc encv kvs).any (fun kv => decide (nkD kv.1 = nkD (enc k))) = kvs.any fun kv => decide (kv.1 = k) := by
  unfold encT
  rw [List.any_map]
  congr 1
  funext kv
  show decide (nkD (enc kv.1) = nkD (enc k)) = decide (kv.1 = k)
  rw [decide_eq_decide]; exact h.iff
theorem put_enc (h : InjK enc) {k : κ} {v : β} {kvs : List (κ × β)} : putN (encT enc encv kvs) (enc k) (encv v) = encT enc encv (putT kvs k v) := by
  unfold putN putT
  rw [any_enc h]
  split
  · unfold encT
    rw [List.map_map, List.map_map]
    congr 1
    funext kv
    show (if nkD (enc kv.1) = nkD (enc k) then _ else _) = _
    by_cases e : kv.1 = k
    · rw [if_pos (h.iff.mpr e)]; simp [e]
    · rw [if_neg (fun z => e (h _ _ z))]; simp [e]
  · unfold encT; simp
theorem lookT_cons {kv : κ × β} {kvs : List (κ × β)} {k : κ} : lookT (kv :: kvs) k = if kv.1 = k then some kv.2 else lookT kvs k := by
  unfold lookT
  rw [List.find?_cons]
  by_cases e : kv.1 = k <;> simp [e]
theorem any_keys {kvs : List (κ × β)} {k : κ} : kvs.any (fun kv => decide (kv.1 = k)) = true ↔ k ∈ kvs.map (·.1) := by
  rw [List.any_eq_true, List.mem_map]
  exact ⟨fun ⟨kv, h, e⟩ => ⟨kv, h, of_decide_eq_true e⟩, fun ⟨kv, h, e⟩ => ⟨kv, h, decide_eq_true e⟩⟩
theorem putT_keys {kvs : List (κ × β)} {k : κ} {v : β} : (putT kvs k v).map (·.1) = if k ∈ kvs.map (·.1) then kvs.map (·.1) else kvs.map (·.1) ++ [k] := by
  unfold putT
  by_cases e : k ∈ kvs.map (·.1)
  · rw [if_pos e, if_pos (any_keys.mpr e), List.map_map]
    congr 1
    funext kv
    show (if kv.1 = k then (kv.1, v) else kv).1 = kv.1
    split <;> rfl
  · rw [if_neg e, if_neg (fun z => e (any_keys.mp z))]; simp
theorem putT_nodup {kvs : List (κ × β)} {k : κ} {v : β} (h : (kvs.map (·.1)).Nodup) : ((putT kvs k v).map (·.1)).Nodup := by
  rw [putT_keys]
  split
  · exact h
  · rename_i e
    rw [List.nodup_append]
    exact ⟨h, by simp, fun a ha b hb => by rw [List.mem_singleton.mp hb]; exact fun z => e (z ▸ ha)⟩
theorem encT_len {kvs : List (κ × β)} : (encT enc encv kvs).length = kvs.length := by simp [encT]
theorem encT_keys {kvs : List (κ × β)} : (encT enc encv kvs).map (·.1) = (kvs.map (·.1)).map enc := by simp [encT]
theorem putT_len {kvs : List (κ × β)} {k : κ} {v : β} : (putT kvs k v).length ≤ kvs.length + 1 := by
  unfold putT; split <;> simp
/-! how often each key came -/
def cntK {α : Type} (key : α → κ) (cs : List α) (k : κ) : Nat := (cs.filter fun c => decide (key c = k)).length
def tally {α : Type} (key : α → κ) (cs : List α) : List (κ × Nat) := cs.foldl (fun acc c => putT acc (key c) ((lookT acc (key c)).getD 0 + 1)) []
theorem snoc_ind {α : Type} {P : List α → Prop} (h0 : P []) (h1 : ∀ l a, P l → P (l ++ [a])) : ∀ l, P l := by
  have : ∀ l : List α, P l.reverse := by
    intro l
    induction l with
    | nil => exact h0
    | cons a l ih => rw [List.reverse_cons]; exact h1 _ _ ih
  intro l
  have := this l.reverse
  rwa [List.reverse_reverse] at this
end
/-! rows as keys -/
def rowK (row : List Nat) : D := .tup (rowD row)
theorem nkL_row : ∀ row : List Nat, nkL (rowD row) = some (row.map fun n : Nat => NestedKey.num n)
  | [] => rfl
  | n :: row => by
    show nkL (D.int n :: rowD row) = _
    simp only [nkL, nkL_row row, nkD]
    rfl
theorem inj_row : InjK rowK := fun a b h => by
  unfold rowK at h
  simp only [nkD, nkL_row] at h
  injection h with h
  injection h with h
  have key : ∀ a b : List Nat, (a.map fun n : Nat => NestedKey.num n) = b.map (fun n : Nat => NestedKey.num n) → a = b := by
    intro a
    induction a with
    | nil => intro b h; cases b with
      | nil => rfl
      | cons => cases h
    | cons x a ih => intro b h; cases b with
      | nil => cases h
      | cons y b =>
        rw [List.map_cons, List.map_cons] at h
        injection h with h1 h2
        injection h1 with h1
        rw [ih b h2, show x = y by omega]
  exact key a b h
theorem okTD_row {row : List Nat} : okTD (rowK row) = true := by
  unfold okTD rowK
  simp only [nkD, nkL_row, Option.isSome_some, Bool.true_and]
  show decide (dpL (rowD row) + 1 ≤ 8) = true
  rw [dp_row]; rfl
theorem alike_row : ∀ a b : List Nat, alikeL (rowD a) (rowD b) = true
  | [], _ => by cases ‹List Nat› <;> rfl
  | x :: a, [] => rfl
  | x :: a, y :: b => by
    show (true && alikeL (rowD a) (rowD b)) = true
    rw [alike_row a b]; rfl
theorem okL_row {row : List Nat} : okL (rowD row) = true := by
  induction row with
  | nil => rfl
  | cons n row ih => show (true && okL (rowD row)) = true; rw [ih]; rfl
theorem sortOk_rows {rows : List (List Nat)} (h : rows.length ≤ 100000) : sortOk (rows.map rowK) = true := by
  unfold sortOk
  simp only [Bool.and_eq_true, decide_eq_true_eq, List.length_map]
  refine ⟨⟨⟨⟨?_, ?_⟩, ?_⟩, ?_⟩, by omega⟩
  · induction rows with
    | nil => rfl
    | cons r rows ih => show (okL (rowD r) && okL (rows.map rowK)) = true; rw [okL_row, ih (by simp at h; omega)]; rfl
  · unfold allAlike
    rw [List.all_eq_true]
    intro x hx
    rw [List.all_eq_true]
    intro y hy
    obtain ⟨a, _, rfl⟩ := List.mem_map.mp hx
    obtain ⟨b, _, rfl⟩ := List.mem_map.mp hy
    exact alike_row a b
  · rw [List.all_eq_true]
    intro x hx
    obtain ⟨a, _, rfl⟩ := List.mem_map.mp hx
    rfl
  · have : dpL (rows.map rowK) ≤ 1 := by
      induction rows with
      | nil => exact Nat.zero_le _
      | cons r rows ih =>
        show max (dpL (rowD r) + 1) (dpL (rows.map rowK)) ≤ 1
        have := ih (by simp at h; omega)
        rw [dp_row]; omega
    omega
end LW

namespace LW
open PySem PySem.Spec PyProof.Rows L2 DL
/-! ### the sets of numbers, the smaller ones first -/
def setsN (n : Nat) : List (List Nat) := (List.range (n + 1)).flatMap fun r => cbL r (List.range n)
def powN (n : Nat) : List (List Nat) := (List.range n).foldl (fun f i => f ++ f.map (fun s => s ++ [i])) [[]]
def setD (s : List Nat) : D := .tup (rowD s)
def kD (s : List Nat) : D := .tup [.int s.length, setD s]
def leS (a b : List Nat) : Bool := leD (kD a) (kD b)
def optR : Option (List Nat) → D
  | some r => .tup (rowD r)
  | none => .non
/-- all that the order of the sets rests on, looked at -/
def srtOk (n : Nat) : Bool :=
  let ss := setsN n; let ps := powN n
  ps.all (fun a => ps.all fun b => leS a b == decide (ss.idxOf a ≤ ss.idxOf b)) && (ps.map ss.idxOf).isPerm (List.range ss.length) && (List.range ss.length).map (fun i => ss.getD i []) == ss && ps.all fun a => ss.getD (ss.idxOf a) [] == a
theorem pow_succ (k : Nat) : powN (k + 1) = powN k ++ (powN k).map (fun s => s ++ [k]) := by
  unfold powN
  rw [List.range_succ, List.foldl_append]; rfl
section
variable {S : Sto} {X : Ex → Sto → Prop} {Q : D → Sto → Prop}
end
end LW

namespace LW
open PySem PySem.Spec PyProof.Rows L2 DL
/-! ### the sets, the smaller ones first: plain facts -/
theorem cbL_cons {α : Type} {r : Nat} {x : α} {l : List α} : cbL (r + 1) (x :: l) = (cbL r l).map (fun t => x :: t) ++ cbL (r + 1) l := by conv => lhs; unfold cbL
theorem cbL_mem : ∀ (r : Nat) (l c : List Nat), c ∈ cbL r l ↔ c.Sublist l ∧ c.length = r
  | 0, l, c => by
    have e : cbL 0 l = [[]] := by cases l <;> rfl
    rw [e, List.mem_singleton]
    exact ⟨fun e => by subst e; exact ⟨List.nil_sublist _, rfl⟩, fun h => List.length_eq_zero_iff.mp h.2⟩
  | r + 1, [], c => by
    have e : cbL (r + 1) ([] : List Nat) = [] := rfl
    rw [e]
    refine ⟨(fun h => by cases h), fun ⟨h1, h2⟩ => ?_⟩
    have := h1.length_le
    simp at this; rw [this] at h2; cases h2
  | r + 1, x :: l, c => by
    rw [cbL_cons, List.mem_append, List.mem_map, cbL_mem (r + 1) l c]
    constructor
    · rintro (⟨t, ht, rfl⟩ | ⟨h1, h2⟩)
      · obtain ⟨h1, h2⟩ := (cbL_mem r l t).mp ht
        exact ⟨h1.cons₂ x, by simp [h2]⟩
      · exact ⟨h1.cons x, h2⟩
    · rintro ⟨h1, h2⟩
      cases h1 with
      | cons _ h1 => exact .inr ⟨h1, h2⟩
      | cons_cons _ h1 => rename_i t; exact .inl ⟨t, (cbL_mem r l t).mpr ⟨h1, by simpa using h2⟩, rfl⟩
theorem sets_iff {n : Nat} {ch : List Nat} : ch ∈ setsN n ↔ ch.Sublist (List.range n) := by
  unfold setsN
  rw [List.mem_flatMap]
  constructor
  · rintro ⟨r, _, hc⟩; exact ((cbL_mem _ _ _).mp hc).1
  · intro h
    have := h.length_le
    rw [List.length_range] at this
    exact ⟨ch.length, List.mem_range.mpr (by omega), (cbL_mem _ _ _).mpr ⟨h, rfl⟩⟩
end LW

namespace LW
open PySem PySem.Spec PyProof.Rows L2 DL
/-! ### the kinds of cases: the rules that match, the action -/
section
variable {L : LV} {S : Sto} {X : Ex → Sto → Prop} {Q : D → Sto → Prop} {n : Nat} {sh : List Nat} {c : List Int}
theorem app_at {x : MO} : (S ++ [x])[S.length]? = some x := by rw [List.getElem?_append_right (Nat.le_refl _)]; simp
theorem app_set {x y : MO} : (S ++ [x]).set S.length y = S ++ [y] := by rw [List.set_append_right _ _ (Nat.le_refl _), Nat.sub_self]; rfl
theorem app_take {x : MO} : (S ++ [x]).take S.length = S := by simp
noncomputable def kyM (L : LV) (c : List Int) : List Nat := (asc L).filter (matchN L c)
noncomputable def stepK (L : LV) (acc : List (List Nat × Int)) (c : List Int) : List (List Nat × Int) := putT acc (kyM L c) (actO L (kyM L c).head?)
noncomputable def kkL (L : LV) (cs : List (List Int)) : List (List Nat × Int) := cs.foldl (stepK L) []
theorem kk_snoc {cs : List (List Int)} : kkL L (cs ++ [c]) = putT (kkL L cs) (kyM L c) (actO L (kyM L c).head?) := by
  unfold kkL; rw [List.foldl_append]; rfl
structure KkOk (L : LV) (cs : List (List Int)) (kk : List (List Nat × Int)) : Prop where
  l : kk.length ≤ cs.length
  m : ∀ kv ∈ kk, ∃ c ∈ cs, kv = (kyM L c, actO L (kyM L c).head?)
  a : ∀ c ∈ cs, (kyM L c, actO L (kyM L c).head?) ∈ kk
theorem kk_ok : ∀ cs : List (List Int), KkOk L cs (kkL L cs) := by
  refine snoc_ind ⟨Nat.le_refl _, (fun kv h => by cases h), (fun c h => by cases h)⟩ fun cs c ih => ?_
  rw [kk_snoc]
  refine ⟨?_, fun kv hk => ?_, fun c' hc => ?_⟩
  · have := putT_len (kvs := kkL L cs) (k := kyM L c) (v := actO L (kyM L c).head?)
    rw [List.length_append]
    have := ih.l
    show _ ≤ cs.length + 1
    omega
  · unfold putT at hk
    split at hk
    · obtain ⟨kv', h1, rfl⟩ := List.mem_map.mp hk
      obtain ⟨c', h2, e⟩ := ih.m kv' h1
      by_cases he : kv'.1 = kyM L c
      · rw [if_pos he]
        exact ⟨c, by simp, by rw [he]⟩
      · rw [if_neg he]
        exact ⟨c', by simp [h2], e⟩
    · rcases List.mem_append.mp hk with hk | hk
      · obtain ⟨c', h2, e⟩ := ih.m kv hk
        exact ⟨c', by simp [h2], e⟩
      · rw [List.mem_singleton.mp hk]
        exact ⟨c, by simp, rfl⟩
  · unfold putT
    split
    · rename_i hany
      rcases List.mem_append.mp hc with hc | hc
      · refine List.mem_map.mpr ⟨_, ih.a c' hc, ?_⟩
        by_cases he : kyM L c' = kyM L c
        · rw [if_pos he, he]
        · rw [if_neg he]
      · rw [List.mem_singleton.mp hc]
        obtain ⟨kv, h1, h2⟩ := List.any_eq_true.mp hany
        exact List.mem_map.mpr ⟨kv, h1, by rw [if_pos (of_decide_eq_true h2), of_decide_eq_true h2]⟩
    · rcases List.mem_append.mp hc with hc | hc
      · exact List.mem_append_left _ (ih.a c' hc)
      · rw [List.mem_singleton.mp hc]; simp
def itD (kv : List Nat × Int) : D := .tup [.tup (rowD kv.1), .int kv.2]
theorem kk_items (kk : List (List Nat × Int)) : itemsL (encT rowK D.int kk) = kk.map itD := by
  unfold itemsL encT; rw [List.map_map]; rfl
theorem mat_specK (h : L.Ok) (hn : n < L.rules.length) (hc : c.length = L.ws.length) (q : Q (.bl (matchN L c n)) S) : wE (m_matches_in [L.d, .int n, caseD c] S) X Q := by
  have hr : L.rules[n]? = some L.rules[n] := List.getElem?_eq_getElem hn
  have hk := h.r _ (List.getElem_mem hn)
  have h2 := h.l2
  refine matches_spec hr (by rw [hk.2.2.1, hc]) (by omega) ?_
  have hm : matchN L c n = matchB L.rules[n].2 c := by unfold matchN; rw [hr]
  rw [hm] at q; exact q
theorem kyM_ok (h : L.Ok) : (∀ n ∈ kyM L c, n < L.rules.length) ∧ (kyM L c).length ≤ 7 := by
  refine ⟨fun n hn => List.mem_range.mp (List.mem_filter.mp hn).1, ?_⟩
  have h1 := List.length_filter_le (matchN L c) (asc L)
  rw [asc_len] at h1
  have := h.n
  unfold kyM; omega
theorem act_at {m : Nat} (h : m < L.rules.length) (q : Q (.int (actN L m)) S) : wE (opIx (.tup (L.rules.map ruleD)) (.int m) S) X fun r S1 => wE (opIx r (.int 0) S1) X Q := by
  have hr : L.rules[m]? = some L.rules[m] := List.getElem?_eq_getElem h
  rw [o_ixT]
  refine ⟨_, rules_at hr, ?_⟩
  unfold ruleD
  rw [o_ixT]
  refine ⟨_, at20, ?_⟩
  have e : actN L m = L.rules[m].1 := by unfold actN; rw [hr]
  rw [← e]; exact q
theorem kinds_specK (h : L.Ok) (hS : S.all (MO.ltD S.length) = true) (q : Q (.lst ((kkL L (casesL L.ws)).map itD)) S) : wE (m_kinds [L.d] S) X Q := by
  have hn := h.n
  have h2 := h.l2
  have hcb := case_bound h
  refine go_kinds ?_
  unfold b_kinds
  refine sq_set (fun d S' => d = .ref S.length ∧ S' = S ++ [.dct []]) ?_ ?_
  · rw [w_newD]; exact ⟨rfl, rfl⟩
  rintro _ _ ⟨rfl, rfl⟩
  simp only [List.set_cons_zero, List.set_cons_succ]
  refine sq_cut (fun r S' => ∃ x2 x3, r = [some L.d, some (.ref S.length), x2, x3, none] ∧ S' = S ++ [.dct (encT rowK D.int (kkL L (casesL L.ws)))]) ?_ ?_
  · simp only [wS_mFor, w_itV, w_call, w_cons, w_nil, w_op, w_c, w_var, List.getElem?_cons_zero, List.getElem?_cons_succ, Option.some.injEq, exists_eq_left', ix0]
    refine cases_spec h.l2 h.w ?_
    simp only [wE_ok]
    refine loop_wp (I := fun rest r S' => ∃ (a b : List (List Int)) (x2 x3 : Option D), casesL L.ws = a ++ b ∧ rest = b.map caseD ∧ r = [some L.d, some (.ref S.length), x2, x3, none] ∧ S' = S ++ [.dct (encT rowK D.int (kkL L a))]) (fun d rest r S' hI => ?_) ⟨[], casesL L.ws, _, _, rfl, rfl, rfl, rfl⟩ fun r S' hI => ?_
    · obtain ⟨a, b, x2, x3, e, hb, rfl, rfl⟩ := hI
      cases b with
      | nil => cases hb
      | cons c b =>
        obtain ⟨rfl, rfl⟩ := List.cons.inj hb
        have hc : c ∈ casesL L.ws := by rw [e]; simp
        have hcl := case_len hc
        have hok := (kk_ok (L := L) a).l
        have hal : a.length ≤ 512 := by have := congrArg List.length e; simp at this; omega
        obtain ⟨hk1, hk2⟩ := kyM_ok (c := c) h
        simp only [tgSet, List.set_cons_zero, List.set_cons_succ]
        refine sq_set (fun d S' => d = .tup (rowD (kyM L c)) ∧ S' = S ++ [.dct (encT rowK D.int (kkL L a))]) ?_ ?_
        · simp only [w_call, w_cons, w_nil, w_fz, wE_mLc, w_itV, wE_ok, w_var, List.getElem?_cons_zero, List.getElem?_cons_succ, Option.some.injEq, exists_eq_left']
          refine asc_spec h ?_
          simp only [wE_ok]
          refine row_filter_wp (p := matchN L c) (by rw [asc_len]; omega) (fun m hm => ⟨_, rfl, fun X Q q => ?_, fun X Q q => ?_⟩) ?_
          · simp only [w_tr, w_call, w_cons, w_nil, w_var, List.getElem?_cons_zero, List.getElem?_cons_succ, List.set_cons_zero, List.set_cons_succ, Option.some.injEq, exists_eq_left', wipeD]
            refine mat_specK h (asc_lt m hm) hcl ?_
            simp only [truD, Option.some.injEq, exists_eq_left']
            exact q
          · simp only [wE_ok, wE_exc, w_var, w_c, w_op, w_T, w_chain, w_tr, w_not, w_and, w_or, w_ite, w_andV, w_orV, w_notV, w_neg, w_nil, w_cons, w_tup, w_call, w_fz, w_al, w_disp, w_callL, w_R1, w_R2, w_rgL, w_rgT, w_itR, w_isi, w_met, w_noP, w_part, w_sl, w_itV, w_itE, w_itZ, w_repL, wE_mLc, o_addI, o_addT, o_addL, o_sub, o_I, o_mulI, o_mulT, o_mulN, o_B, o_C, o_is, o_eqI, o_ixT, o_ixL, o_ixR, o_slT, o_slL, f_lenT, f_lenL, f_abs, f_int, f_tupL, f_tupT, f_listT, f_listL, f_listS, f_sum, f_sorted, f_append, f_extendL, w_trN, w_getN, w_newD, w_disp1, w_itN, w_itT, w_dc, w_sortIt, w_idx, w_fld, w_meth, w_make, w_Xf, w_IsX, f_rng, w_itG, w_itDn, w_itC, w_lIt, w_lVs, w_sortSet, w_cntT, List.getElem?_cons_zero, List.getElem?_cons_succ, List.set_cons_zero, List.set_cons_succ, Option.some.injEq, exists_eq_left', exists_eq_left, D.int.injEq, D.bl.injEq, D.ref.injEq, MO.lst.injEq, ↓reduceIte, Bool.false_eq_true, Bool.not_true, Bool.not_false, reduceCtorEq, true_and, and_true, List.length_cons, List.length_nil, List.cons_append, List.nil_append, List.map_cons, List.map_nil, Nat.reduceAdd, Nat.zero_add, wipeD]; exact q
          · rw [f_tupL]
            exact ⟨rfl, rfl⟩
        rintro _ _ ⟨rfl, rfl⟩
        simp only [List.set_cons_zero, List.set_cons_succ]
        rw [wS_mSubN]
        have key : ∀ (Q : D → Sto → Prop), Q (.int (actO L (kyM L c).head?)) (S ++ [.dct (encT rowK D.int (kkL L a))]) → wE ((mIte (mTr (mVar 3)) (mOp2 opIx (mOp2 opIx (mOp2 opIx (mVar 0) (mC (.int 1))) (mOp2 opIx (mVar 3) (mC (.int 0)))) (mC (.int 0))) (mOp2 opIx (mVar 0) (mC (.int 2)))) [some L.d, some (.ref S.length), some (caseD c), some (.tup (rowD (kyM L c))), none] (S ++ [.dct (encT rowK D.int (kkL L a))])) (fun _ _ => False) Q := fun Q q => by
          cases hk : kyM L c with
          | nil =>
            rw [hk] at q
            simp only [w_ite, w_tr, w_op, w_c, w_var, List.getElem?_cons_zero, List.getElem?_cons_succ, Option.some.injEq, exists_eq_left', truD, rowD, List.map_nil, List.isEmpty_nil, Bool.not_true, Bool.false_eq_true, ↓reduceIte, ix2]
            exact q
          | cons m t =>
            rw [hk] at q hk1
            simp only [w_ite, w_tr, w_op, w_c, w_var, List.getElem?_cons_zero, List.getElem?_cons_succ, Option.some.injEq, exists_eq_left', truD, rowD, List.map_cons, List.isEmpty_cons, Bool.not_false, ↓reduceIte, ix1]
            rw [o_ixT]
            refine ⟨_, atI_cons0, ?_⟩
            exact act_at (hk1 m (List.mem_cons_self ..)) q
        refine wE_mono (key _ ?_) (fun _ _ z => z.elim) fun _ _ z => z
        simp only [w_var, List.getElem?_cons_zero, List.getElem?_cons_succ, Option.some.injEq, exists_eq_left']
        refine ⟨S.length, rfl, encT rowK D.int (kkL L a), app_at, ⟨keyOk_tup (fun kv hk => by obtain ⟨x, _, rfl⟩ := List.mem_map.mp hk; rfl) okTD_row, by rw [encT_len]; omega⟩, ?_⟩
        rw [app_set]
        have ep := put_enc (enc := rowK) (encv := D.int) inj_row (k := kyM L c) (v := actO L (kyM L c).head?) (kvs := kkL L a)
        rw [show putN (encT rowK D.int (kkL L a)) (.tup (rowD (kyM L c))) (.int (actO L (kyM L c).head?)) = encT rowK D.int (kkL L (a ++ [c])) from ep.trans (by rw [kk_snoc])]
        exact ⟨a ++ [c], b, some (caseD c), some (.tup (rowD (kyM L c))), by rw [e]; simp, rfl, rfl, rfl⟩
    · obtain ⟨a, b, x2, x3, e, hb, rfl, rfl⟩ := hI
      have : b = [] := by simpa using hb.symm
      subst this
      rw [List.append_nil] at e
      subst e
      exact ⟨x2, x3, rfl, rfl⟩
  rintro _ _ ⟨x2, x3, rfl, rfl⟩
  have hok := (kk_ok (L := L) (casesL L.ws)).l
  simp only [wS_mRet, w_fz, w_lIt, w_var, List.getElem?_cons_zero, List.getElem?_cons_succ, Option.some.injEq, exists_eq_left']
  refine ⟨encT rowK D.int (kkL L (casesL L.ws)), by unfold dctOf; simp only [app_at], by rw [encT_len]; omega, ?_⟩
  rw [kk_items]
  refine wE_finP (d := .lst ((kkL L (casesL L.ws)).map itD)) ?_ (by simp) (by rw [app_take]; exact hS) (by rw [app_take]; exact q)
  show pureL _ = true
  refine pureL_iff.mpr fun y hy => ?_
  obtain ⟨kv, _, rfl⟩ := List.mem_map.mp hy
  show (pureL (rowD kv.1) && (true && true)) = true
  rw [show pureL (rowD kv.1) = true from pureL_iff.mpr fun y hy => by obtain ⟨m, _, rfl⟩ := row_mem hy; rfl]
  rfl
noncomputable def alikeB (L : LV) (sh : List Nat) : Bool := !(casesL L.ws).any (agB L sh)
theorem head_find (p : Nat → Bool) (l : List Nat) : (l.filter p).head? = l.find? p := by rw [List.head?_filter]
theorem ky_act : actO L (kyM L c).head? = actO L (numF L c) := by unfold kyM numF firstM; rw [head_find]
theorem in_ky (hn : n < L.rules.length) : (kyM L c).contains n = matchN L c n := by
  rw [Bool.eq_iff_iff, List.contains_iff_mem]
  unfold kyM
  rw [List.mem_filter]
  exact ⟨fun h => h.2, fun h => ⟨List.mem_range.mpr hn, h⟩⟩
theorem sh_act (hs : ∀ n ∈ sh, n < L.rules.length) : (sh.filter (kyM L c).contains).head? = firstM L sh c := by
  rw [head_find]
  unfold firstM
  induction sh with
  | nil => rfl
  | cons m sh ih =>
    rw [List.find?_cons, List.find?_cons, in_ky (hs m (List.mem_cons_self ..)), ih fun n hn => hs n (List.mem_cons_of_mem _ hn)]
def kdB (L : LV) (sh : List Nat) (kv : List Nat × Int) : Bool := actO L (sh.filter kv.1.contains).head? == kv.2
theorem alike_kk (hs : ∀ n ∈ sh, n < L.rules.length) : alikeB L sh = (kkL L (casesL L.ws)).all (kdB L sh) := by
  have hok := kk_ok (L := L) (casesL L.ws)
  have e : ∀ c, kdB L sh (kyM L c, actO L (kyM L c).head?) = !agB L sh c := fun c => by
    unfold kdB agB
    rw [sh_act hs, ky_act, Bool.not_not]
  rw [Bool.eq_iff_iff]
  unfold alikeB
  rw [Bool.not_eq_true', List.any_eq_false, List.all_eq_true]
  constructor
  · intro h kv hk
    obtain ⟨c, hc, rfl⟩ := hok.m kv hk
    rw [e]
    have := h c hc
    simpa using this
  · intro h c hc
    have := h _ (hok.a c hc)
    rw [e] at this
    simpa using this
theorem is_alike_spec (h : L.Ok) (hs : ∀ n ∈ sh, n < L.rules.length) (hl : sh.length ≤ 100) (q : Q (.bl (alikeB L sh)) S) : wE (m_is_alike [L.d, .lst ((kkL L (casesL L.ws)).map itD), .tup (rowD sh)] S) X Q := by
  have hn := h.n
  refine go_is_alike ?_
  unfold b_is_alike
  rw [alike_kk hs] at q
  generalize kkL L (casesL L.ws) = kk at q
  rw [wS_mSeq, wS_mFor, w_itV]
  simp only [w_var, List.getElem?_cons_zero, List.getElem?_cons_succ, Option.some.injEq, exists_eq_left', wE_ok]
  refine loop_wp (I := fun rest r S' => ∃ (b : List (List Nat × Int)) (x3 x4 x5 x6 : Option D), rest = b.map itD ∧ kk.all (kdB L sh) = b.all (kdB L sh) ∧ r = [some L.d, some (.lst (kk.map itD)), some (.tup (rowD sh)), x3, x4, x5, x6, none] ∧ S' = S) (fun d rest r S' hI => ?_) ⟨kk, none, none, none, none, rfl, rfl, rfl, rfl⟩ fun r S' hI => ?_
  · obtain ⟨b, x3, x4, x5, x6, er, ef, rfl, rfl⟩ := hI
    cases b with
    | nil => cases er
    | cons kv b =>
      obtain ⟨rfl, rfl⟩ := List.cons.inj er
      rw [List.all_cons] at ef
      have hfl : (sh.filter kv.1.contains).length ≤ 100 := Nat.le_trans (List.length_filter_le _ _) hl
      have hfm : ∀ n ∈ sh.filter kv.1.contains, n < L.rules.length := fun n hn => hs n (List.mem_filter.mp hn).1
      simp only [tgSet, tgSetL, itD, List.set_cons_zero, List.set_cons_succ]
      refine sq_set (fun d S2 => d = .lst ((rowD (sh.filter kv.1.contains)).take 1) ∧ S2 = S') ?_ ?_
      · simp only [w_sl, w_fz, wE_mLc, w_itV, w_noP, w_part, w_c, wE_ok, w_var, List.getElem?_cons_zero, List.getElem?_cons_succ, Option.some.injEq, exists_eq_left']
        refine row_filter_wp (p := kv.1.contains) (by omega) (fun m hm => ⟨_, rfl, fun X Q q => ?_, fun X Q q => ?_⟩) ?_
        · simp only [w_T, w_op, w_var, List.getElem?_cons_zero, List.getElem?_cons_succ, List.set_cons_zero, List.set_cons_succ, Option.some.injEq, exists_eq_left', wipeD]
          rw [o_inT]
          refine ⟨⟨rfl, flat_row⟩, ?_⟩
          rw [in_row]
          simp only [Bool.false_eq_true, ↓reduceIte, D.bl.injEq, exists_eq_left']
          exact q
        · simp only [wE_ok, wE_exc, w_var, w_c, w_op, w_T, w_chain, w_tr, w_not, w_and, w_or, w_ite, w_andV, w_orV, w_notV, w_neg, w_nil, w_cons, w_tup, w_call, w_fz, w_al, w_disp, w_callL, w_R1, w_R2, w_rgL, w_rgT, w_itR, w_isi, w_met, w_noP, w_part, w_sl, w_itV, w_itE, w_itZ, w_repL, wE_mLc, o_addI, o_addT, o_addL, o_sub, o_I, o_mulI, o_mulT, o_mulN, o_B, o_C, o_is, o_eqI, o_ixT, o_ixL, o_ixR, o_slT, o_slL, f_lenT, f_lenL, f_abs, f_int, f_tupL, f_tupT, f_listT, f_listL, f_listS, f_sum, f_sorted, f_append, f_extendL, w_trN, w_getN, w_newD, w_disp1, w_itN, w_itT, w_dc, w_sortIt, w_idx, w_fld, w_meth, w_make, w_Xf, w_IsX, f_rng, w_itG, w_itDn, w_itC, w_lIt, w_lVs, w_sortSet, w_cntT, List.getElem?_cons_zero, List.getElem?_cons_succ, List.set_cons_zero, List.set_cons_succ, Option.some.injEq, exists_eq_left', exists_eq_left, D.int.injEq, D.bl.injEq, D.ref.injEq, MO.lst.injEq, ↓reduceIte, Bool.false_eq_true, Bool.not_true, Bool.not_false, reduceCtorEq, true_and, and_true, List.length_cons, List.length_nil, List.cons_append, List.nil_append, List.map_cons, List.map_nil, Nat.reduceAdd, Nat.zero_add, wipeD]; exact q
        · simp only [wE_ok, wE_exc, w_var, w_c, w_op, w_T, w_chain, w_tr, w_not, w_and, w_or, w_ite, w_andV, w_orV, w_notV, w_neg, w_nil, w_cons, w_tup, w_call, w_fz, w_al, w_disp, w_callL, w_R1, w_R2, w_rgL, w_rgT, w_itR, w_isi, w_met, w_noP, w_part, w_sl, w_itV, w_itE, w_itZ, w_repL, wE_mLc, o_addI, o_addT, o_addL, o_sub, o_I, o_mulI, o_mulT, o_mulN, o_B, o_C, o_is, o_eqI, o_ixT, o_ixL, o_ixR, o_slT, o_slL, f_lenT, f_lenL, f_abs, f_int, f_tupL, f_tupT, f_listT, f_listL, f_listS, f_sum, f_sorted, f_append, f_extendL, w_trN, w_getN, w_newD, w_disp1, w_itN, w_itT, w_dc, w_sortIt, w_idx, w_fld, w_meth, w_make, w_Xf, w_IsX, f_rng, w_itG, w_itDn, w_itC, w_lIt, w_lVs, w_sortSet, w_cntT, List.getElem?_cons_zero, List.getElem?_cons_succ, List.set_cons_zero, List.set_cons_succ, Option.some.injEq, exists_eq_left', exists_eq_left, D.int.injEq, D.bl.injEq, D.ref.injEq, MO.lst.injEq, ↓reduceIte, Bool.false_eq_true, Bool.not_true, Bool.not_false, reduceCtorEq, true_and, and_true, List.length_cons, List.length_nil, List.cons_append, List.nil_append, List.map_cons, List.map_nil, Nat.reduceAdd, Nat.zero_add, o_slL]
          rw [cut_lo (by decide)]
          first | exact ⟨by decide, rfl, rfl⟩ | exact ⟨rfl, rfl⟩ | exact ⟨rfl, trivial⟩ | trivial
      rintro _ S' ⟨rfl, rfl⟩
      simp only [List.set_cons_zero, List.set_cons_succ]
      refine sq_set (fun d S2 => d = .int (actO L (sh.filter kv.1.contains).head?) ∧ S2 = S') ?_ ?_
      · cases hk : sh.filter kv.1.contains with
        | nil =>
          simp only [w_ite, w_tr, w_op, w_c, w_var, List.getElem?_cons_zero, List.getElem?_cons_succ, Option.some.injEq, exists_eq_left', truD, rowD, List.map_nil, List.take_nil, List.isEmpty_nil, Bool.not_true, Bool.false_eq_true, ↓reduceIte, ix2]
          first | exact ⟨rfl, rfl⟩ | exact ⟨rfl, trivial⟩
        | cons m t =>
          rw [hk] at hfm
          simp only [w_ite, w_tr, w_op, w_c, w_var, List.getElem?_cons_zero, List.getElem?_cons_succ, Option.some.injEq, exists_eq_left', truD, rowD, List.map_cons, List.take_succ_cons, List.take_zero, List.isEmpty_cons, Bool.not_false, ↓reduceIte, ix1]
          rw [o_ixL]
          refine ⟨_, at10, ?_⟩
          exact act_at (hfm m (List.mem_cons_self ..)) (by first | exact ⟨rfl, rfl⟩ | exact ⟨rfl, trivial⟩ | trivial | rfl)
      rintro _ S' ⟨rfl, rfl⟩
      simp only [List.set_cons_zero, List.set_cons_succ]
      rw [wS_mIf]
      simp only [w_T, w_op, w_var, List.getElem?_cons_zero, List.getElem?_cons_succ, Option.some.injEq, exists_eq_left', o_eqI]
      have ekd : kdB L sh kv = (actO L (sh.filter kv.1.contains).head? == kv.2) := rfl
      cases he : (actO L (sh.filter kv.1.contains).head? == kv.2) with
      | true =>
        rw [ekd, he, Bool.true_and] at ef
        simp only [Bool.not_true, ↓reduceIte, D.bl.injEq, exists_eq_left', Bool.false_eq_true, wS_mNx]
        (first | exact ⟨b, _, _, _, _, rfl, ef, rfl, rfl⟩ | exact ⟨b, _, _, _, _, rfl, ef, rfl⟩ | exact ⟨b, _, _, _, _, rfl, ef, rfl, trivial⟩ | exact ⟨b, _, _, _, _, rfl, ef, rfl, rfl, rfl⟩)
      | false =>
        rw [ekd, he, Bool.false_and] at ef
        rw [ef] at q
        simp only [Bool.not_false, ↓reduceIte, D.bl.injEq, exists_eq_left', wS_mRet, w_c]
        exact wE_fin rfl q
  · obtain ⟨b, x3, x4, x5, x6, er, ef, rfl, rfl⟩ := hI
    have : b = [] := by simpa using er.symm
    subst this
    rw [ef] at q
    simp only [wS_mSeq, wS_mSet, wS_mRet, wS_mRetN, wS_mDrop, wS_mIf, wS_mSub, wS_mNx, wS_mBrk, wS_mCnt, wS_mAsg, wE_ok, wE_exc, w_var, w_c, w_op, w_T, w_chain, w_tr, w_not, w_and, w_or, w_ite, w_andV, w_orV, w_notV, w_neg, w_nil, w_cons, w_tup, w_call, w_fz, w_al, w_disp, w_callL, w_R1, w_R2, w_rgL, w_rgT, w_itR, w_isi, w_met, w_noP, w_part, w_sl, w_itV, w_itE, w_itZ, w_repL, wE_mLc, wS_mFor, o_addI, o_addT, o_addL, o_sub, o_I, o_mulI, o_mulT, o_mulN, o_B, o_C, o_is, o_eqI, o_ixT, o_ixL, o_ixR, o_slT, o_slL, f_lenT, f_lenL, f_abs, f_int, f_tupL, f_tupT, f_listT, f_listL, f_listS, f_sum, f_sorted, f_append, f_extendL, w_trN, w_getN, w_newD, wS_mSubN, w_disp1, w_itN, w_itT, w_dc, wS_mAsgL, w_sortIt, w_idx, wS_mRz, wS_mTry1, w_fld, w_meth, w_make, wS_mSetF, w_Xf, w_IsX, wS_mIfR, wS_exc, f_rng, w_itG, w_itDn, w_itC, w_lIt, w_lVs, w_sortSet, w_cntT, List.getElem?_cons_zero, List.getElem?_cons_succ, List.set_cons_zero, List.set_cons_succ, Option.some.injEq, exists_eq_left', exists_eq_left, D.int.injEq, D.bl.injEq, D.ref.injEq, MO.lst.injEq, ↓reduceIte, Bool.false_eq_true, Bool.not_true, Bool.not_false, reduceCtorEq, true_and, and_true, List.length_cons, List.length_nil, List.cons_append, List.nil_append, List.map_cons, List.map_nil, Nat.reduceAdd, Nat.zero_add]
    exact wE_fin rfl q
noncomputable def smlR (L : LV) : Option (List Nat) := (setsN L.rules.length).find? (alikeB L)
theorem alike_asc : alikeB L (asc L) = true := by
  unfold alikeB
  rw [Bool.not_eq_true', List.any_eq_false]
  intro c _
  unfold agB numF
  simp
theorem cbL_selfN : ∀ l : List Nat, cbL l.length l = [l] := fun l => by
  have h1 : ∀ c ∈ cbL l.length l, c = l := fun c hc => by
    obtain ⟨h1, h2⟩ := (cbL_mem _ _ _).mp hc
    exact h1.eq_of_length h2
  have h2 : ∀ (l : List Nat), (cbL l.length l).length = 1 := by
    intro l
    induction l with
    | nil => rfl
    | cons x l ih =>
      show (cbL (l.length + 1) (x :: l)).length = 1
      rw [cbL_cons, List.length_append, List.length_map, ih]
      have : cbL (l.length + 1) l = [] := List.eq_nil_iff_forall_not_mem.mpr fun c hc => by
        obtain ⟨h1, h2⟩ := (cbL_mem _ _ _).mp hc
        have := h1.length_le; omega
      rw [this]; rfl
  have h3 := h2 l
  cases hc : cbL l.length l with
  | nil => rw [hc] at h3; cases h3
  | cons c t =>
    rw [hc] at h3 h1
    have : t = [] := List.length_eq_zero_iff.mp (by simpa using h3)
    rw [this, h1 c (List.mem_cons_self ..)]
theorem sml_some : ∃ r, smlR L = some r := by
  cases h : smlR L with
  | some r => exact ⟨r, rfl⟩
  | none =>
    unfold smlR at h
    have := List.find?_eq_none.mp h (List.range L.rules.length) (sets_iff.mpr (List.Sublist.refl _))
    exact absurd alike_asc this
theorem smallest_spec (h : L.Ok) (hS : S.all (MO.ltD S.length) = true) (q : ∀ r, smlR L = some r → Q (.tup (rowD r)) S) : wE (m_smallest_set [L.d] S) X Q := by
  have hn7 := h.n
  refine go_smallest_set ?_
  unfold b_smallest_set
  refine sq_drop (fun S' => S' = S) ?_ ?_
  · simp only [wE_ok, wE_exc, w_var, w_c, w_op, w_T, w_chain, w_tr, w_not, w_and, w_or, w_ite, w_andV, w_orV, w_notV, w_neg, w_nil, w_cons, w_tup, w_call, w_fz, w_al, w_disp, w_callL, w_R1, w_R2, w_rgL, w_rgT, w_itR, w_isi, w_met, w_noP, w_part, w_sl, w_itV, w_itE, w_itZ, w_repL, wE_mLc, o_addI, o_addT, o_addL, o_sub, o_I, o_mulI, o_mulT, o_mulN, o_B, o_C, o_is, o_eqI, o_ixT, o_ixL, o_ixR, o_slT, o_slL, f_lenT, f_lenL, f_abs, f_int, f_tupL, f_tupT, f_listT, f_listL, f_listS, f_sum, f_sorted, f_append, f_extendL, w_trN, w_getN, w_newD, w_disp1, w_itN, w_itT, w_dc, w_sortIt, w_idx, w_fld, w_meth, w_make, w_Xf, w_IsX, f_rng, w_itG, w_itDn, w_itC, w_lIt, w_lVs, w_sortSet, w_cntT, List.getElem?_cons_zero, List.getElem?_cons_succ, List.set_cons_zero, List.set_cons_succ, Option.some.injEq, exists_eq_left', exists_eq_left, D.int.injEq, D.bl.injEq, D.ref.injEq, MO.lst.injEq, ↓reduceIte, Bool.false_eq_true, Bool.not_true, Bool.not_false, reduceCtorEq, true_and, and_true, List.length_cons, List.length_nil, List.cons_append, List.nil_append, List.map_cons, List.map_nil, Nat.reduceAdd, Nat.zero_add]; exact check_spec h rfl
  rintro S rfl
  refine sq_set (fun d S' => d = .lst ((kkL L (casesL L.ws)).map itD) ∧ S' = S) ?_ ?_
  · simp only [wE_ok, wE_exc, w_var, w_c, w_op, w_T, w_chain, w_tr, w_not, w_and, w_or, w_ite, w_andV, w_orV, w_notV, w_neg, w_nil, w_cons, w_tup, w_call, w_fz, w_al, w_disp, w_callL, w_R1, w_R2, w_rgL, w_rgT, w_itR, w_isi, w_met, w_noP, w_part, w_sl, w_itV, w_itE, w_itZ, w_repL, wE_mLc, o_addI, o_addT, o_addL, o_sub, o_I, o_mulI, o_mulT, o_mulN, o_B, o_C, o_is, o_eqI, o_ixT, o_ixL, o_ixR, o_slT, o_slL, f_lenT, f_lenL, f_abs, f_int, f_tupL, f_tupT, f_listT, f_listL, f_listS, f_sum, f_sorted, f_append, f_extendL, w_trN, w_getN, w_newD, w_disp1, w_itN, w_itT, w_dc, w_sortIt, w_idx, w_fld, w_meth, w_make, w_Xf, w_IsX, f_rng, w_itG, w_itDn, w_itC, w_lIt, w_lVs, w_sortSet, w_cntT, List.getElem?_cons_zero, List.getElem?_cons_succ, List.set_cons_zero, List.set_cons_succ, Option.some.injEq, exists_eq_left', exists_eq_left, D.int.injEq, D.bl.injEq, D.ref.injEq, MO.lst.injEq, ↓reduceIte, Bool.false_eq_true, Bool.not_true, Bool.not_false, reduceCtorEq, true_and, and_true, List.length_cons, List.length_nil, List.cons_append, List.nil_append, List.map_cons, List.map_nil, Nat.reduceAdd, Nat.zero_add]; exact kinds_specK h hS ⟨rfl, rfl⟩
  rintro _ S ⟨rfl, rfl⟩
  simp only [List.set_cons_zero, List.set_cons_succ]
  have e0 : smlR L = (((List.range L.rules.length).flatMap fun r => cbL r (List.range L.rules.length)).find? (alikeB L)).or (some (List.range L.rules.length)) := by
    unfold smlR setsN
    rw [List.range_succ, List.flatMap_append, List.find?_append]
    congr 1
    rw [List.flatMap_cons, List.flatMap_nil, List.append_nil]
    have := cbL_selfN (List.range L.rules.length)
    rw [List.length_range] at this
    rw [this, List.find?_cons, show alikeB L (List.range L.rules.length) = true from alike_asc]
  rw [wS_mSeq, wS_mFor]
  simp only [w_itR, w_R1, w_call, w_cons, w_nil, w_op, w_c, w_var, List.getElem?_cons_zero, List.getElem?_cons_succ, Option.some.injEq, exists_eq_left', ix1, f_lenT, List.length_map, D.int.injEq]
  refine ⟨by omega, ?_⟩
  rw [rowD_asc]
  refine loop_wp (I := fun rest rho S' => ∃ (a b : List Nat) (x2 x3 : Option D), List.range L.rules.length = a ++ b ∧ rest = rowD b ∧ smlR L = ((b.flatMap fun r => cbL r (List.range L.rules.length)).find? (alikeB L)).or (some (List.range L.rules.length)) ∧ rho = [some L.d, some (.lst ((kkL L (casesL L.ws)).map itD)), x2, x3] ∧ S' = S) (fun d rest rho S' hI => ?_) ⟨[], _, none, none, rfl, rfl, e0, rfl, rfl⟩ fun rho S' hI => ?_
  · obtain ⟨a, b, x2, x3, e, er, ef, rfl, rfl⟩ := hI
    cases b with
    | nil => cases er
    | cons r b =>
      obtain ⟨rfl, rfl⟩ := List.cons.inj er
      have hr : r < L.rules.length := by
        have : r ∈ List.range L.rules.length := by rw [e]; simp
        exact List.mem_range.mp this
      simp only [tgSet, List.set_cons_zero, List.set_cons_succ]
      rw [wS_mFor]
      simp only [w_itC, w_call, w_cons, w_nil, w_var, List.getElem?_cons_zero, List.getElem?_cons_succ, Option.some.injEq, exists_eq_left']
      refine asc_spec h ?_
      refine ⟨rowD (asc L), r, .inl rfl, rfl, ?_, ?_⟩
      · rw [row_len, asc_len]; omega
      rw [show rowD (asc L) = (List.range L.rules.length).map fun n : Nat => D.int n from rfl, cbL_map, List.map_map, Int.toNat_natCast]
      rw [List.flatMap_cons, List.find?_append, Option.or_assoc] at ef
      refine loop_wp (I := fun rest rho S2 => ∃ (u v : List (List Nat)) (x3 : Option D), cbL r (List.range L.rules.length) = u ++ v ∧ rest = v.map (fun l => D.tup (rowD l)) ∧ smlR L = (v.find? (alikeB L)).or (((b.flatMap fun r => cbL r (List.range L.rules.length)).find? (alikeB L)).or (some (List.range L.rules.length))) ∧ rho = [some L.d, some (.lst ((kkL L (casesL L.ws)).map itD)), some (.int r), x3] ∧ S2 = S') (fun d rest rho S2 hI => ?_) ⟨[], _, x3, rfl, rfl, ef, rfl, rfl⟩ fun rho S2 hI => ?_
      · obtain ⟨u, v, x3, e2, er2, ef2, rfl, rfl⟩ := hI
        cases v with
        | nil => cases er2
        | cons ch v =>
          obtain ⟨rfl, rfl⟩ := List.cons.inj er2
          have hm : ch ∈ cbL r (List.range L.rules.length) := by rw [e2]; simp
          have hch := cb_lt (by omega) (by omega) hm
          have hl7 := cbL_len (by omega) (by omega) hm
          simp only [tgSet, List.set_cons_zero, List.set_cons_succ]
          rw [wS_mIf]
          simp only [w_tr, w_call, w_cons, w_nil, w_var, List.getElem?_cons_zero, List.getElem?_cons_succ, Option.some.injEq, exists_eq_left']
          refine is_alike_spec h hch (by omega) ?_
          rw [List.find?_cons] at ef2
          cases hs : alikeB L ch with
          | true =>
            rw [hs] at ef2
            simp only [truD, Option.some.injEq, exists_eq_left', ↓reduceIte, wS_mRet, w_var, List.getElem?_cons_zero, List.getElem?_cons_succ]
            exact wE_fin rfl (q ch ef2)
          | false =>
            rw [hs] at ef2
            simp only [truD, Option.some.injEq, exists_eq_left', Bool.false_eq_true, ↓reduceIte, wS_mNx]
            (first | exact ⟨u ++ [ch], v, _, by rw [e2]; simp, rfl, ef2, rfl, rfl⟩ | exact ⟨u ++ [ch], v, _, by rw [e2]; simp, rfl, ef2, rfl⟩ | exact ⟨u ++ [ch], v, _, by rw [e2]; simp, rfl, ef2, rfl, trivial⟩ | exact ⟨u ++ [ch], v, _, by rw [e2]; simp, rfl, ef2, rfl, rfl, rfl⟩)
      · obtain ⟨u, v, x3, e2, er2, ef2, rfl, rfl⟩ := hI
        have : v = [] := by simpa using er2.symm
        subst this
        exact ⟨a ++ [r], b, _, _, by rw [e]; simp, rfl, by simpa using ef2, rfl, rfl⟩
  · obtain ⟨a, b, x2, x3, e, er, ef, rfl, rfl⟩ := hI
    have : b = [] := by simpa [rowD] using er.symm
    subst this
    simp only [wS_mSeq, wS_mSet, wS_mRet, wS_mRetN, wS_mDrop, wS_mIf, wS_mSub, wS_mNx, wS_mBrk, wS_mCnt, wS_mAsg, wE_ok, wE_exc, w_var, w_c, w_op, w_T, w_chain, w_tr, w_not, w_and, w_or, w_ite, w_andV, w_orV, w_notV, w_neg, w_nil, w_cons, w_tup, w_call, w_fz, w_al, w_disp, w_callL, w_R1, w_R2, w_rgL, w_rgT, w_itR, w_isi, w_met, w_noP, w_part, w_sl, w_itV, w_itE, w_itZ, w_repL, wE_mLc, wS_mFor, o_addI, o_addT, o_addL, o_sub, o_I, o_mulI, o_mulT, o_mulN, o_B, o_C, o_is, o_eqI, o_ixT, o_ixL, o_ixR, o_slT, o_slL, f_lenT, f_lenL, f_abs, f_int, f_tupL, f_tupT, f_listT, f_listL, f_listS, f_sum, f_sorted, f_append, f_extendL, w_trN, w_getN, w_newD, wS_mSubN, w_disp1, w_itN, w_itT, w_dc, wS_mAsgL, w_sortIt, w_idx, wS_mRz, wS_mTry1, w_fld, w_meth, w_make, wS_mSetF, w_Xf, w_IsX, wS_mIfR, wS_exc, f_rng, w_itG, w_itDn, w_itC, w_lIt, w_lVs, w_sortSet, w_cntT, List.getElem?_cons_zero, List.getElem?_cons_succ, List.set_cons_zero, List.set_cons_succ, Option.some.injEq, exists_eq_left', exists_eq_left, D.int.injEq, D.bl.injEq, D.ref.injEq, MO.lst.injEq, ↓reduceIte, Bool.false_eq_true, Bool.not_true, Bool.not_false, reduceCtorEq, true_and, and_true, List.length_cons, List.length_nil, List.cons_append, List.nil_append, List.map_cons, List.map_nil, Nat.reduceAdd, Nat.zero_add]
    exact asc_spec h (wE_fin rfl (q _ ef))
end
end LW

namespace LW
open PySem PySem.Spec PyProof.Rows L2 DL
section
variable {L : LV} {S : Sto} {X : Ex → Sto → Prop} {Q : D → Sto → Prop} {n : Nat} {sh : List Nat} {c : List Int}
def fCa (f : List Int → Bool) (d : D) : Bool := match d with
  | .tup ds => f (ds.map fun x => match x with
    | .int i => i
    | _ => 0)
  | _ => false
theorem all_cases (f : List Int → Bool) (cs : List (List Int)) : (cs.map caseD).all (fCa f) = cs.all f := by
  rw [List.all_map]
  congr 1
  funext c
  show f _ = f c
  congr 1
  rw [List.map_map]
  conv => rhs; rw [← List.map_id c]
  rfl
theorem fCa_case (f : List Int → Bool) (c : List Int) : fCa f (caseD c) = f c := by
  show f _ = f c
  congr 1
  rw [List.map_map]
  conv => rhs; rw [← List.map_id c]
  rfl
theorem lalike_spec (h : L.Ok) (hs : ∀ n ∈ sh, n < L.rules.length) (q : Q (.bl (alikeB L sh)) S) : wE (m__law_alike [L.d, .tup (rowD sh)] S) X Q := by
  have hcb := case_bound h
  refine go__law_alike ?_
  unfold b__law_alike
  rw [wS_mRet]
  simp only [w_call, w_cons, w_nil, w_fz, wE_mLc, w_itV, w_op, w_c, w_var, List.getElem?_cons_zero, List.getElem?_cons_succ, Option.some.injEq, exists_eq_left', ix0]
  refine lcases_spec h ?_
  simp only [wE_ok]
  refine all_wp (f := fCa fun c => !agB L sh c) (fun d hd => ⟨_, rfl, fun X Q q => ?_⟩) (by rw [List.length_map]; omega) ?_
  · obtain ⟨c, hc, rfl⟩ := List.mem_map.mp hd
    have hcl := case_len hc
    rw [fCa_case] at q
    simp only [w_call, w_cons, w_nil, w_op, w_c, w_var, List.getElem?_cons_zero, List.getElem?_cons_succ, List.set_cons_zero, List.set_cons_succ, Option.some.injEq, exists_eq_left', wipeD]
    refine ldecided_spec h hs hcl ?_
    unfold decD
    simp only [o_ixT, at20, Option.some.injEq, exists_eq_left']
    refine ldecision_spec h hcl ?_
    simp only [o_eqI, Bool.false_eq_true, ↓reduceIte]
    unfold agB at q
    rw [Bool.not_not] at q
    exact q
  · rw [all_cases]
    have e : (casesL L.ws).all (fun c => !agB L sh c) = alikeB L sh := by
      unfold alikeB
      rw [Bool.eq_iff_iff, List.all_eq_true, Bool.not_eq_true', List.any_eq_false]
      exact forall_congr' fun c => forall_congr' fun _ => by cases agB L sh c <;> simp
    rw [e]
    exact wE_fin rfl q
/-- a row without the one at a place -/
theorem row_lo {k : Nat} : DL.cutD (rowD sh) none (some (k : Int)) = rowD (sh.take k) := by
  rw [cut_lo (by omega)]
  unfold rowD
  rw [List.map_take, Int.toNat_natCast]
theorem row_hi {k : Nat} : DL.cutD (rowD sh) (some ((k : Int) + 1)) none = rowD (sh.drop (k + 1)) := by
  rw [cut_hi (by omega)]
  unfold rowD
  rw [List.map_drop]
  congr 1
theorem erase_sub {k : Nat} (hk : k < sh.length) : (sh.take k ++ sh.drop (k + 1)).Sublist sh ∧ (sh.take k ++ sh.drop (k + 1)).length + 1 = sh.length := by
  refine ⟨?_, ?_⟩
  · conv => rhs; rw [← List.take_append_drop k sh]
    refine (List.Sublist.refl _).append ?_
    rw [List.drop_eq_getElem_cons hk]
    exact List.sublist_cons_self _ _
  · rw [List.length_append, List.length_take, List.length_drop]; omega
end
end LW

namespace LW
open PySem PySem.Spec PyProof.Rows L2 DL
/-! ### the first short row of some rules that decides alike -/
section
variable {L : LV} {S : Sto} {X : Ex → Sto → Prop} {Q : D → Sto → Prop} {n : Nat} {sh ch P R : List Nat} {c : List Int}
noncomputable abbrev KK (L : LV) : List (List Nat × Int) := kkL L (casesL L.ws)
/-- a rule does not stand in the way of a case -/
def frB (L : LV) (P : List Nat) (n : Nat) (kv : List Nat × Int) : Bool := !(kv.1.contains n && (!kv.1.any P.contains && !(actN L n == kv.2)))
noncomputable def rdB (L : LV) (P : List Nat) (n : Nat) : Bool := (KK L).all (frB L P n)
noncomputable def ftR (L : LV) (ch P : List Nat) : List Nat := (ch.filter fun n => !P.contains n).filter (rdB L P)
noncomputable def grdy (L : LV) (ch : List Nat) : Nat → List Nat → Option (List Nat)
  | 0, P => some P
  | k + 1, P => match ftR L ch P with
    | [] => none
    | x :: _ => grdy L ch k (P ++ [x])
noncomputable def lstR (L : LV) (ch : List Nat) : Option (List Nat) := (grdy L ch ch.length []).bind fun P => if alikeB L P = true then some P else none
theorem any_rowK (f : Nat → Bool) (l : List Nat) : (rowD l).any (tInt f) = l.any f := by
  unfold rowD; rw [List.any_map]; rfl
theorem is_ready_spec {cd : D} (hP : P.length ≤ 100) (hkl : (KK L).length ≤ 1000) (hk7 : ∀ kv ∈ KK L, kv.1.length ≤ 100) (hn : n < L.rules.length) (q : Q (.bl (rdB L P n)) S) : wE (m_is_ready [L.d, .lst ((KK L).map itD), cd, .tup (rowD P), .int n] S) X Q := by
  refine go_is_ready ?_
  unfold b_is_ready
  unfold rdB at q
  generalize KK L = kk at q hkl hk7
  rw [wS_mSeq, wS_mFor, w_itV]
  simp only [w_var, List.getElem?_cons_zero, List.getElem?_cons_succ, Option.some.injEq, exists_eq_left', wE_ok]
  refine loop_wp (I := fun rest r S' => ∃ (b : List (List Nat × Int)) (x5 x6 : Option D), rest = b.map itD ∧ (∀ kv ∈ b, kv.1.length ≤ 100) ∧ kk.all (frB L P n) = b.all (frB L P n) ∧ r = [some L.d, some (.lst (kk.map itD)), some cd, some (.tup (rowD P)), some (.int n), x5, x6, none] ∧ S' = S) (fun d rest r S' hI => ?_) ⟨kk, none, none, rfl, hk7, rfl, rfl, rfl⟩ fun r S' hI => ?_
  · obtain ⟨b, x5, x6, er, hb, ef, rfl, rfl⟩ := hI
    cases b with
    | nil => cases er
    | cons kv b =>
      obtain ⟨rfl, rfl⟩ := List.cons.inj er
      rw [List.all_cons] at ef
      have h7 := hb kv (List.mem_cons_self ..)
      have hb' : ∀ kv ∈ b, kv.1.length ≤ 100 := fun kv hk => hb kv (List.mem_cons_of_mem _ hk)
      simp only [tgSet, tgSetL, itD, List.set_cons_zero, List.set_cons_succ]
      rw [wS_mIf]
      simp only [w_and, w_T, w_op, w_var, List.getElem?_cons_zero, List.getElem?_cons_succ, Option.some.injEq, exists_eq_left']
      rw [o_inT]
      refine ⟨⟨rfl, flat_row⟩, ?_⟩
      rw [in_row]
      have efr : frB L P n kv = !(kv.1.contains n && (!kv.1.any P.contains && !(actN L n == kv.2))) := rfl
      cases h1 : kv.1.contains n with
      | false =>
        rw [efr, h1, Bool.false_and, Bool.not_false, Bool.true_and] at ef
        simp only [Bool.false_eq_true, ↓reduceIte, D.bl.injEq, exists_eq_left', wS_mNx]
        (first | exact ⟨b, _, _, rfl, hb', ef, rfl, rfl⟩ | exact ⟨b, _, _, rfl, hb', ef, rfl⟩ | exact ⟨b, _, _, rfl, hb', ef, rfl, trivial⟩ | exact ⟨b, _, _, rfl, hb', ef, rfl, rfl, rfl⟩)
      | true =>
        simp only [Bool.false_eq_true, ↓reduceIte, D.bl.injEq, exists_eq_left', w_and, w_not, w_tr, w_call, w_cons, w_nil, w_fz, wE_mLc, w_itV, wE_ok, w_var, List.getElem?_cons_zero, List.getElem?_cons_succ, Option.some.injEq]
        refine any_wp (f := tInt P.contains) (fun e he => ⟨_, rfl, fun X Q q => ?_⟩) (by rw [row_len]; omega) ?_
        · obtain ⟨m, hm, rfl⟩ := row_mem he
          simp only [w_op, w_var, List.getElem?_cons_zero, List.getElem?_cons_succ, List.set_cons_zero, List.set_cons_succ, Option.some.injEq, exists_eq_left', wipeD]
          rw [o_inT]
          refine ⟨⟨rfl, flat_row⟩, ?_⟩
          rw [in_row]
          simp only [Bool.false_eq_true, ↓reduceIte]
          exact q
        · rw [any_rowK]
          cases h2 : kv.1.any P.contains with
          | true =>
            rw [efr, h1, h2, Bool.not_true, Bool.false_and, Bool.and_false, Bool.not_false, Bool.true_and] at ef
            simp only [truD, Option.some.injEq, exists_eq_left', Bool.not_true, Bool.false_eq_true, ↓reduceIte, wS_mNx]
            (first | exact ⟨b, _, _, rfl, hb', ef, rfl, rfl⟩ | exact ⟨b, _, _, rfl, hb', ef, rfl⟩ | exact ⟨b, _, _, rfl, hb', ef, rfl, trivial⟩ | exact ⟨b, _, _, rfl, hb', ef, rfl, rfl, rfl⟩)
          | false =>
            simp only [truD, Option.some.injEq, exists_eq_left', Bool.not_false, Bool.false_eq_true, ↓reduceIte, w_T, w_op, w_c, w_var, List.getElem?_cons_zero, List.getElem?_cons_succ, ix1]
            refine act_at hn ?_
            simp only [o_eqI]
            cases h3 : (actN L n == kv.2) with
            | true =>
              rw [efr, h1, h2, h3, Bool.not_true, Bool.and_false, Bool.and_false, Bool.not_false, Bool.true_and] at ef
              simp only [Bool.not_true, ↓reduceIte, D.bl.injEq, exists_eq_left', Bool.false_eq_true, wS_mNx]
              (first | exact ⟨b, _, _, rfl, hb', ef, rfl, rfl⟩ | exact ⟨b, _, _, rfl, hb', ef, rfl⟩ | exact ⟨b, _, _, rfl, hb', ef, rfl, trivial⟩ | exact ⟨b, _, _, rfl, hb', ef, rfl, rfl, rfl⟩)
            | false =>
              rw [efr, h1, h2, h3] at ef
              simp only [Bool.not_false, Bool.and_self, Bool.not_true, Bool.false_and] at ef
              rw [ef] at q
              simp only [Bool.not_false, ↓reduceIte, D.bl.injEq, exists_eq_left', wS_mRet, w_c]
              exact wE_fin rfl q
  · obtain ⟨b, x5, x6, er, hb, ef, rfl, rfl⟩ := hI
    have : b = [] := by simpa using er.symm
    subst this
    rw [ef] at q
    simp only [wS_mSeq, wS_mSet, wS_mRet, wS_mRetN, wS_mDrop, wS_mIf, wS_mSub, wS_mNx, wS_mBrk, wS_mCnt, wS_mAsg, wE_ok, wE_exc, w_var, w_c, w_op, w_T, w_chain, w_tr, w_not, w_and, w_or, w_ite, w_andV, w_orV, w_notV, w_neg, w_nil, w_cons, w_tup, w_call, w_fz, w_al, w_disp, w_callL, w_R1, w_R2, w_rgL, w_rgT, w_itR, w_isi, w_met, w_noP, w_part, w_sl, w_itV, w_itE, w_itZ, w_repL, wE_mLc, wS_mFor, o_addI, o_addT, o_addL, o_sub, o_I, o_mulI, o_mulT, o_mulN, o_B, o_C, o_is, o_eqI, o_ixT, o_ixL, o_ixR, o_slT, o_slL, f_lenT, f_lenL, f_abs, f_int, f_tupL, f_tupT, f_listT, f_listL, f_listS, f_sum, f_sorted, f_append, f_extendL, w_trN, w_getN, w_newD, wS_mSubN, w_disp1, w_itN, w_itT, w_dc, wS_mAsgL, w_sortIt, w_idx, wS_mRz, wS_mTry1, w_fld, w_meth, w_make, wS_mSetF, w_Xf, w_IsX, wS_mIfR, wS_exc, f_rng, w_itG, w_itDn, w_itC, w_lIt, w_lVs, w_sortSet, w_cntT, List.getElem?_cons_zero, List.getElem?_cons_succ, List.set_cons_zero, List.set_cons_succ, Option.some.injEq, exists_eq_left', exists_eq_left, D.int.injEq, D.bl.injEq, D.ref.injEq, MO.lst.injEq, ↓reduceIte, Bool.false_eq_true, Bool.not_true, Bool.not_false, reduceCtorEq, true_and, and_true, List.length_cons, List.length_nil, List.cons_append, List.nil_append, List.map_cons, List.map_nil, Nat.reduceAdd, Nat.zero_add]
    exact wE_fin rfl q
theorem KK_len (h : L.Ok) : (KK L).length ≤ 512 := Nat.le_trans (kk_ok (L := L) (casesL L.ws)).l (case_bound h)
theorem KK_7 (h : L.Ok) : ∀ kv ∈ KK L, kv.1.length ≤ 100 := fun kv hk => by
  obtain ⟨c, _, rfl⟩ := (kk_ok (L := L) (casesL L.ws)).m kv hk
  have := (kyM_ok (c := c) h).2
  show (kyM L c).length ≤ 100
  omega
theorem ft_mem {x : Nat} : x ∈ ftR L ch P ↔ x ∈ ch ∧ x ∉ P ∧ rdB L P x = true := by
  unfold ftR
  rw [List.mem_filter, List.mem_filter]
  simp [and_assoc]
theorem grdy_mem : ∀ (k : Nat) {P P' : List Nat}, (∀ x ∈ P, x ∈ ch) → P.Nodup → grdy L ch k P = some P' → (∀ x ∈ P', x ∈ ch) ∧ P'.Nodup ∧ P'.length = P.length + k
  | 0, P, P', h1, h2, e => by cases e; exact ⟨h1, h2, rfl⟩
  | k + 1, P, P', h1, h2, e => by
    unfold grdy at e
    cases hf : ftR L ch P with
    | nil => rw [hf] at e; cases e
    | cons x t =>
      rw [hf] at e
      obtain ⟨m1, m2, m3⟩ := ft_mem.mp (show x ∈ ftR L ch P by rw [hf]; simp)
      obtain ⟨r1, r2, r3⟩ := grdy_mem k (P := P ++ [x]) (fun y hy => by
        rcases List.mem_append.mp hy with hy | hy
        · exact h1 y hy
        · rw [List.mem_singleton.mp hy]; exact m1) (by
        rw [List.nodup_append]
        exact ⟨h2, by simp, fun a ha b hb e => by rw [List.mem_singleton.mp hb] at e; subst e; exact m2 ha⟩) e
      exact ⟨r1, r2, by rw [r3]; simp; omega⟩
theorem grdy_nil {k : Nat} (hf : ftR L ch P = []) : grdy L ch (k + 1) P = none := by
  conv => lhs; unfold grdy
  rw [hf]
theorem grdy_cons {k x : Nat} {t : List Nat} (hf : ftR L ch P = x :: t) : grdy L ch (k + 1) P = grdy L ch k (P ++ [x]) := by
  conv => lhs; unfold grdy
  rw [hf]
theorem least_row_spec (h : L.Ok) (hch : ∀ m ∈ ch, m < L.rules.length) (hl : ch.length ≤ 7) (q : Q (optR (lstR L ch)) S) : wE (m_least_row [L.d, .lst ((KK L).map itD), .tup (rowD ch)] S) X Q := by
  have hkl := KK_len h
  have hk7 := KK_7 h
  refine go_least_row ?_
  unfold b_least_row
  refine sq_set (fun d S' => d = .tup (rowD []) ∧ S' = S) ?_ ?_
  · simp only [wE_ok, wE_exc, w_var, w_c, w_op, w_T, w_chain, w_tr, w_not, w_and, w_or, w_ite, w_andV, w_orV, w_notV, w_neg, w_nil, w_cons, w_tup, w_call, w_fz, w_al, w_disp, w_callL, w_R1, w_R2, w_rgL, w_rgT, w_itR, w_isi, w_met, w_noP, w_part, w_sl, w_itV, w_itE, w_itZ, w_repL, wE_mLc, o_addI, o_addT, o_addL, o_sub, o_I, o_mulI, o_mulT, o_mulN, o_B, o_C, o_is, o_eqI, o_ixT, o_ixL, o_ixR, o_slT, o_slL, f_lenT, f_lenL, f_abs, f_int, f_tupL, f_tupT, f_listT, f_listL, f_listS, f_sum, f_sorted, f_append, f_extendL, w_trN, w_getN, w_newD, w_disp1, w_itN, w_itT, w_dc, w_sortIt, w_idx, w_fld, w_meth, w_make, w_Xf, w_IsX, f_rng, w_itG, w_itDn, w_itC, w_lIt, w_lVs, w_sortSet, w_cntT, List.getElem?_cons_zero, List.getElem?_cons_succ, List.set_cons_zero, List.set_cons_succ, Option.some.injEq, exists_eq_left', exists_eq_left, D.int.injEq, D.bl.injEq, D.ref.injEq, MO.lst.injEq, ↓reduceIte, Bool.false_eq_true, Bool.not_true, Bool.not_false, reduceCtorEq, true_and, and_true, List.length_cons, List.length_nil, List.cons_append, List.nil_append, List.map_cons, List.map_nil, Nat.reduceAdd, Nat.zero_add]; first | done | exact ⟨rfl, rfl⟩ | exact ⟨by decide, rfl, rfl⟩ | exact ⟨by decide, rfl⟩ | rfl | exact ⟨rfl, trivial⟩
  rintro _ S ⟨rfl, rfl⟩
  simp only [List.set_cons_zero, List.set_cons_succ]
  rw [wS_mSeq, wS_mFor]
  simp only [w_itR, w_R1, w_call, w_cons, w_nil, w_var, List.getElem?_cons_zero, List.getElem?_cons_succ, Option.some.injEq, exists_eq_left', f_lenT, row_len, D.int.injEq]
  refine ⟨by omega, ?_⟩
  rw [rowD_asc]
  refine loop_wp (I := fun rest r S' => ∃ (k : Nat) (P : List Nat) (x4 x5 x6 : Option D), rest.length = k ∧ grdy L ch ch.length [] = grdy L ch k P ∧ (∀ x ∈ P, x ∈ ch) ∧ P.Nodup ∧ P.length + k = ch.length ∧ r = [some L.d, some (.lst ((KK L).map itD)), some (.tup (rowD ch)), some (.tup (rowD P)), x4, x5, x6, none] ∧ S' = S) (fun d rest r S' hI => ?_) ⟨ch.length, [], none, none, none, by rw [row_len, List.length_range], rfl, (fun x hx => by cases hx), List.nodup_nil, by simp, rfl, rfl⟩ fun r S' hI => ?_
  · obtain ⟨k, P, x4, x5, x6, hk, eg, hP1, hP2, hPl, rfl, rfl⟩ := hI
    cases k with
    | zero => cases hk
    | succ k =>
      have hk' : rest.length = k := by simpa using hk
      simp only [tgSet, List.set_cons_zero, List.set_cons_succ]
      refine sq_set (fun d S2 => d = .lst (rowD (ch.filter fun n => !P.contains n)) ∧ S2 = S') ?_ ?_
      · simp only [w_fz, wE_mLc, w_itV, wE_ok, w_var, List.getElem?_cons_zero, List.getElem?_cons_succ, Option.some.injEq, exists_eq_left']
        refine row_filter_wp (p := fun n => !P.contains n) (by omega) (fun m hm => ⟨_, rfl, fun X Q q => ?_, fun X Q q => ?_⟩) ⟨rfl, rfl⟩
        · simp only [w_T, w_op, w_var, List.getElem?_cons_zero, List.getElem?_cons_succ, List.set_cons_zero, List.set_cons_succ, Option.some.injEq, exists_eq_left', wipeD]
          rw [o_inT]
          refine ⟨⟨rfl, flat_row⟩, ?_⟩
          rw [in_row]
          simp only [↓reduceIte, D.bl.injEq, exists_eq_left']
          exact q
        · simp only [wE_ok, wE_exc, w_var, w_c, w_op, w_T, w_chain, w_tr, w_not, w_and, w_or, w_ite, w_andV, w_orV, w_notV, w_neg, w_nil, w_cons, w_tup, w_call, w_fz, w_al, w_disp, w_callL, w_R1, w_R2, w_rgL, w_rgT, w_itR, w_isi, w_met, w_noP, w_part, w_sl, w_itV, w_itE, w_itZ, w_repL, wE_mLc, o_addI, o_addT, o_addL, o_sub, o_I, o_mulI, o_mulT, o_mulN, o_B, o_C, o_is, o_eqI, o_ixT, o_ixL, o_ixR, o_slT, o_slL, f_lenT, f_lenL, f_abs, f_int, f_tupL, f_tupT, f_listT, f_listL, f_listS, f_sum, f_sorted, f_append, f_extendL, w_trN, w_getN, w_newD, w_disp1, w_itN, w_itT, w_dc, w_sortIt, w_idx, w_fld, w_meth, w_make, w_Xf, w_IsX, f_rng, w_itG, w_itDn, w_itC, w_lIt, w_lVs, w_sortSet, w_cntT, List.getElem?_cons_zero, List.getElem?_cons_succ, List.set_cons_zero, List.set_cons_succ, Option.some.injEq, exists_eq_left', exists_eq_left, D.int.injEq, D.bl.injEq, D.ref.injEq, MO.lst.injEq, ↓reduceIte, Bool.false_eq_true, Bool.not_true, Bool.not_false, reduceCtorEq, true_and, and_true, List.length_cons, List.length_nil, List.cons_append, List.nil_append, List.map_cons, List.map_nil, Nat.reduceAdd, Nat.zero_add, wipeD]; exact q
      rintro _ S' ⟨rfl, rfl⟩
      simp only [List.set_cons_zero, List.set_cons_succ]
      have hfl : (ch.filter fun n => !P.contains n).length ≤ 7 := Nat.le_trans (List.length_filter_le _ _) hl
      refine sq_set (fun d S2 => d = .lst (rowD (ftR L ch P)) ∧ S2 = S') ?_ ?_
      · simp only [w_fz, wE_mLc, w_itV, wE_ok, w_var, List.getElem?_cons_zero, List.getElem?_cons_succ, Option.some.injEq, exists_eq_left']
        refine row_filter_wp (p := rdB L P) (by omega) (fun m hm => ⟨_, rfl, fun X Q q => ?_, fun X Q q => ?_⟩) ⟨rfl, rfl⟩
        · simp only [w_tr, w_call, w_cons, w_nil, w_var, List.getElem?_cons_zero, List.getElem?_cons_succ, List.set_cons_zero, List.set_cons_succ, Option.some.injEq, exists_eq_left', wipeD]
          refine is_ready_spec (by omega) (by omega) hk7 (hch m (List.mem_filter.mp hm).1) ?_
          simp only [truD, Option.some.injEq, exists_eq_left']
          exact q
        · simp only [wE_ok, wE_exc, w_var, w_c, w_op, w_T, w_chain, w_tr, w_not, w_and, w_or, w_ite, w_andV, w_orV, w_notV, w_neg, w_nil, w_cons, w_tup, w_call, w_fz, w_al, w_disp, w_callL, w_R1, w_R2, w_rgL, w_rgT, w_itR, w_isi, w_met, w_noP, w_part, w_sl, w_itV, w_itE, w_itZ, w_repL, wE_mLc, o_addI, o_addT, o_addL, o_sub, o_I, o_mulI, o_mulT, o_mulN, o_B, o_C, o_is, o_eqI, o_ixT, o_ixL, o_ixR, o_slT, o_slL, f_lenT, f_lenL, f_abs, f_int, f_tupL, f_tupT, f_listT, f_listL, f_listS, f_sum, f_sorted, f_append, f_extendL, w_trN, w_getN, w_newD, w_disp1, w_itN, w_itT, w_dc, w_sortIt, w_idx, w_fld, w_meth, w_make, w_Xf, w_IsX, f_rng, w_itG, w_itDn, w_itC, w_lIt, w_lVs, w_sortSet, w_cntT, List.getElem?_cons_zero, List.getElem?_cons_succ, List.set_cons_zero, List.set_cons_succ, Option.some.injEq, exists_eq_left', exists_eq_left, D.int.injEq, D.bl.injEq, D.ref.injEq, MO.lst.injEq, ↓reduceIte, Bool.false_eq_true, Bool.not_true, Bool.not_false, reduceCtorEq, true_and, and_true, List.length_cons, List.length_nil, List.cons_append, List.nil_append, List.map_cons, List.map_nil, Nat.reduceAdd, Nat.zero_add, wipeD]; exact q
      rintro _ S' ⟨rfl, rfl⟩
      simp only [List.set_cons_zero, List.set_cons_succ]
      rw [wS_mSeq, wS_mIf]
      simp only [w_not, w_tr, w_var, List.getElem?_cons_zero, List.getElem?_cons_succ, Option.some.injEq, exists_eq_left', truD]
      cases hf : ftR L ch P with
      | nil =>
        rw [grdy_nil hf] at eg
        have e0 : lstR L ch = none := by
          unfold lstR
          rw [eg]; rfl
        rw [e0] at q
        simp only [rowD, List.map_nil, List.isEmpty_nil, Bool.not_true, Bool.not_false, ↓reduceIte, wS_mRet, w_c]
        exact wE_fin rfl q
      | cons x t =>
        rw [grdy_cons hf] at eg
        obtain ⟨m1, m2, m3⟩ := ft_mem.mp (show x ∈ ftR L ch P by rw [hf]; simp)
        simp only [rowD, List.map_cons, List.isEmpty_cons, Bool.not_false, Bool.not_true, Bool.false_eq_true, ↓reduceIte, wS_mNx]
        rw [wS_mSet]
        simp only [w_op, w_tup, w_cons, w_nil, w_c, w_var, List.getElem?_cons_zero, List.getElem?_cons_succ, Option.some.injEq, exists_eq_left', o_ixL]
        refine ⟨_, atI_cons0, ?_⟩
        simp only [List.length_cons, List.length_nil]
        refine ⟨Nat.le_of_ble_eq_true rfl, ?_⟩
        rw [o_addT]
        refine ⟨by simp; omega, ?_⟩
        simp only [List.set_cons_zero, List.set_cons_succ]
        refine ⟨k, P ++ [x], some d, some (.lst (rowD (ch.filter fun n => !P.contains n))), some (.lst (rowD (x :: t))), hk', ?_, ?_, ?_, ?_, ?_⟩
        · exact eg
        · intro y hy
          rcases List.mem_append.mp hy with hy | hy
          · exact hP1 y hy
          · rw [List.mem_singleton.mp hy]; exact m1
        · rw [List.nodup_append]
          exact ⟨hP2, by simp, fun a ha b hb e => by rw [List.mem_singleton.mp hb] at e; subst e; exact m2 ha⟩
        · rw [List.length_append]; show P.length + 1 + k = _; omega
        · first | exact ⟨by simp [rowD], rfl⟩ | simp [rowD]
  · obtain ⟨k, P, x4, x5, x6, hk, eg, hP1, hP2, hPl, rfl, rfl⟩ := hI
    have hk0 : k = 0 := by simpa using hk.symm
    subst hk0
    have e0 : lstR L ch = if alikeB L P = true then some P else none := by
      unfold lstR
      rw [eg]; rfl
    rw [e0] at q
    simp only [wS_mRet, w_ite, w_tr, w_call, w_cons, w_nil, w_var, List.getElem?_cons_zero, List.getElem?_cons_succ, Option.some.injEq, exists_eq_left']
    refine is_alike_spec h (fun m hm => hch m (hP1 m hm)) (by omega) ?_
    cases ha : alikeB L P with
    | true =>
      rw [ha] at q
      simp only [truD, Option.some.injEq, exists_eq_left', ↓reduceIte, w_var, List.getElem?_cons_zero, List.getElem?_cons_succ]
      exact wE_fin rfl q
    | false =>
      rw [ha] at q
      simp only [truD, Option.some.injEq, exists_eq_left', Bool.false_eq_true, ↓reduceIte, w_c]
      exact wE_fin rfl q
end
end LW

namespace LW
open PySem PySem.Spec PyProof.Rows L2 DL
/-! ### the greedy row: plain facts -/
section
variable {L : LV} {n : Nat} {ch P R : List Nat} {c : List Int}
/-- what alike means over the kinds -/
theorem alike_iff (hs : ∀ n ∈ R, n < L.rules.length) : alikeB L R = true ↔ ∀ kv ∈ KK L, actO L (R.find? kv.1.contains) = kv.2 := by
  rw [alike_kk hs, List.all_eq_true]
  refine forall_congr' fun kv => forall_congr' fun _ => ?_
  unfold kdB
  rw [beq_iff_eq, head_find]
theorem rd_iff : rdB L P n = true ↔ ∀ kv ∈ KK L, n ∈ kv.1 → (∀ m ∈ kv.1, m ∉ P) → actN L n = kv.2 := by
  unfold rdB
  rw [List.all_eq_true]
  refine forall_congr' fun kv => forall_congr' fun _ => ?_
  unfold frB
  rw [Bool.not_eq_true', Bool.and_eq_false_iff, Bool.and_eq_false_iff]
  constructor
  · intro h h1 h2
    rcases h with h | h | h
    · rw [List.contains_iff_mem.mpr h1] at h; cases h
    · have : kv.1.any P.contains = true := by simpa using h
      obtain ⟨m, hm, hp⟩ := List.any_eq_true.mp this
      exact absurd (List.contains_iff_mem.mp hp) (h2 m hm)
    · have : (actN L n == kv.2) = true := by simpa using h
      exact eq_of_beq this
  · intro h
    cases h1 : kv.1.contains n with
    | false => exact .inl rfl
    | true =>
      right
      cases h2 : kv.1.any P.contains with
      | true => exact .inl rfl
      | false =>
        right
        have := h (List.contains_iff_mem.mp h1) fun m hm hp => by
          have := List.any_eq_false.mp h2 m hm
          exact this (List.contains_iff_mem.mpr hp)
        rw [this]; simp
/-- each rule was ready at its place -/
def Rdd (L : LV) (P : List Nat) : Prop := ∀ (p : List Nat) (x : Nat) (q : List Nat), P = p ++ x :: q → rdB L p x = true
theorem rdd_nil : Rdd L [] := fun p x q e => by cases p <;> cases e
theorem rdd_snoc {x : Nat} (h : Rdd L P) (hx : rdB L P x = true) : Rdd L (P ++ [x]) := by
  intro p y q e
  rcases List.eq_nil_or_concat q with rfl | ⟨q', z, rfl⟩
  · have := List.append_inj' (show P ++ [x] = p ++ [y] from e) rfl
    obtain ⟨rfl, e2⟩ := this
    cases e2; exact hx
  · have e' : P ++ [x] = (p ++ y :: q') ++ [z] := by rw [e]; simp
    have := List.append_inj' e' rfl
    exact h p y q' this.1
/-- an alike row is ready at each place -/
theorem alike_rdd (hs : ∀ n ∈ R, n < L.rules.length) (ha : alikeB L R = true) : Rdd L R := by
  intro p x q e
  rw [rd_iff]
  intro kv hk hx hp
  have := (alike_iff hs).mp ha kv hk
  rw [e, List.find?_append, List.find?_eq_none.mpr (fun m hm hc => hp m (List.contains_iff_mem.mp hc) hm), Option.none_or, List.find?_cons, List.contains_iff_mem.mpr hx] at this
  exact this
/-- rows of the same rules: ready at each place is alike, if one is -/
theorem rdd_alike (hs : ∀ n ∈ R, n < L.rules.length) (ha : alikeB L R = true) (hm : ∀ x, x ∈ P ↔ x ∈ R) (hr : Rdd L P) : alikeB L P = true := by
  rw [alike_iff fun n hn => hs n ((hm n).mp hn)]
  intro kv hk
  cases hf : P.find? kv.1.contains with
  | none =>
    have := (alike_iff hs).mp ha kv hk
    rw [List.find?_eq_none.mpr (fun m hm' hc => List.find?_eq_none.mp hf m ((hm m).mpr hm') hc)] at this
    exact this
  | some x =>
    obtain ⟨hx, p, q, e, hp⟩ := List.find?_eq_some_iff_append.mp hf
    have := rd_iff.mp (hr p x q e) kv hk (List.contains_iff_mem.mp hx) fun m hm' hp' => by
      have := hp m hp'
      rw [List.contains_iff_mem.mpr hm'] at this
      cases this
    exact this
/-- where an alike row has a rule that is not placed: some rule is ready -/
theorem some_ready (hs : ∀ n ∈ R, n < L.rules.length) (ha : alikeB L R = true) (hP : ∃ x ∈ R, x ∉ P) : ∃ x ∈ R, x ∉ P ∧ rdB L P x = true := by
  have hr := alike_rdd hs ha
  obtain ⟨y, hy, hyP⟩ := hP
  cases hf : R.find? (fun x => !P.contains x) with
  | none =>
    have := List.find?_eq_none.mp hf y hy
    simp [hyP] at this
  | some x =>
    obtain ⟨hx, p, q, e, hp⟩ := List.find?_eq_some_iff_append.mp hf
    refine ⟨x, by rw [e]; simp, by simpa using hx, ?_⟩
    rw [rd_iff]
    intro kv hk hxm hno
    refine rd_iff.mp (hr p x q e) kv hk hxm fun m hm hmp => hno m hm ?_
    have := hp m hmp
    simpa using this
theorem grdy_rdd : ∀ (k : Nat) {P P' : List Nat}, Rdd L P → grdy L ch k P = some P' → Rdd L P'
  | 0, P, P', h, e => by cases e; exact h
  | k + 1, P, P', h, e => by
    unfold grdy at e
    cases hf : ftR L ch P with
    | nil => rw [hf] at e; cases e
    | cons x t =>
      rw [hf] at e
      exact grdy_rdd k (rdd_snoc h (ft_mem.mp (show x ∈ ftR L ch P by rw [hf]; simp)).2.2) e
theorem grdy_some (hs : ∀ n ∈ R, n < L.rules.length) (ha : alikeB L R = true) (hm : ∀ x, x ∈ ch ↔ x ∈ R) (hnd : ch.Nodup) : ∀ (k : Nat) {P : List Nat}, (∀ x ∈ P, x ∈ ch) → P.Nodup → P.length + k ≤ ch.length → ∃ P', grdy L ch k P = some P'
  | 0, P, _, _, _ => ⟨P, rfl⟩
  | k + 1, P, h1, h2, h3 => by
    obtain ⟨x, hx, hxP, hxr⟩ := some_ready (P := P) hs ha (by
      refine Classical.byContradiction fun hno => ?_
      have hsub : ∀ x ∈ ch, x ∈ P := fun x hx => Classical.byContradiction fun hc => hno ⟨x, (hm x).mp hx, hc⟩
      have := hnd.length_le_of_subset hsub
      omega)
    have hft : x ∈ ftR L ch P := ft_mem.mpr ⟨(hm x).mpr hx, hxP, hxr⟩
    unfold grdy
    cases hf : ftR L ch P with
    | nil => rw [hf] at hft; cases hft
    | cons y t =>
      obtain ⟨m1, m2, m3⟩ := ft_mem.mp (show y ∈ ftR L ch P by rw [hf]; simp)
      exact grdy_some hs ha hm hnd k (fun z hz => by
        rcases List.mem_append.mp hz with hz | hz
        · exact h1 z hz
        · rw [List.mem_singleton.mp hz]; exact m1) (by
        rw [List.nodup_append]
        exact ⟨h2, by simp, fun a ha b hb e => by rw [List.mem_singleton.mp hb] at e; subst e; exact m2 ha⟩) (by rw [List.length_append]; show P.length + 1 + k ≤ _; omega)
theorem mem_of_len {l k : List Nat} (h1 : ∀ x ∈ l, x ∈ k) (nl : l.Nodup) (hl : k.length ≤ l.length) (nk : k.Nodup) : ∀ x, x ∈ l ↔ x ∈ k := fun x => ⟨h1 x, fun hx => Classical.byContradiction fun hc => by
  have := (List.nodup_cons.mpr ⟨hc, nl⟩).length_le_of_subset (l₂ := k) fun y hy => by
    rcases List.mem_cons.mp hy with rfl | hy
    · exact hx
    · exact h1 y hy
  simp at this
  omega⟩
/-- the greedy row of some rules: there is one if some row of them is alike -/
theorem lst_some (hch : ∀ m ∈ ch, m < L.rules.length) (hnd : ch.Nodup) (hR : R.Nodup) (hm : ∀ x, x ∈ ch ↔ x ∈ R) (ha : alikeB L R = true) : ∃ P, lstR L ch = some P := by
  have hs : ∀ n ∈ R, n < L.rules.length := fun n hn => hch n ((hm n).mpr hn)
  obtain ⟨P, hP⟩ := grdy_some (L := L) hs ha hm hnd ch.length (P := []) (fun x hx => by cases hx) List.nodup_nil (by simp)
  obtain ⟨p1, p2, p3⟩ := grdy_mem ch.length (P := []) (fun x hx => by cases hx) List.nodup_nil hP
  have hpm := mem_of_len p1 p2 (by rw [p3]; simp) hnd
  have hal := rdd_alike hs ha (fun x => (hpm x).trans (hm x)) (grdy_rdd _ rdd_nil hP)
  refine ⟨P, ?_⟩
  unfold lstR
  rw [hP, Option.bind_some, if_pos hal]
structure LstOk (L : LV) (ch P : List Nat) : Prop where
  m : ∀ x ∈ P, x ∈ ch
  nd : P.Nodup
  l : P.length = ch.length
  a : alikeB L P = true
theorem lst_ok (h : lstR L ch = some P) : LstOk L ch P := by
  unfold lstR at h
  cases hg : grdy L ch ch.length [] with
  | none => rw [hg] at h; cases h
  | some P' =>
    rw [hg, Option.bind_some] at h
    split at h
    · rename_i ha
      cases h
      obtain ⟨p1, p2, p3⟩ := grdy_mem ch.length (P := []) (fun x hx => by cases hx) List.nodup_nil hg
      exact ⟨p1, p2, by rw [p3]; simp, ha⟩
    · cases h
/-! the shortest row -/
noncomputable def rowsM (L : LV) (r : Nat) : List (Option (List Nat)) := (cbL r (List.range L.rules.length)).map (lstR L)
noncomputable def toldM (L : LV) (r : Nat) : List (List Nat) := (rowsM L r).filterMap id
/-- the rules of a row, ascending -/
noncomputable def setOf (L : LV) (R : List Nat) : List Nat := (List.range L.rules.length).filter R.contains
theorem setOf_mem (hs : ∀ n ∈ R, n < L.rules.length) {x : Nat} : x ∈ setOf L R ↔ x ∈ R := by
  unfold setOf
  rw [List.mem_filter, List.contains_iff_mem, List.mem_range]
  exact ⟨fun h => h.2, fun h => ⟨hs x h, h⟩⟩
theorem setOf_nd : (setOf L R).Nodup := List.nodup_range.filter _
theorem setOf_len (hs : ∀ n ∈ R, n < L.rules.length) (hR : R.Nodup) : (setOf L R).length = R.length :=
  Nat.le_antisymm (setOf_nd.length_le_of_subset fun x hx => (setOf_mem hs).mp hx) (hR.length_le_of_subset fun x hx => (setOf_mem hs).mpr hx)
theorem told_ne (hs : ∀ n ∈ R, n < L.rules.length) (hR : R.Nodup) (ha : alikeB L R = true) : ∃ P, lstR L (setOf L R) = some P ∧ P ∈ toldM L R.length := by
  obtain ⟨P, hP⟩ := lst_some (L := L) (ch := setOf L R) (fun m hm => hs m ((setOf_mem hs).mp hm)) setOf_nd hR (fun x => setOf_mem hs) ha
  refine ⟨P, hP, ?_⟩
  unfold toldM rowsM
  rw [List.filterMap_map, List.mem_filterMap]
  refine ⟨setOf L R, (cbL_mem _ _ _).mpr ⟨List.filter_sublist, setOf_len hs hR⟩, hP⟩
theorem told_mem {r : Nat} (h : P ∈ toldM L r) : ∃ ch, ch.Sublist (List.range L.rules.length) ∧ ch.length = r ∧ LstOk L ch P := by
  unfold toldM rowsM at h
  rw [List.filterMap_map, List.mem_filterMap] at h
  obtain ⟨ch, h1, h2⟩ := h
  obtain ⟨h3, h4⟩ := (cbL_mem _ _ _).mp h1
  exact ⟨ch, h3, h4, lst_ok h2⟩
end
end LW

namespace LW
open PySem PySem.Spec PyProof.Rows L2 DL
/-! ### the shortest row -/
def ltR (a b : List Nat) : Bool := lessD (rowK a) (rowK b)
def minR : List (List Nat) → List Nat
  | [] => []
  | x :: xs => xs.foldl (fun a y => if ltR y a = true then y else a) x
theorem minD_rows : ∀ {l : List (List Nat)}, l ≠ [] → minDD (l.map rowK) = rowK (minR l)
  | [], h => absurd rfl h
  | x :: xs, _ => by
    show (xs.map rowK).foldl (fun a y => if lessD y a = true then y else a) (rowK x) = _
    have key : ∀ (xs : List (List Nat)) (x : List Nat), (xs.map rowK).foldl (fun a y => if lessD y a = true then y else a) (rowK x) = rowK (xs.foldl (fun a y => if ltR y a = true then y else a) x) := by
      intro xs
      induction xs with
      | nil => intro x; rfl
      | cons y xs ih =>
        intro x
        rw [List.map_cons, List.foldl_cons, List.foldl_cons, ← ih]
        congr 1
        unfold ltR
        split <;> rfl
    exact key xs x
theorem minR_mem : ∀ {l : List (List Nat)}, l ≠ [] → minR l ∈ l
  | [], h => absurd rfl h
  | x :: xs, _ => by
    have key : ∀ (xs : List (List Nat)) (x : List Nat), xs.foldl (fun a y => if ltR y a = true then y else a) x = x ∨ xs.foldl (fun a y => if ltR y a = true then y else a) x ∈ xs := by
      intro xs
      induction xs with
      | nil => intro x; exact .inl rfl
      | cons y xs ih =>
        intro x
        rw [List.foldl_cons]
        rcases ih (if ltR y x = true then y else x) with h | h
        · rw [h]
          split
          · exact .inr (List.mem_cons_self ..)
          · exact .inl rfl
        · exact .inr (List.mem_cons_of_mem _ h)
    show xs.foldl _ x ∈ x :: xs
    rcases key xs x with h | h
    · rw [h]; exact List.mem_cons_self ..
    · exact List.mem_cons_of_mem _ h
section
variable {L : LV} {S : Sto} {X : Ex → Sto → Prop} {Q : D → Sto → Prop}
theorem cbL_count : ∀ (r : Nat) (l : List Nat), (cbL r l).length ≤ 2 ^ l.length
  | 0, l => by
    have e : cbL 0 l = [[]] := by cases l <;> rfl
    rw [e]; exact Nat.one_le_two_pow
  | r + 1, [] => Nat.zero_le _
  | r + 1, x :: l => by
    rw [cbL_cons, List.length_append, List.length_map]
    have h1 := cbL_count r l
    have h2 := cbL_count (r + 1) l
    rw [List.length_cons, Nat.pow_succ]
    omega
theorem told_rows {r : Nat} : ((rowsM L r).filter Option.isSome).map optR = (toldM L r).map rowK := by
  unfold toldM
  induction rowsM L r with
  | nil => rfl
  | cons o l ih =>
    cases o with
    | none => exact ih
    | some p =>
      show optR (some p) :: ((l.filter Option.isSome).map optR) = rowK p :: ((l.filterMap id).map rowK)
      rw [ih]; rfl
theorem shortest_spec (h : L.Ok) (hS : S.all (MO.ltD S.length) = true) (q : ∀ r, r ≤ L.rules.length → toldM L r ≠ [] → (∀ r' < r, toldM L r' = []) → Q (.tup (rowD (minR (toldM L r)))) S) : wE (m_shortest_row [L.d] S) X Q := by
  have hn7 := h.n
  refine go_shortest_row ?_
  unfold b_shortest_row
  refine sq_drop (fun S' => S' = S) ?_ ?_
  · simp only [wE_ok, wE_exc, w_var, w_c, w_op, w_T, w_chain, w_tr, w_not, w_and, w_or, w_ite, w_andV, w_orV, w_notV, w_neg, w_nil, w_cons, w_tup, w_call, w_fz, w_al, w_disp, w_callL, w_R1, w_R2, w_rgL, w_rgT, w_itR, w_isi, w_met, w_noP, w_part, w_sl, w_itV, w_itE, w_itZ, w_repL, wE_mLc, o_addI, o_addT, o_addL, o_sub, o_I, o_mulI, o_mulT, o_mulN, o_B, o_C, o_is, o_eqI, o_ixT, o_ixL, o_ixR, o_slT, o_slL, f_lenT, f_lenL, f_abs, f_int, f_tupL, f_tupT, f_listT, f_listL, f_listS, f_sum, f_sorted, f_append, f_extendL, w_trN, w_getN, w_newD, w_disp1, w_itN, w_itT, w_dc, w_sortIt, w_idx, w_fld, w_meth, w_make, w_Xf, w_IsX, f_rng, w_itG, w_itDn, w_itC, w_lIt, w_lVs, w_sortSet, w_cntT, List.getElem?_cons_zero, List.getElem?_cons_succ, List.set_cons_zero, List.set_cons_succ, Option.some.injEq, exists_eq_left', exists_eq_left, D.int.injEq, D.bl.injEq, D.ref.injEq, MO.lst.injEq, ↓reduceIte, Bool.false_eq_true, Bool.not_true, Bool.not_false, reduceCtorEq, true_and, and_true, List.length_cons, List.length_nil, List.cons_append, List.nil_append, List.map_cons, List.map_nil, Nat.reduceAdd, Nat.zero_add]; exact check_spec h rfl
  rintro S rfl
  refine sq_set (fun d S' => d = .lst ((KK L).map itD) ∧ S' = S) ?_ ?_
  · simp only [wE_ok, wE_exc, w_var, w_c, w_op, w_T, w_chain, w_tr, w_not, w_and, w_or, w_ite, w_andV, w_orV, w_notV, w_neg, w_nil, w_cons, w_tup, w_call, w_fz, w_al, w_disp, w_callL, w_R1, w_R2, w_rgL, w_rgT, w_itR, w_isi, w_met, w_noP, w_part, w_sl, w_itV, w_itE, w_itZ, w_repL, wE_mLc, o_addI, o_addT, o_addL, o_sub, o_I, o_mulI, o_mulT, o_mulN, o_B, o_C, o_is, o_eqI, o_ixT, o_ixL, o_ixR, o_slT, o_slL, f_lenT, f_lenL, f_abs, f_int, f_tupL, f_tupT, f_listT, f_listL, f_listS, f_sum, f_sorted, f_append, f_extendL, w_trN, w_getN, w_newD, w_disp1, w_itN, w_itT, w_dc, w_sortIt, w_idx, w_fld, w_meth, w_make, w_Xf, w_IsX, f_rng, w_itG, w_itDn, w_itC, w_lIt, w_lVs, w_sortSet, w_cntT, List.getElem?_cons_zero, List.getElem?_cons_succ, List.set_cons_zero, List.set_cons_succ, Option.some.injEq, exists_eq_left', exists_eq_left, D.int.injEq, D.bl.injEq, D.ref.injEq, MO.lst.injEq, ↓reduceIte, Bool.false_eq_true, Bool.not_true, Bool.not_false, reduceCtorEq, true_and, and_true, List.length_cons, List.length_nil, List.cons_append, List.nil_append, List.map_cons, List.map_nil, Nat.reduceAdd, Nat.zero_add]; exact kinds_specK h hS ⟨rfl, rfl⟩
  rintro _ S ⟨rfl, rfl⟩
  simp only [List.set_cons_zero, List.set_cons_succ]
  rw [wS_mSeq, wS_mFor]
  simp only [w_itR, w_R1, w_call, w_cons, w_nil, w_op, w_c, w_var, List.getElem?_cons_zero, List.getElem?_cons_succ, Option.some.injEq, exists_eq_left', ix1, f_lenT, List.length_map, o_addI, D.int.injEq]
  refine ⟨by omega, ?_⟩
  rw [show ((L.rules.length : Int) + 1) = ((L.rules.length + 1 : Nat) : Int) by omega, rowD_asc]
  refine loop_wp (I := fun rest rho S' => ∃ (k : Nat) (x2 x3 x4 : Option D), rest = rowD ((List.range (L.rules.length + 1)).drop k) ∧ (∀ r' < k, toldM L r' = []) ∧ rho = [some L.d, some (.lst ((KK L).map itD)), x2, x3, x4, none, none] ∧ S' = S) (fun d rest rho S' hI => ?_) ⟨0, none, none, none, rfl, (fun r' hr => by omega), rfl, rfl⟩ fun rho S' hI => ?_
  · obtain ⟨k, x2, x3, x4, er, hk, rfl, rfl⟩ := hI
    have hkn : k < L.rules.length + 1 := by
      refine Nat.lt_of_not_le fun hc => ?_
      rw [List.drop_of_length_le (by rw [List.length_range]; exact hc)] at er
      cases er
    have hd : (List.range (L.rules.length + 1)).drop k = k :: (List.range (L.rules.length + 1)).drop (k + 1) := by
      rw [List.drop_eq_getElem_cons (by rw [List.length_range]; exact hkn), List.getElem_range]
    rw [hd] at er
    obtain ⟨rfl, rfl⟩ := List.cons.inj er
    simp only [tgSet, List.set_cons_zero, List.set_cons_succ]
    have h128 : (cbL k (List.range L.rules.length)).length ≤ 128 := by
      have h1 := cbL_count k (List.range L.rules.length)
      rw [List.length_range] at h1
      have h2 : 2 ^ L.rules.length ≤ 2 ^ 7 := Nat.pow_le_pow_right (by decide) hn7
      omega
    refine sq_set (fun d S2 => d = .lst ((rowsM L k).map optR) ∧ S2 = S') ?_ ?_
    · simp only [w_fz, wE_mLc, w_itC, w_call, w_cons, w_nil, w_var, List.getElem?_cons_zero, List.getElem?_cons_succ, Option.some.injEq, exists_eq_left']
      refine asc_spec h ?_
      refine ⟨rowD (asc L), k, .inl rfl, rfl, ?_, ?_⟩
      · rw [row_len, asc_len]; omega
      rw [show rowD (asc L) = (List.range L.rules.length).map fun n : Nat => D.int n from rfl, cbL_map, List.map_map, Int.toNat_natCast]
      refine enc_map (enc := D.tup ∘ List.map fun n : Nat => D.int n) (xs := cbL k (List.range L.rules.length)) (fun ch => optR (lstR L ch)) (by omega) (fun ch hc => ⟨_, rfl, fun X Q q => ?_⟩) ?_
      · have hch := cb_lt (by omega) (by omega) hc
        have hl7 := cbL_len (by omega) (by omega) hc
        simp only [w_call, w_cons, w_nil, w_var, List.getElem?_cons_zero, List.getElem?_cons_succ, List.set_cons_zero, List.set_cons_succ, Option.some.injEq, exists_eq_left', wipeD]
        exact least_row_spec h hch hl7 q
      · unfold rowsM
        rw [List.map_map]
        exact ⟨rfl, rfl⟩
    rintro _ S' ⟨rfl, rfl⟩
    simp only [List.set_cons_zero, List.set_cons_succ]
    have hrl : (rowsM L k).length ≤ 128 := by unfold rowsM; rw [List.length_map]; exact h128
    refine sq_set (fun d S2 => d = .lst ((toldM L k).map rowK) ∧ S2 = S') ?_ ?_
    · simp only [w_fz, wE_mLc, w_itV, w_var, List.getElem?_cons_zero, List.getElem?_cons_succ, Option.some.injEq, exists_eq_left', wE_ok]
      refine enc_wp (enc := optR) (xs := rowsM L k) optR Option.isSome (by omega) (fun o ho => ⟨_, rfl, fun X Q q => ?_, fun _ X Q q => ?_⟩) ?_
      · simp only [w_T, w_op, w_c, w_var, List.getElem?_cons_zero, List.getElem?_cons_succ, List.set_cons_zero, List.set_cons_succ, Option.some.injEq, exists_eq_left', wipeD, o_is]
        cases o with
        | none => exact ⟨_, rfl, q⟩
        | some p => exact ⟨_, rfl, q⟩
      · simp only [wE_ok, wE_exc, w_var, w_c, w_op, w_T, w_chain, w_tr, w_not, w_and, w_or, w_ite, w_andV, w_orV, w_notV, w_neg, w_nil, w_cons, w_tup, w_call, w_fz, w_al, w_disp, w_callL, w_R1, w_R2, w_rgL, w_rgT, w_itR, w_isi, w_met, w_noP, w_part, w_sl, w_itV, w_itE, w_itZ, w_repL, wE_mLc, o_addI, o_addT, o_addL, o_sub, o_I, o_mulI, o_mulT, o_mulN, o_B, o_C, o_is, o_eqI, o_ixT, o_ixL, o_ixR, o_slT, o_slL, f_lenT, f_lenL, f_abs, f_int, f_tupL, f_tupT, f_listT, f_listL, f_listS, f_sum, f_sorted, f_append, f_extendL, w_trN, w_getN, w_newD, w_disp1, w_itN, w_itT, w_dc, w_sortIt, w_idx, w_fld, w_meth, w_make, w_Xf, w_IsX, f_rng, w_itG, w_itDn, w_itC, w_lIt, w_lVs, w_sortSet, w_cntT, List.getElem?_cons_zero, List.getElem?_cons_succ, List.set_cons_zero, List.set_cons_succ, Option.some.injEq, exists_eq_left', exists_eq_left, D.int.injEq, D.bl.injEq, D.ref.injEq, MO.lst.injEq, ↓reduceIte, Bool.false_eq_true, Bool.not_true, Bool.not_false, reduceCtorEq, true_and, and_true, List.length_cons, List.length_nil, List.cons_append, List.nil_append, List.map_cons, List.map_nil, Nat.reduceAdd, Nat.zero_add, wipeD]; exact q
      · rw [told_rows]; exact ⟨rfl, rfl⟩
    rintro _ S' ⟨rfl, rfl⟩
    simp only [List.set_cons_zero, List.set_cons_succ]
    rw [wS_mIf]
    simp only [w_tr, w_var, List.getElem?_cons_zero, List.getElem?_cons_succ, Option.some.injEq, exists_eq_left', truD]
    by_cases ht : toldM L k = []
    · rw [ht]
      simp only [List.map_nil, List.isEmpty_nil, Bool.not_true, Bool.false_eq_true, ↓reduceIte, wS_mNx]
      have hk' : ∀ r' < k + 1, toldM L r' = [] := fun r' hr => by
        rcases Nat.lt_or_ge r' k with h1 | h1
        · exact hk r' h1
        · have : r' = k := by omega
          rw [this]; exact ht
      (first | exact ⟨k + 1, _, _, _, rfl, hk', rfl, rfl⟩ | exact ⟨k + 1, _, _, _, rfl, hk', rfl⟩ | exact ⟨k + 1, _, _, _, rfl, hk', rfl, trivial⟩ | exact ⟨k + 1, _, _, _, rfl, hk', rfl, rfl, rfl⟩)
    · have hne : ((toldM L k).map rowK).isEmpty = false := by
        cases hh : toldM L k with
        | nil => exact absurd hh ht
        | cons a b => rfl
      rw [hne]
      simp only [Bool.not_false, ↓reduceIte, wS_mRet, w_call, w_cons, w_nil, w_var, List.getElem?_cons_zero, List.getElem?_cons_succ, Option.some.injEq, exists_eq_left', f_minD]
      have htl : (toldM L k).length ≤ 128 := by
        unfold toldM
        exact Nat.le_trans (List.length_filterMap_le _ _) hrl
      refine ⟨⟨sortOk_rows (by omega), fun e => ht (List.map_eq_nil_iff.mp e)⟩, ?_⟩
      rw [minD_rows ht]
      exact wE_fin rfl (q k (by omega) ht hk)
  · obtain ⟨k, x2, x3, x4, er, hk, rfl, rfl⟩ := hI
    exfalso
    have hkn : L.rules.length + 1 ≤ k := by
      refine Nat.le_of_not_lt fun hc => ?_
      rw [List.drop_eq_getElem_cons (by rw [List.length_range]; exact hc)] at er
      cases er
    obtain ⟨P, hP, hm⟩ := told_ne (L := L) (R := asc L) asc_lt List.nodup_range alike_asc
    rw [asc_len, hk _ (by omega)] at hm
    cases hm
/-- what the shortest row is -/
structure ShoOk (L : LV) (s : List Nat) : Prop where
  lt : ∀ n ∈ s, n < L.rules.length
  nd : s.Nodup
  a : alikeB L s = true
  min : ∀ R : List Nat, (∀ n ∈ R, n < L.rules.length) → R.Nodup → alikeB L R = true → s.length ≤ R.length
theorem sho_ok {r : Nat} (hne : toldM L r ≠ []) (hk : ∀ r' < r, toldM L r' = []) : ShoOk L (minR (toldM L r)) := by
  obtain ⟨ch, h1, h2, h3⟩ := told_mem (minR_mem hne)
  refine ⟨fun n hn => List.mem_range.mp (h1.subset (h3.m n hn)), h3.nd, h3.a, fun R h4 h5 h6 => ?_⟩
  rw [h3.l, h2]
  refine Nat.le_of_not_lt fun hc => ?_
  obtain ⟨P, _, hm⟩ := told_ne h4 h5 h6
  rw [hk _ hc] at hm
  cases hm
end
end LW

namespace LW
open PySem PySem.Spec PyProof.Rows L2 DL
/-! ### rows in the order of tuples -/
theorem lt_cons {x y : Nat} {a b : List Nat} : ltR (x :: a) (y :: b) = if x = y then ltR a b else decide (x < y) := by
  show lessL (rowD (x :: a)) (rowD (y :: b)) = _
  show (if eqD (D.int (x : Nat)) (D.int (y : Nat)) = true then lessL (rowD a) (rowD b) else lessD (D.int (x : Nat)) (D.int (y : Nat))) = _
  have e : eqD (D.int (x : Nat)) (D.int (y : Nat)) = decide (x = y) := by
    show ((x : Int) == (y : Int)) = _
    rw [Bool.eq_iff_iff, beq_iff_eq, decide_eq_true_eq]; omega
  rw [e]
  by_cases h : x = y
  · rw [if_pos (decide_eq_true h), if_pos h]; rfl
  · rw [if_neg (by simpa using h), if_neg h]
    show decide ((x : Int) < (y : Int)) = decide (x < y)
    rw [decide_eq_decide]; omega
theorem lt_nilr {a : List Nat} : ltR a [] = false := by cases a <;> rfl
theorem lt_irr : ∀ a : List Nat, ltR a a = false
  | [] => rfl
  | x :: a => by rw [lt_cons, if_pos rfl, lt_irr a]
theorem lt_trans : ∀ {a b c : List Nat}, ltR a b = true → ltR b c = true → ltR a c = true
  | _, [], _, h, _ => by rw [lt_nilr] at h; cases h
  | _, _ :: _, [], _, h => by rw [lt_nilr] at h; cases h
  | [], _ :: _, _ :: _, _, _ => rfl
  | x :: a, y :: b, z :: c, h1, h2 => by
    rw [lt_cons] at h1 h2 ⊢
    by_cases e1 : x = y
    · subst e1
      rw [if_pos rfl] at h1
      by_cases e2 : x = z
      · subst e2
        rw [if_pos rfl] at h2 ⊢
        exact lt_trans h1 h2
      · rw [if_neg e2] at h2 ⊢; exact h2
    · rw [if_neg e1, decide_eq_true_eq] at h1
      by_cases e2 : y = z
      · subst e2
        rw [if_neg e1, decide_eq_true_eq]; exact h1
      · rw [if_neg e2, decide_eq_true_eq] at h2
        rw [if_neg (by omega), decide_eq_true_eq]; omega
theorem lt_tot : ∀ {a b : List Nat}, ltR a b = false → ltR b a = false → a = b
  | [], [], _, _ => rfl
  | [], _ :: _, h, _ => by cases h
  | _ :: _, [], _, h => by cases h
  | x :: a, y :: b, h1, h2 => by
    rw [lt_cons] at h1 h2
    by_cases e : x = y
    · subst e
      rw [if_pos rfl] at h1 h2
      rw [lt_tot h1 h2]
    · rw [if_neg e, decide_eq_false_iff_not] at h1
      rw [if_neg (Ne.symm e), decide_eq_false_iff_not] at h2
      omega
theorem le_trans {a b c : List Nat} (h1 : ltR b a = false) (h2 : ltR c b = false) : ltR c a = false := by
  cases h : ltR c a with
  | false => rfl
  | true =>
    by_cases e : b = c
    · subst e; rw [h] at h1; exact h1
    · cases h3 : ltR b c with
      | true => rw [lt_trans h3 h] at h1; exact h1
      | false => exact absurd (lt_tot h3 h2) e
theorem min_le : ∀ {l : List (List Nat)}, ∀ y ∈ l, ltR y (minR l) = false
  | [], y, h => by cases h
  | x :: xs, y, h => by
    have key : ∀ (xs : List (List Nat)) (x : List Nat), ltR x (xs.foldl (fun a y => if ltR y a = true then y else a) x) = false ∧ ∀ y ∈ xs, ltR y (xs.foldl (fun a y => if ltR y a = true then y else a) x) = false := by
      intro xs
      induction xs with
      | nil => intro x; exact ⟨lt_irr x, fun y h => by cases h⟩
      | cons z xs ih =>
        intro x
        rw [List.foldl_cons]
        obtain ⟨i1, i2⟩ := ih (if ltR z x = true then z else x)
        have h1 : ltR x (if ltR z x = true then z else x) = false := by
          split
          · rename_i c
            cases h : ltR x z with
            | false => rfl
            | true => have h5 := lt_trans h c; rw [lt_irr] at h5; cases h5
          · exact lt_irr x
        have h2 : ltR z (if ltR z x = true then z else x) = false := by
          split
          · exact lt_irr z
          · rename_i c; simpa using c
        refine ⟨le_trans i1 h1, fun y hy => ?_⟩
        rcases List.mem_cons.mp hy with rfl | hy
        · exact le_trans i1 h2
        · exact i2 y hy
    obtain ⟨k1, k2⟩ := key xs x
    rcases List.mem_cons.mp h with rfl | h
    · exact k1
    · exact k2 y h
theorem lt_pre {p a b : List Nat} : ltR (p ++ a) (p ++ b) = ltR a b := by
  induction p with
  | nil => rfl
  | cons x p ih =>
    show ltR (x :: (p ++ a)) (x :: (p ++ b)) = _
    rw [lt_cons, if_pos rfl, ih]
theorem lt_app : ∀ {a b u v : List Nat}, a.length = b.length → ltR a b = true → ltR (a ++ u) (b ++ v) = true
  | [], [], _, _, _, h => by cases h
  | [], _ :: _, _, _, h, _ => by cases h
  | _ :: _, [], _, _, h, _ => by cases h
  | x :: a, y :: b, u, v, hl, h => by
    show ltR (x :: (a ++ u)) (y :: (b ++ v)) = true
    rw [lt_cons] at h ⊢
    by_cases e : x = y
    · rw [if_pos e] at h ⊢
      exact lt_app (by simpa using hl) h
    · rw [if_neg e] at h ⊢; exact h
section
variable {L : LV} {ch P R : List Nat}
/-- the greedy row is the first of the alike ones -/
theorem grdy_least (hs : ∀ n ∈ R, n < L.rules.length) (ha : alikeB L R = true) (hnd : R.Nodup) (hm : ∀ x, x ∈ R → x ∈ ch) (hsc : ch.Pairwise (· < ·)) : ∀ (k : Nat) {P P' s : List Nat}, grdy L ch k P = some P' → R = P ++ s → s.length = k → ltR R P' = false
  | 0, P, P', s, h, e, hl => by
    have : s = [] := List.length_eq_zero_iff.mp hl
    subst this
    cases h
    rw [e, List.append_nil]; exact lt_irr P
  | k + 1, P, P', s, h, e, hl => by
    cases s with
    | nil => cases hl
    | cons y s =>
      have hy : y ∈ R := by rw [e]; simp
      have hyP : y ∉ P := fun hc => by
        rw [e, List.nodup_append] at hnd
        exact hnd.2.2 y hc y (List.mem_cons_self ..) rfl
      have hyf : y ∈ ftR L ch P := ft_mem.mpr ⟨hm y hy, hyP, alike_rdd hs ha P y s e⟩
      cases hf : ftR L ch P with
      | nil => rw [hf] at hyf; cases hyf
      | cons x t =>
        rw [grdy_cons hf] at h
        have hsf : (ftR L ch P).Pairwise (· < ·) := by
          unfold ftR
          exact (hsc.filter _).filter _
        rw [hf] at hsf hyf
        have hxy : x ≤ y := by
          rcases List.mem_cons.mp hyf with e1 | h1
          · omega
          · exact Nat.le_of_lt ((List.pairwise_cons.mp hsf).1 y h1)
        by_cases exy : x = y
        · subst exy
          exact grdy_least hs ha hnd hm hsc k h (s := s) (by rw [e]; simp) (by simpa using hl)
        · have key : ∀ (k : Nat) {P P' : List Nat}, grdy L ch k P = some P' → ∃ t, P' = P ++ t := by
            intro k
            induction k with
            | zero => intro P P' h; cases h; exact ⟨[], by simp⟩
            | succ k ih =>
              intro P P' h
              cases hf : ftR L ch P with
              | nil => rw [grdy_nil hf] at h; cases h
              | cons x t =>
                rw [grdy_cons hf] at h
                obtain ⟨t', e⟩ := ih h
                exact ⟨x :: t', by rw [e]; simp⟩
          obtain ⟨t', e2⟩ := key k h
          rw [e, e2, List.append_assoc, lt_pre]
          show ltR (y :: s) (x :: t') = false
          rw [lt_cons, if_neg (Ne.symm exy), decide_eq_false_iff_not]
          omega
theorem lst_least (hs : ∀ n ∈ R, n < L.rules.length) (ha : alikeB L R = true) (hnd : R.Nodup) (h : lstR L (setOf L R) = some P) : ltR R P = false := by
  unfold lstR at h
  cases hg : grdy L (setOf L R) (setOf L R).length [] with
  | none => rw [hg] at h; cases h
  | some P' =>
    rw [hg, Option.bind_some] at h
    split at h
    · cases h
      exact grdy_least hs ha hnd (fun x hx => (setOf_mem hs).mpr hx) (List.pairwise_lt_range.filter _) _ hg rfl (setOf_len hs hnd).symm
    · cases h
/-! all short rows -/
def extS (n : Nat) (r : List Nat) : List (List Nat) := ((List.range n).filter fun x => !r.contains x).map fun x => r ++ [x]
def rowsS (n : Nat) : Nat → List (List Nat)
  | 0 => [[]]
  | k + 1 => (rowsS n k).flatMap (extS n)
def allS (n : Nat) : Nat → List (List Nat)
  | 0 => [[]]
  | k + 1 => allS n k ++ rowsS n (k + 1)
theorem rowsS_mem {n : Nat} : ∀ {k : Nat} {r : List Nat}, r ∈ rowsS n k ↔ r.length = k ∧ r.Nodup ∧ ∀ x ∈ r, x < n
  | 0, r => by
    show r ∈ [[]] ↔ _
    rw [List.mem_singleton]
    exact ⟨fun e => by subst e; exact ⟨rfl, .nil, fun x h => by cases h⟩, fun h => List.length_eq_zero_iff.mp h.1⟩
  | k + 1, r => by
    show r ∈ (rowsS n k).flatMap (extS n) ↔ _
    rw [List.mem_flatMap]
    constructor
    · rintro ⟨p, hp, hr⟩
      obtain ⟨h1, h2, h3⟩ := rowsS_mem.mp hp
      unfold extS at hr
      obtain ⟨x, hx, rfl⟩ := List.mem_map.mp hr
      rw [List.mem_filter, List.mem_range] at hx
      have hxp : x ∉ p := by simpa using hx.2
      refine ⟨by simp [h1], ?_, fun y hy => ?_⟩
      · rw [List.nodup_append]
        exact ⟨h2, by simp, fun a ha b hb e => by rw [List.mem_singleton.mp hb] at e; subst e; exact hxp ha⟩
      · rcases List.mem_append.mp hy with hy | hy
        · exact h3 y hy
        · rw [List.mem_singleton.mp hy]; exact hx.1
    · rintro ⟨h1, h2, h3⟩
      rcases List.eq_nil_or_concat r with rfl | ⟨p, x, rfl⟩
      · cases h1
      · rw [List.concat_eq_append] at h1 h2 h3 ⊢
        rw [List.nodup_append] at h2
        refine ⟨p, rowsS_mem.mpr ⟨by simpa using h1, h2.1, fun y hy => h3 y (List.mem_append_left _ hy)⟩, ?_⟩
        unfold extS
        refine List.mem_map.mpr ⟨x, ?_, rfl⟩
        rw [List.mem_filter, List.mem_range]
        refine ⟨h3 x (by simp), ?_⟩
        simpa using fun hc => h2.2.2 x hc x (List.mem_singleton.mpr rfl) rfl
theorem rowsS_asc {n : Nat} : ∀ k : Nat, (rowsS n k).Pairwise fun a b => ltR a b = true
  | 0 => by show ([[]] : List (List Nat)).Pairwise _; simp
  | k + 1 => by
    show ((rowsS n k).flatMap (extS n)).Pairwise _
    rw [List.pairwise_flatMap]
    refine ⟨fun r _ => ?_, ?_⟩
    · unfold extS
      rw [List.pairwise_map]
      refine (List.pairwise_lt_range.filter _).imp fun {a b} h => ?_
      rw [lt_pre, lt_cons, if_neg (by omega), decide_eq_true_eq]; exact h
    · have key : ∀ l : List (List Nat), (∀ r ∈ l, r.length = k) → l.Pairwise (fun a b => ltR a b = true) → l.Pairwise fun a b => ∀ x ∈ extS n a, ∀ y ∈ extS n b, ltR x y = true := by
        intro l
        induction l with
        | nil => intro _ _; exact .nil
        | cons a l ih =>
          intro hl hp
          rw [List.pairwise_cons] at hp ⊢
          refine ⟨fun b hb x hx y hy => ?_, ih (fun r hr => hl r (List.mem_cons_of_mem _ hr)) hp.2⟩
          unfold extS at hx hy
          obtain ⟨u, _, rfl⟩ := List.mem_map.mp hx
          obtain ⟨v, _, rfl⟩ := List.mem_map.mp hy
          exact lt_app (by rw [hl a (List.mem_cons_self ..), hl b (List.mem_cons_of_mem _ hb)]) (hp.1 b hb)
      exact key _ (fun r hr => (rowsS_mem.mp hr).1) (rowsS_asc k)
theorem find_least {α : Type} {lt : α → α → Bool} {p : α → Bool} {m : α} : ∀ {l : List α}, l.Pairwise (fun a b => lt a b = true) → m ∈ l → p m = true → (∀ x ∈ l, p x = true → lt x m = false) → l.find? p = some m
  | [], _, h, _, _ => by cases h
  | x :: l, hp, hm, hpm, hle => by
    rw [List.pairwise_cons] at hp
    rw [List.find?_cons]
    rcases List.mem_cons.mp hm with rfl | hm
    · rw [hpm]
    · cases hx : p x with
      | true =>
        have := hle x (List.mem_cons_self ..) hx
        rw [hp.1 m hm] at this; cases this
      | false => exact find_least hp.2 hm hpm fun y hy => hle y (List.mem_cons_of_mem _ hy)
theorem allS_find {n : Nat} {p : List Nat → Bool} {m : List Nat} {r : Nat} (hf : (rowsS n r).find? p = some m) (hk : ∀ r' < r, (rowsS n r').find? p = none) : ∀ k, r ≤ k → (allS n k).find? p = some m := by
  have none_ : ∀ k, k < r → (allS n k).find? p = none := by
    intro k
    induction k with
    | zero => intro h; exact hk 0 h
    | succ k ih =>
      intro h
      show (allS n k ++ rowsS n (k + 1)).find? p = none
      rw [List.find?_append, ih (by omega), hk (k + 1) h]; rfl
  intro k
  induction k with
  | zero =>
    intro h
    have : r = 0 := by omega
    subst this; exact hf
  | succ k ih =>
    intro h
    show (allS n k ++ rowsS n (k + 1)).find? p = some m
    rw [List.find?_append]
    by_cases hr : r ≤ k
    · rw [ih hr]; rfl
    · have : r = k + 1 := by omega
      subst this
      rw [none_ k (by omega), hf]; rfl
/-- the shortest row is the first alike one of all short rows -/
theorem sho_first {r : Nat} (hr : r ≤ L.rules.length) (hne : toldM L r ≠ []) (hk : ∀ r' < r, toldM L r' = []) : (allS L.rules.length L.rules.length).find? (alikeB L) = some (minR (toldM L r)) := by
  obtain ⟨ch, h1, h2, h3⟩ := told_mem (minR_mem hne)
  refine allS_find (find_least (lt := ltR) (rowsS_asc r) (rowsS_mem.mpr ⟨by rw [h3.l, h2], h3.nd, fun n hn => List.mem_range.mp (h1.subset (h3.m n hn))⟩) h3.a fun R hR ha => ?_) (fun r' hr' => ?_) _ hr
  · obtain ⟨l1, l2, l3⟩ := rowsS_mem.mp hR
    obtain ⟨P, hP, hm⟩ := told_ne l3 l2 ha
    rw [l1] at hm
    exact le_trans (min_le P hm) (lst_least l3 ha l2 hP)
  · rw [List.find?_eq_none]
    intro R hR ha
    obtain ⟨l1, l2, l3⟩ := rowsS_mem.mp hR
    obtain ⟨P, hP, hm⟩ := told_ne l3 l2 ha
    rw [l1, hk r' hr'] at hm
    cases hm
end
end LW

namespace LW
open PySem PySem.Spec PyProof.Rows L2 DL
theorem lookT_of_mem {κ β : Type} [DecidableEq κ] {kvs : List (κ × β)} (nd : (kvs.map (·.1)).Nodup) {kv : κ × β} (h : kv ∈ kvs) : lookT kvs kv.1 = some kv.2 := by
  induction kvs with
  | nil => cases h
  | cons x xs ih =>
    rw [lookT_cons]
    rw [List.map_cons, List.nodup_cons] at nd
    rcases List.mem_cons.mp h with rfl | h
    · rw [if_pos rfl]
    · rw [if_neg (fun e => nd.1 (by rw [e]; exact List.mem_map_of_mem h))]
      exact ih nd.2 h
section
variable {L : LV} {S : Sto} {X : Ex → Sto → Prop} {Q : D → Sto → Prop} {n : Nat} {sh : List Nat} {c : List Int}
theorem kk_nd : ∀ cs : List (List Int), ((kkL L cs).map (·.1)).Nodup := by
  refine snoc_ind List.nodup_nil fun cs c ih => ?_
  rw [kk_snoc]
  exact putT_nodup ih
theorem lmat60 (h : L.Ok) (hn : n < L.rules.length) (hc : c.length = L.ws.length) (q : Q (.bl (matchN L c n)) S) : wE (opIx (.tup (L.rules.map ruleD)) (.int n) S) X fun r S1 => wE (m__law_matches [r, caseD c] S1) X Q := by
  have hr : L.rules[n]? = some L.rules[n] := List.getElem?_eq_getElem hn
  have hk := h.r _ (List.getElem_mem hn)
  have h2 := h.l2
  rw [o_ixT]
  refine ⟨_, rules_at hr, ?_⟩
  refine lmatches_spec (by rw [hk.2.2.1, hc]) (by omega) ?_
  have hm : matchN L c n = matchB L.rules[n].2 c := by unfold matchN; rw [hr]
  rw [hm] at q; exact q
theorem lmatching_spec (h : L.Ok) (hc : c.length = L.ws.length) (q : Q (.tup (rowD (kyM L c))) S) : wE (m__law_matching [L.d, caseD c] S) X Q := by
  have hn := h.n
  refine go__law_matching ?_
  unfold b__law_matching
  rw [wS_mRet]
  simp only [w_call, w_cons, w_nil, w_fz, wE_mLc, w_itR, w_R1, w_op, w_c, wE_ok, w_var, List.getElem?_cons_zero, List.getElem?_cons_succ, Option.some.injEq, exists_eq_left', ix1, f_lenT, List.length_map, D.int.injEq]
  refine ⟨by omega, ?_⟩
  rw [rowD_asc]
  refine row_filter_wp (p := matchN L c) (by rw [List.length_range]; omega) (fun m hm => ⟨_, rfl, fun X Q q => ?_, fun X Q q => ?_⟩) ?_
  · have hm := List.mem_range.mp hm
    simp only [w_tr, w_call, w_cons, w_nil, w_op, w_c, w_var, List.getElem?_cons_zero, List.getElem?_cons_succ, List.set_cons_zero, List.set_cons_succ, Option.some.injEq, exists_eq_left', wipeD, ix1]
    refine lmat60 h hm hc ?_
    simp only [truD, Option.some.injEq, exists_eq_left']
    exact q
  · simp only [wE_ok, wE_exc, w_var, w_c, w_op, w_T, w_chain, w_tr, w_not, w_and, w_or, w_ite, w_andV, w_orV, w_notV, w_neg, w_nil, w_cons, w_tup, w_call, w_fz, w_al, w_disp, w_callL, w_R1, w_R2, w_rgL, w_rgT, w_itR, w_isi, w_met, w_noP, w_part, w_sl, w_itV, w_itE, w_itZ, w_repL, wE_mLc, o_addI, o_addT, o_addL, o_sub, o_I, o_mulI, o_mulT, o_mulN, o_B, o_C, o_is, o_eqI, o_ixT, o_ixL, o_ixR, o_slT, o_slL, f_lenT, f_lenL, f_abs, f_int, f_tupL, f_tupT, f_listT, f_listL, f_listS, f_sum, f_sorted, f_append, f_extendL, w_trN, w_getN, w_newD, w_disp1, w_itN, w_itT, w_dc, w_sortIt, w_idx, w_fld, w_meth, w_make, w_Xf, w_IsX, f_rng, w_itG, w_itDn, w_itC, w_lIt, w_lVs, w_sortSet, w_cntT, List.getElem?_cons_zero, List.getElem?_cons_succ, List.set_cons_zero, List.set_cons_succ, Option.some.injEq, exists_eq_left', exists_eq_left, D.int.injEq, D.bl.injEq, D.ref.injEq, MO.lst.injEq, ↓reduceIte, Bool.false_eq_true, Bool.not_true, Bool.not_false, reduceCtorEq, true_and, and_true, List.length_cons, List.length_nil, List.cons_append, List.nil_append, List.map_cons, List.map_nil, Nat.reduceAdd, Nat.zero_add, wipeD]; exact q
  · rw [f_tupL]
    exact wE_fin rfl q
theorem rowsS_slen {n k : Nat} {r : List Nat} (h : r ∈ rowsS n k) : r.length = k := (rowsS_mem.mp h).1
theorem rowsS_len {n : Nat} : ∀ k : Nat, (rowsS n k).length ≤ n ^ k
  | 0 => Nat.le_refl _
  | k + 1 => by
    show ((rowsS n k).flatMap (extS n)).length ≤ _
    have key : ∀ l : List (List Nat), (l.flatMap (extS n)).length ≤ l.length * n := by
      intro l
      induction l with
      | nil => simp
      | cons a l ih =>
        rw [List.flatMap_cons, List.length_append, List.length_cons, Nat.add_mul]
        have : (extS n a).length ≤ n := by
          unfold extS
          rw [List.length_map]
          have := List.length_filter_le (fun x => !a.contains x) (List.range n)
          rw [List.length_range] at this; exact this
        omega
    have h1 := key (rowsS n k)
    have h2 := rowsS_len (n := n) k
    rw [Nat.pow_succ]
    exact Nat.le_trans h1 (Nat.mul_le_mul_right n h2)
theorem allS_len {n : Nat} (hn : n ≤ 4) : ∀ k : Nat, k ≤ 4 → (allS n k).length ≤ 341 ∧ (rowsS n k).length ≤ 256 := by
  have hr : ∀ k, k ≤ 4 → (rowsS n k).length ≤ 4 ^ k := fun k hk => Nat.le_trans (rowsS_len k) (Nat.pow_le_pow_left hn k)
  intro k hk
  have e : ∀ k, (allS n (k + 1)).length = (allS n k).length + (rowsS n (k + 1)).length := fun k => by
    show (allS n k ++ rowsS n (k + 1)).length = _
    rw [List.length_append]
  have e0 : (allS n 0).length = 1 := rfl
  have h1 := hr 1 (by omega); have h2 := hr 2 (by omega); have h3 := hr 3 (by omega); have h4 := hr 4 (by omega)
  have a1 := e 0; have a2 := e 1; have a3 := e 2; have a4 := e 3
  simp only [Nat.reduceAdd] at a1 a2 a3 a4
  have hk' : k = 0 ∨ k = 1 ∨ k = 2 ∨ k = 3 ∨ k = 4 := by omega
  have r0 : (rowsS n 0).length = 1 := rfl
  rcases hk' with rfl | rfl | rfl | rfl | rfl <;> omega
theorem lshort_spec (hn : n ≤ 4) (q : Q (.lst ((allS n n).map rowK)) S) : wE (m__law_short_rows [.int n] S) X Q := by
  refine go__law_short_rows ?_
  unfold b__law_short_rows
  refine sq_set (fun d S' => d = .lst ((rowsS n 0).map rowK) ∧ S' = S) ?_ ?_
  · simp only [wE_ok, wE_exc, w_var, w_c, w_op, w_T, w_chain, w_tr, w_not, w_and, w_or, w_ite, w_andV, w_orV, w_notV, w_neg, w_nil, w_cons, w_tup, w_call, w_fz, w_al, w_disp, w_callL, w_R1, w_R2, w_rgL, w_rgT, w_itR, w_isi, w_met, w_noP, w_part, w_sl, w_itV, w_itE, w_itZ, w_repL, wE_mLc, o_addI, o_addT, o_addL, o_sub, o_I, o_mulI, o_mulT, o_mulN, o_B, o_C, o_is, o_eqI, o_ixT, o_ixL, o_ixR, o_slT, o_slL, f_lenT, f_lenL, f_abs, f_int, f_tupL, f_tupT, f_listT, f_listL, f_listS, f_sum, f_sorted, f_append, f_extendL, w_trN, w_getN, w_newD, w_disp1, w_itN, w_itT, w_dc, w_sortIt, w_idx, w_fld, w_meth, w_make, w_Xf, w_IsX, f_rng, w_itG, w_itDn, w_itC, w_lIt, w_lVs, w_sortSet, w_cntT, List.getElem?_cons_zero, List.getElem?_cons_succ, List.set_cons_zero, List.set_cons_succ, Option.some.injEq, exists_eq_left', exists_eq_left, D.int.injEq, D.bl.injEq, D.ref.injEq, MO.lst.injEq, ↓reduceIte, Bool.false_eq_true, Bool.not_true, Bool.not_false, reduceCtorEq, true_and, and_true, List.length_cons, List.length_nil, List.cons_append, List.nil_append, List.map_cons, List.map_nil, Nat.reduceAdd, Nat.zero_add]; (first | done | ((repeat' apply And.intro) <;> first | rfl | trivial | exact Nat.zero_le _ | exact Nat.le_of_ble_eq_true rfl | omega))
  rintro _ S ⟨rfl, rfl⟩
  simp only [List.set_cons_zero, List.set_cons_succ]
  refine sq_set (fun d S' => d = .lst ((allS n 0).map rowK) ∧ S' = S) ?_ ?_
  · simp only [wE_ok, wE_exc, w_var, w_c, w_op, w_T, w_chain, w_tr, w_not, w_and, w_or, w_ite, w_andV, w_orV, w_notV, w_neg, w_nil, w_cons, w_tup, w_call, w_fz, w_al, w_disp, w_callL, w_R1, w_R2, w_rgL, w_rgT, w_itR, w_isi, w_met, w_noP, w_part, w_sl, w_itV, w_itE, w_itZ, w_repL, wE_mLc, o_addI, o_addT, o_addL, o_sub, o_I, o_mulI, o_mulT, o_mulN, o_B, o_C, o_is, o_eqI, o_ixT, o_ixL, o_ixR, o_slT, o_slL, f_lenT, f_lenL, f_abs, f_int, f_tupL, f_tupT, f_listT, f_listL, f_listS, f_sum, f_sorted, f_append, f_extendL, w_trN, w_getN, w_newD, w_disp1, w_itN, w_itT, w_dc, w_sortIt, w_idx, w_fld, w_meth, w_make, w_Xf, w_IsX, f_rng, w_itG, w_itDn, w_itC, w_lIt, w_lVs, w_sortSet, w_cntT, List.getElem?_cons_zero, List.getElem?_cons_succ, List.set_cons_zero, List.set_cons_succ, Option.some.injEq, exists_eq_left', exists_eq_left, D.int.injEq, D.bl.injEq, D.ref.injEq, MO.lst.injEq, ↓reduceIte, Bool.false_eq_true, Bool.not_true, Bool.not_false, reduceCtorEq, true_and, and_true, List.length_cons, List.length_nil, List.cons_append, List.nil_append, List.map_cons, List.map_nil, Nat.reduceAdd, Nat.zero_add]; (first | done | ((repeat' apply And.intro) <;> first | rfl | trivial | exact Nat.zero_le _ | exact Nat.le_of_ble_eq_true rfl | omega))
  rintro _ S ⟨rfl, rfl⟩
  simp only [List.set_cons_zero, List.set_cons_succ]
  rw [wS_mSeq, wS_mFor]
  simp only [w_itR, w_R1, w_var, List.getElem?_cons_zero, List.getElem?_cons_succ, Option.some.injEq, exists_eq_left', D.int.injEq]
  refine ⟨by omega, ?_⟩
  rw [rowD_asc]
  refine loop_wp (I := fun rest r S' => ∃ (k : Nat) (x3 x4 x5 : Option D), k ≤ n ∧ rest = rowD ((List.range n).drop k) ∧ r = [some (.int n), some (.lst ((rowsS n k).map rowK)), some (.lst ((allS n k).map rowK)), x3, x4, x5, none] ∧ S' = S) (fun d rest r S' hI => ?_) ⟨0, none, none, none, Nat.zero_le _, rfl, rfl, rfl⟩ fun r S' hI => ?_
  · obtain ⟨k, x3, x4, x5, hk, er, rfl, rfl⟩ := hI
    have hkn : k < n := by
      refine Nat.lt_of_not_le fun hc => ?_
      rw [List.drop_of_length_le (by rw [List.length_range]; exact hc)] at er
      cases er
    have hd : (List.range n).drop k = k :: (List.range n).drop (k + 1) := by
      rw [List.drop_eq_getElem_cons (by rw [List.length_range]; exact hkn), List.getElem_range]
    rw [hd] at er
    obtain ⟨rfl, rfl⟩ := List.cons.inj er
    obtain ⟨al, rl⟩ := allS_len hn k (by omega)
    obtain ⟨al1, rl1⟩ := allS_len hn (k + 1) (by omega)
    simp only [tgSet, List.set_cons_zero, List.set_cons_succ]
    refine sq_set (fun d S2 => d = .lst (([] : List (List Nat)).map rowK) ∧ S2 = S') ?_ ?_
    · simp only [wE_ok, wE_exc, w_var, w_c, w_op, w_T, w_chain, w_tr, w_not, w_and, w_or, w_ite, w_andV, w_orV, w_notV, w_neg, w_nil, w_cons, w_tup, w_call, w_fz, w_al, w_disp, w_callL, w_R1, w_R2, w_rgL, w_rgT, w_itR, w_isi, w_met, w_noP, w_part, w_sl, w_itV, w_itE, w_itZ, w_repL, wE_mLc, o_addI, o_addT, o_addL, o_sub, o_I, o_mulI, o_mulT, o_mulN, o_B, o_C, o_is, o_eqI, o_ixT, o_ixL, o_ixR, o_slT, o_slL, f_lenT, f_lenL, f_abs, f_int, f_tupL, f_tupT, f_listT, f_listL, f_listS, f_sum, f_sorted, f_append, f_extendL, w_trN, w_getN, w_newD, w_disp1, w_itN, w_itT, w_dc, w_sortIt, w_idx, w_fld, w_meth, w_make, w_Xf, w_IsX, f_rng, w_itG, w_itDn, w_itC, w_lIt, w_lVs, w_sortSet, w_cntT, List.getElem?_cons_zero, List.getElem?_cons_succ, List.set_cons_zero, List.set_cons_succ, Option.some.injEq, exists_eq_left', exists_eq_left, D.int.injEq, D.bl.injEq, D.ref.injEq, MO.lst.injEq, ↓reduceIte, Bool.false_eq_true, Bool.not_true, Bool.not_false, reduceCtorEq, true_and, and_true, List.length_cons, List.length_nil, List.cons_append, List.nil_append, List.map_cons, List.map_nil, Nat.reduceAdd, Nat.zero_add]; (first | done | ((repeat' apply And.intro) <;> first | rfl | trivial | exact Nat.zero_le _ | exact Nat.le_of_ble_eq_true rfl | omega))
    rintro _ S' ⟨rfl, rfl⟩
    simp only [List.set_cons_zero, List.set_cons_succ]
    refine sq_cut (fun r S2 => ∃ x5, r = [some (.int n), some (.lst ((rowsS n k).map rowK)), some (.lst ((allS n k).map rowK)), some (.int (k : Nat)), some (.lst ((rowsS n (k + 1)).map rowK)), x5, none] ∧ S2 = S') ?_ ?_
    · rw [wS_mFor, w_itV]
      simp only [w_var, List.getElem?_cons_zero, List.getElem?_cons_succ, Option.some.injEq, exists_eq_left', wE_ok]
      refine loop_wp (I := fun rest r S2 => ∃ (a b : List (List Nat)) (x5 : Option D), rowsS n k = a ++ b ∧ rest = b.map rowK ∧ r = [some (.int n), some (.lst ((rowsS n k).map rowK)), some (.lst ((allS n k).map rowK)), some (.int (k : Nat)), some (.lst ((a.flatMap (extS n)).map rowK)), x5, none] ∧ S2 = S') (fun d rest r S2 hI => ?_) ⟨[], rowsS n k, x5, rfl, rfl, rfl, rfl⟩ fun r S2 hI => ?_
      · obtain ⟨a, b, x5, e, er, rfl, rfl⟩ := hI
        cases b with
        | nil => cases er
        | cons p b =>
          obtain ⟨rfl, rfl⟩ := List.cons.inj er
          have hp : p ∈ rowsS n k := by rw [e]; simp
          have hpl := rowsS_slen hp
          simp only [tgSet, List.set_cons_zero, List.set_cons_succ]
          rw [wS_mSet]
          simp only [w_op, w_fz, wE_mLc, w_itR, w_R1, w_var, wE_ok, List.getElem?_cons_zero, List.getElem?_cons_succ, Option.some.injEq, exists_eq_left', D.int.injEq]
          refine ⟨by omega, ?_⟩
          rw [rowD_asc]
          refine enc_wp (enc := fun m : Nat => D.int m) (xs := List.range n) (fun m => rowK (p ++ [m])) (fun m => !p.contains m) (by rw [List.length_range]; omega) (fun m hm => ⟨_, rfl, fun X Q q => ?_, fun _ X Q q => ?_⟩) ?_
          · simp only [w_T, w_op, w_var, rowK, List.getElem?_cons_zero, List.getElem?_cons_succ, List.set_cons_zero, List.set_cons_succ, Option.some.injEq, exists_eq_left', wipeD]
            rw [o_inT]
            refine ⟨⟨rfl, flat_row⟩, ?_⟩
            rw [in_row]
            simp only [↓reduceIte, D.bl.injEq, exists_eq_left']
            exact q
          · simp only [w_op, w_tup, w_cons, w_nil, w_var, rowK, List.getElem?_cons_zero, List.getElem?_cons_succ, List.set_cons_zero, List.set_cons_succ, Option.some.injEq, exists_eq_left', wipeD, List.length_cons, List.length_nil]
            refine ⟨Nat.le_of_ble_eq_true rfl, ?_⟩
            rw [o_addT]
            refine ⟨by rw [row_len]; simp; omega, ?_⟩
            rw [show rowD p ++ [D.int (m : Nat)] = rowD (p ++ [m]) by simp [rowD]]
            exact q
          · have e2 : ((List.range n).filter fun m => !p.contains m).map (fun m => rowK (p ++ [m])) = (extS n p).map rowK := by unfold extS; rw [List.map_map]; rfl
            rw [e2, o_addL]
            have hall : ((a ++ [p]).flatMap (extS n)).length ≤ 256 := by
              have e3 : rowsS n (k + 1) = (a ++ p :: b).flatMap (extS n) := by rw [← e]; rfl
              rw [e3, List.flatMap_append, List.length_append, List.flatMap_cons, List.length_append] at rl1
              rw [List.flatMap_append, List.length_append, List.flatMap_cons, List.flatMap_nil, List.append_nil]
              omega
            rw [List.flatMap_append, List.length_append, List.flatMap_cons, List.flatMap_nil, List.append_nil] at hall
            refine ⟨by rw [List.length_map, List.length_map]; omega, ?_⟩
            simp only [List.set_cons_zero, List.set_cons_succ]
            refine ⟨a ++ [p], b, some (rowK p), by rw [e]; simp, rfl, ?_, (by first | rfl | trivial)⟩
            rw [List.flatMap_append, List.flatMap_cons, List.flatMap_nil, List.append_nil, List.map_append]
      · obtain ⟨a, b, x5, e, er, rfl, rfl⟩ := hI
        have : b = [] := by simpa using er.symm
        subst this
        rw [List.append_nil] at e
        subst e
        exact ⟨_, rfl, rfl⟩
    rintro _ S' ⟨x5, rfl, rfl⟩
    rw [wS_mSeq, wS_mSet]
    simp only [w_var, List.getElem?_cons_zero, List.getElem?_cons_succ, List.set_cons_zero, List.set_cons_succ, Option.some.injEq, exists_eq_left', wE_ok]
    rw [wS_mSet]
    simp only [w_op, w_var, List.getElem?_cons_zero, List.getElem?_cons_succ, List.set_cons_zero, List.set_cons_succ, Option.some.injEq, exists_eq_left', wE_ok, o_addL]
    refine ⟨by rw [List.length_map, List.length_map]; omega, k + 1, some (.int (k : Nat)), some (.lst ((rowsS n (k + 1)).map rowK)), x5, by omega, rfl, ?_, (by first | rfl | trivial)⟩
    rw [← List.map_append]; rfl
  · obtain ⟨k, x3, x4, x5, hk, er, rfl, rfl⟩ := hI
    have : k = n := by
      refine Nat.le_antisymm hk (Nat.le_of_not_lt fun hc => ?_)
      rw [List.drop_eq_getElem_cons (by rw [List.length_range]; exact hc)] at er
      cases er
    subst this
    simp only [wS_mSeq, wS_mSet, wS_mRet, wS_mRetN, wS_mDrop, wS_mIf, wS_mSub, wS_mNx, wS_mBrk, wS_mCnt, wS_mAsg, wE_ok, wE_exc, w_var, w_c, w_op, w_T, w_chain, w_tr, w_not, w_and, w_or, w_ite, w_andV, w_orV, w_notV, w_neg, w_nil, w_cons, w_tup, w_call, w_fz, w_al, w_disp, w_callL, w_R1, w_R2, w_rgL, w_rgT, w_itR, w_isi, w_met, w_noP, w_part, w_sl, w_itV, w_itE, w_itZ, w_repL, wE_mLc, wS_mFor, o_addI, o_addT, o_addL, o_sub, o_I, o_mulI, o_mulT, o_mulN, o_B, o_C, o_is, o_eqI, o_ixT, o_ixL, o_ixR, o_slT, o_slL, f_lenT, f_lenL, f_abs, f_int, f_tupL, f_tupT, f_listT, f_listL, f_listS, f_sum, f_sorted, f_append, f_extendL, w_trN, w_getN, w_newD, wS_mSubN, w_disp1, w_itN, w_itT, w_dc, wS_mAsgL, w_sortIt, w_idx, wS_mRz, wS_mTry1, w_fld, w_meth, w_make, wS_mSetF, w_Xf, w_IsX, wS_mIfR, wS_exc, f_rng, w_itG, w_itDn, w_itC, w_lIt, w_lVs, w_sortSet, w_cntT, List.getElem?_cons_zero, List.getElem?_cons_succ, List.set_cons_zero, List.set_cons_succ, Option.some.injEq, exists_eq_left', exists_eq_left, D.int.injEq, D.bl.injEq, D.ref.injEq, MO.lst.injEq, ↓reduceIte, Bool.false_eq_true, Bool.not_true, Bool.not_false, reduceCtorEq, true_and, and_true, List.length_cons, List.length_nil, List.cons_append, List.nil_append, List.map_cons, List.map_nil, Nat.reduceAdd, Nat.zero_add]
    exact wE_fin rfl q
/-- the written list -/
def wrL (a b c : Int) : LV := ⟨[4], [(a, [(1, 1)]), (b, [(0, 1)]), (a, [(1, 3)])], c⟩
theorem wr_ok {a b c : Int} (ha : 0 ≤ a ∧ a ≤ 2) (hb : 0 ≤ b ∧ b ≤ 2) (hc : 0 ≤ c ∧ c ≤ 2) : (wrL a b c).Ok := by
  have fw : ∀ p : Int × Int, 0 ≤ p.1 ∧ p.1 ≤ p.2 ∧ p.2 ≤ 3 → fitsW [4] [p] := fun p hp => ⟨rfl, fun i w hi => by
    cases i with
    | zero => cases hi; exact ⟨p, rfl, hp.1, hp.2.1, hp.2.2⟩
    | succ i => simp at hi⟩
  refine ⟨Nat.le_refl 1, by show 1 ≤ 3; decide, fun x hx => ?_, by show 3 ≤ 7; decide, fun r hr => ?_, ⟨hc.1, by show c ≤ 5; omega⟩⟩
  · rw [List.mem_singleton.mp hx]; decide
  · have hr : r ∈ [(a, [((1 : Int), (1 : Int))]), (b, [(0, 1)]), (a, [(1, 3)])] := hr
    simp only [List.mem_cons, List.not_mem_nil, or_false] at hr
    rcases hr with rfl | rfl | rfl
    · exact ⟨ha.1, by show a ≤ 5; omega, fw (1, 1) (by decide)⟩
    · exact ⟨hb.1, by show b ≤ 5; omega, fw (0, 1) (by decide)⟩
    · exact ⟨ha.1, by show a ≤ 5; omega, fw (1, 3) (by decide)⟩
end
end LW

namespace LW
open PySem PySem.Spec PyProof.Rows L2 DL
theorem law_run (ns : List Int) : wE (m_law [.scr ns] []) (fun _ _ => False) (fun d _ => d = .bl true) := by
  refine go_law ?_
  unfold b_law
  refine sq_set (fun d S' => d = .ref 0 ∧ ∃ st, S' = [st] ∧ Strm st) ?_ ?_
  · simp only [wS_mSeq, wS_mSet, wS_mRet, wS_mRetN, wS_mDrop, wS_mIf, wS_mSub, wS_mNx, wS_mBrk, wS_mCnt, wS_mAsg, wE_ok, wE_exc, w_var, w_c, w_op, w_T, w_chain, w_tr, w_not, w_and, w_or, w_ite, w_andV, w_orV, w_notV, w_neg, w_nil, w_cons, w_tup, w_call, w_fz, w_al, w_disp, w_callL, w_R1, w_R2, w_rgL, w_rgT, w_itR, w_isi, w_met, w_noP, w_part, w_sl, w_itV, w_itE, w_itZ, w_repL, wE_mLc, wS_mFor, o_addI, o_addT, o_addL, o_sub, o_I, o_mulI, o_mulT, o_mulN, o_B, o_C, o_is, o_eqI, o_ixT, o_ixL, o_ixR, o_slT, o_slL, f_lenT, f_lenL, f_abs, f_int, f_tupL, f_tupT, f_listT, f_listL, f_listS, f_sum, f_sorted, f_append, f_extendL, w_trN, w_getN, w_newD, wS_mSubN, w_disp1, w_itN, w_itT, w_dc, wS_mAsgL, w_sortIt, w_idx, wS_mRz, wS_mTry1, w_fld, w_meth, w_make, wS_mSetF, w_Xf, w_IsX, wS_mIfR, wS_exc, f_rng, w_itG, w_itDn, w_itC, w_lIt, w_lVs, w_sortSet, w_cntT, List.getElem?_cons_zero, List.getElem?_cons_succ, List.set_cons_zero, List.set_cons_succ, Option.some.injEq, exists_eq_left', exists_eq_left, D.int.injEq, D.bl.injEq, D.ref.injEq, MO.lst.injEq, ↓reduceIte, Bool.false_eq_true, Bool.not_true, Bool.not_false, reduceCtorEq, true_and, and_true, List.length_cons, List.length_nil, List.cons_append, List.nil_append, List.map_cons, List.map_nil, Nat.reduceAdd, Nat.zero_add]
    exact stream_spec fun st hs => ⟨rfl, st, rfl, hs⟩
  rintro _ _ ⟨rfl, st, rfl, hs⟩
  simp only [List.set_cons_zero, List.set_cons_succ]
  refine sq_set (fun d S' => ∃ (L : LV) (st' : MO), d = L.d ∧ S' = [st'] ∧ Strm st' ∧ L.Ok ∧ L.rules.length ≤ 4) ?_ ?_
  · simp only [wS_mSeq, wS_mSet, wS_mRet, wS_mRetN, wS_mDrop, wS_mIf, wS_mSub, wS_mNx, wS_mBrk, wS_mCnt, wS_mAsg, wE_ok, wE_exc, w_var, w_c, w_op, w_T, w_chain, w_tr, w_not, w_and, w_or, w_ite, w_andV, w_orV, w_notV, w_neg, w_nil, w_cons, w_tup, w_call, w_fz, w_al, w_disp, w_callL, w_R1, w_R2, w_rgL, w_rgT, w_itR, w_isi, w_met, w_noP, w_part, w_sl, w_itV, w_itE, w_itZ, w_repL, wE_mLc, wS_mFor, o_addI, o_addT, o_addL, o_sub, o_I, o_mulI, o_mulT, o_mulN, o_B, o_C, o_is, o_eqI, o_ixT, o_ixL, o_ixR, o_slT, o_slL, f_lenT, f_lenL, f_abs, f_int, f_tupL, f_tupT, f_listT, f_listL, f_listS, f_sum, f_sorted, f_append, f_extendL, w_trN, w_getN, w_newD, wS_mSubN, w_disp1, w_itN, w_itT, w_dc, wS_mAsgL, w_sortIt, w_idx, wS_mRz, wS_mTry1, w_fld, w_meth, w_make, wS_mSetF, w_Xf, w_IsX, wS_mIfR, wS_exc, f_rng, w_itG, w_itDn, w_itC, w_lIt, w_lVs, w_sortSet, w_cntT, List.getElem?_cons_zero, List.getElem?_cons_succ, List.set_cons_zero, List.set_cons_succ, Option.some.injEq, exists_eq_left', exists_eq_left, D.int.injEq, D.bl.injEq, D.ref.injEq, MO.lst.injEq, ↓reduceIte, Bool.false_eq_true, Bool.not_true, Bool.not_false, reduceCtorEq, true_and, and_true, List.length_cons, List.length_nil, List.cons_append, List.nil_append, List.map_cons, List.map_nil, Nat.reduceAdd, Nat.zero_add]
    exact llist4_spec hs (by decide) (by decide) (by decide) (by decide) (by decide) (by decide) fun L st' h l4 _ _ hs' => ⟨L, st', rfl, rfl, hs', h, by omega⟩
  clear hs st
  rintro _ _ ⟨L, st, rfl, rfl, hs, h, h4⟩
  simp only [List.set_cons_zero, List.set_cons_succ]
  refine sq_cut (fun r S' => ∃ (L : LV) (st' : MO) (x3 x4 x5 : Option D), r = [some (.scr ns), some (.ref 0), some L.d, x3, x4, x5, none, none, none, none, none, none, none, none, none, none] ∧ S' = [st'] ∧ Strm st' ∧ L.Ok ∧ L.rules.length ≤ 4) ?_ ?_
  · rw [wS_mIf]
    simp only [w_T, w_op, w_call, w_cons, w_nil, w_c, w_var, List.getElem?_cons_zero, List.getElem?_cons_succ, Option.some.injEq, exists_eq_left']
    refine next_spec hs (by decide) (by decide) fun k st2 k0 k1 hs2 => ?_
    rw [o_eqI]
    simp only [Bool.false_eq_true, ↓reduceIte, D.bl.injEq, exists_eq_left']
    by_cases hk : k = 0
    · rw [if_pos (by simpa using hk)]
      clear hs
      have pick : ∀ (X : Ex → Sto → Prop) (Q : D → Sto → Prop), (∀ (a b c : Int) st', (0 ≤ a ∧ a ≤ 2) → (0 ≤ b ∧ b ≤ 2) → (0 ≤ c ∧ c ≤ 2) → Strm st' → Q (.tup [.int a, .int b, .int c]) [st']) → wE (m__law_next [.ref 0, .int 6] [st2]) X fun y S' => wE (opIx (.lst [.tup [.int 0, .int 1, .int 2], .tup [.int 0, .int 2, .int 1], .tup [.int 1, .int 0, .int 2], .tup [.int 1, .int 2, .int 0], .tup [.int 2, .int 0, .int 1], .tup [.int 2, .int 1, .int 0]]) y S') X Q := by
        intro X Q hq
        refine next_spec hs2 (by decide) (by decide) fun m st3 m0 m1 hs3 => ?_
        rw [o_ixL]
        obtain ⟨x, ex, hx, _⟩ := atI_at (xs := [D.tup [.int 0, .int 1, .int 2], .tup [.int 0, .int 2, .int 1], .tup [.int 1, .int 0, .int 2], .tup [.int 1, .int 2, .int 0], .tup [.int 2, .int 0, .int 1], .tup [.int 2, .int 1, .int 0]]) m0 m1
        refine ⟨x, ex, ?_⟩
        simp only [List.mem_cons, List.not_mem_nil, or_false] at hx
        rcases hx with rfl | rfl | rfl | rfl | rfl | rfl <;> exact hq _ _ _ st3 (by decide) (by decide) (by decide) hs3
      rw [wS_mSeq, wS_mAsg]
      simp only [w_op, w_fz, w_disp, w_tup, w_call, w_cons, w_nil, w_c, w_var, wE_ok, List.length_cons, List.length_nil, List.getElem?_cons_zero, List.getElem?_cons_succ, Option.some.injEq, exists_eq_left']
      refine ⟨Nat.le_of_ble_eq_true rfl, Nat.le_of_ble_eq_true rfl, Nat.le_of_ble_eq_true rfl, Nat.le_of_ble_eq_true rfl, Nat.le_of_ble_eq_true rfl, Nat.le_of_ble_eq_true rfl, Nat.le_of_ble_eq_true rfl, ?_⟩
      refine pick _ _ fun a b c st3 ha hb hc hs3 => ?_
      simp only [tgSet, tgSetL, Option.some.injEq, exists_eq_left', List.set_cons_zero, List.set_cons_succ]
      rw [wS_mSet]
      simp only [w_tup, w_cons, w_nil, w_c, w_var, List.getElem?_cons_zero, List.getElem?_cons_succ, Option.some.injEq, exists_eq_left', List.length_cons, List.length_nil]
      have fin : ∃ (L : LV) (st' : MO) (x3 x4 x5 : Option D), [some (.scr ns), some (.ref 0), some (wrL a b c).d, some (.int a), some (.int b), some (.int c), none, none, none, none, none, none, none, none, none, none] = [some (.scr ns), some (.ref 0), some L.d, x3, x4, x5, none, none, none, none, none, none, none, none, none, none] ∧ ([st3] : Sto) = [st'] ∧ Strm st' ∧ L.Ok ∧ L.rules.length ≤ 4 :=
        ⟨wrL a b c, st3, _, _, _, rfl, rfl, hs3, wr_ok ha hb hc, by show 3 ≤ 4; decide⟩
      (repeat' apply And.intro) <;> first | exact fin | exact Nat.le_of_ble_eq_true rfl
    · rw [if_neg (by simpa using hk), wS_mNx]
      exact ⟨L, st2, none, none, none, rfl, rfl, hs2, h, h4⟩
  clear hs st h h4 L
  rintro _ _ ⟨L, st, x3, x4, x5, rfl, rfl, hs, h, h4⟩
  have h2 := h.l2
  have h7 := h.n
  have hcb := case_bound h
  refine sq_set (fun d S' => d = .lst ((casesL L.ws).map caseD) ∧ S' = [st]) ?_ ?_
  · simp only [wS_mSeq, wS_mSet, wS_mRet, wS_mRetN, wS_mDrop, wS_mIf, wS_mSub, wS_mNx, wS_mBrk, wS_mCnt, wS_mAsg, wE_ok, wE_exc, w_var, w_c, w_op, w_T, w_chain, w_tr, w_not, w_and, w_or, w_ite, w_andV, w_orV, w_notV, w_neg, w_nil, w_cons, w_tup, w_call, w_fz, w_al, w_disp, w_callL, w_R1, w_R2, w_rgL, w_rgT, w_itR, w_isi, w_met, w_noP, w_part, w_sl, w_itV, w_itE, w_itZ, w_repL, wE_mLc, wS_mFor, o_addI, o_addT, o_addL, o_sub, o_I, o_mulI, o_mulT, o_mulN, o_B, o_C, o_is, o_eqI, o_ixT, o_ixL, o_ixR, o_slT, o_slL, f_lenT, f_lenL, f_abs, f_int, f_tupL, f_tupT, f_listT, f_listL, f_listS, f_sum, f_sorted, f_append, f_extendL, w_trN, w_getN, w_newD, wS_mSubN, w_disp1, w_itN, w_itT, w_dc, wS_mAsgL, w_sortIt, w_idx, wS_mRz, wS_mTry1, w_fld, w_meth, w_make, wS_mSetF, w_Xf, w_IsX, wS_mIfR, wS_exc, f_rng, w_itG, w_itDn, w_itC, w_lIt, w_lVs, w_sortSet, w_cntT, List.getElem?_cons_zero, List.getElem?_cons_succ, List.set_cons_zero, List.set_cons_succ, Option.some.injEq, exists_eq_left', exists_eq_left, D.int.injEq, D.bl.injEq, D.ref.injEq, MO.lst.injEq, ↓reduceIte, Bool.false_eq_true, Bool.not_true, Bool.not_false, reduceCtorEq, true_and, and_true, List.length_cons, List.length_nil, List.cons_append, List.nil_append, List.map_cons, List.map_nil, Nat.reduceAdd, Nat.zero_add, ix0]
    exact lcases_spec h ⟨rfl, rfl⟩
  rintro _ _ ⟨rfl, rfl⟩
  simp only [List.set_cons_zero, List.set_cons_succ]
  refine sq_set (fun d S' => d = .ref 1 ∧ S' = [st, .dct (encT rowK D.int (kkL L []))]) ?_ ?_
  · rw [w_newD]; exact ⟨rfl, rfl⟩
  rintro _ _ ⟨rfl, rfl⟩
  simp only [List.set_cons_zero, List.set_cons_succ]
  refine sq_cut (fun r S' => ∃ x8, r = [some (.scr ns), some (.ref 0), some L.d, x3, x4, x5, some (.lst ((casesL L.ws).map caseD)), some (.ref 1), x8, none, none, none, none, none, none, none] ∧ S' = [st, .dct (encT rowK D.int (KK L))]) ?_ ?_
  · rw [wS_mFor, w_itV]
    simp only [w_var, List.getElem?_cons_zero, List.getElem?_cons_succ, Option.some.injEq, exists_eq_left', wE_ok]
    refine loop_wp (I := fun rest r S' => ∃ (a b : List (List Int)) (x8 : Option D), casesL L.ws = a ++ b ∧ rest = b.map caseD ∧ r = [some (.scr ns), some (.ref 0), some L.d, x3, x4, x5, some (.lst ((casesL L.ws).map caseD)), some (.ref 1), x8, none, none, none, none, none, none, none] ∧ S' = [st, .dct (encT rowK D.int (kkL L a))]) (fun d rest r S' hI => ?_) ⟨[], casesL L.ws, none, rfl, rfl, rfl, rfl⟩ fun r S' hI => ?_
    · obtain ⟨a, b, x8, e, er, rfl, rfl⟩ := hI
      cases b with
      | nil => cases er
      | cons c b =>
        obtain ⟨rfl, rfl⟩ := List.cons.inj er
        have hc : c ∈ casesL L.ws := by rw [e]; simp
        have hcl := case_len hc
        have hok := (kk_ok (L := L) a).l
        have hal : a.length ≤ 512 := by have := congrArg List.length e; simp at this; omega
        simp only [tgSet, List.set_cons_zero, List.set_cons_succ]
        rw [wS_mSubN]
        simp only [w_call, w_cons, w_nil, w_var, List.getElem?_cons_zero, List.getElem?_cons_succ, Option.some.injEq, exists_eq_left']
        refine ldecision_spec h hcl ?_
        refine lmatching_spec h hcl ?_
        refine ⟨1, rfl, encT rowK D.int (kkL L a), rfl, ⟨keyOk_tup (fun kv hk => by obtain ⟨x, _, rfl⟩ := List.mem_map.mp hk; rfl) okTD_row, by rw [encT_len]; omega⟩, ?_⟩
        have ep := put_enc (enc := rowK) (encv := D.int) inj_row (k := kyM L c) (v := actO L (kyM L c).head?) (kvs := kkL L a)
        rw [show putN (encT rowK D.int (kkL L a)) (.tup (rowD (kyM L c))) (.int (actO L (numF L c))) = encT rowK D.int (kkL L (a ++ [c])) from by
          rw [← ky_act]
          exact ep.trans (by rw [kk_snoc])]
        exact ⟨a ++ [c], b, some (caseD c), by rw [e]; simp, rfl, rfl, rfl⟩
    · obtain ⟨a, b, x8, e, er, rfl, rfl⟩ := hI
      have : b = [] := by simpa using er.symm
      subst this
      rw [List.append_nil] at e
      subst e
      exact ⟨x8, rfl, rfl⟩
  rintro _ _ ⟨x8, rfl, rfl⟩
  refine sq_set (fun d S' => d = .ref 2 ∧ S' = [st, .dct (encT rowK D.int (KK L)), .lst (([] : List (List Nat)).map rowK)]) ?_ ?_
  · simp only [wE_ok, wE_exc, w_var, w_c, w_op, w_T, w_chain, w_tr, w_not, w_and, w_or, w_ite, w_andV, w_orV, w_notV, w_neg, w_nil, w_cons, w_tup, w_call, w_fz, w_al, w_disp, w_callL, w_R1, w_R2, w_rgL, w_rgT, w_itR, w_isi, w_met, w_noP, w_part, w_sl, w_itV, w_itE, w_itZ, w_repL, wE_mLc, o_addI, o_addT, o_addL, o_sub, o_I, o_mulI, o_mulT, o_mulN, o_B, o_C, o_is, o_eqI, o_ixT, o_ixL, o_ixR, o_slT, o_slL, f_lenT, f_lenL, f_abs, f_int, f_tupL, f_tupT, f_listT, f_listL, f_listS, f_sum, f_sorted, f_append, f_extendL, w_trN, w_getN, w_newD, w_disp1, w_itN, w_itT, w_dc, w_sortIt, w_idx, w_fld, w_meth, w_make, w_Xf, w_IsX, f_rng, w_itG, w_itDn, w_itC, w_lIt, w_lVs, w_sortSet, w_cntT, List.getElem?_cons_zero, List.getElem?_cons_succ, List.set_cons_zero, List.set_cons_succ, Option.some.injEq, exists_eq_left', exists_eq_left, D.int.injEq, D.bl.injEq, D.ref.injEq, MO.lst.injEq, ↓reduceIte, Bool.false_eq_true, Bool.not_true, Bool.not_false, reduceCtorEq, true_and, and_true, List.length_cons, List.length_nil, List.cons_append, List.nil_append, List.map_cons, List.map_nil, Nat.reduceAdd, Nat.zero_add]
    (first | done | ((repeat' apply And.intro) <;> first | rfl | trivial | exact Nat.zero_le _ | exact Nat.le_of_ble_eq_true rfl | omega))
  rintro _ _ ⟨rfl, rfl⟩
  simp only [List.set_cons_zero, List.set_cons_succ]
  have hal4 := (allS_len h4 L.rules.length (by omega)).1
  have hkl := KK_len h
  refine sq_cut (fun r S' => ∃ x8 x10 x11 x12 x13, r = [some (.scr ns), some (.ref 0), some L.d, x3, x4, x5, some (.lst ((casesL L.ws).map caseD)), some (.ref 1), x8, some (.ref 2), x10, x11, x12, x13, none, none] ∧ S' = [st, .dct (encT rowK D.int (KK L)), .lst (((allS L.rules.length L.rules.length).filter (alikeB L)).map rowK)]) ?_ ?_
  · rw [wS_mFor, w_itV]
    simp only [w_call, w_cons, w_nil, w_op, w_c, w_var, List.getElem?_cons_zero, List.getElem?_cons_succ, Option.some.injEq, exists_eq_left', ix1, f_lenT, List.length_map]
    refine lshort_spec h4 ?_
    simp only [wE_ok]
    refine loop_wp (I := fun rest r S' => ∃ (a b : List (List Nat)) (x10 x11 x12 x13 : Option D), allS L.rules.length L.rules.length = a ++ b ∧ rest = b.map rowK ∧ r = [some (.scr ns), some (.ref 0), some L.d, x3, x4, x5, some (.lst ((casesL L.ws).map caseD)), some (.ref 1), x8, some (.ref 2), x10, x11, x12, x13, none, none] ∧ S' = [st, .dct (encT rowK D.int (KK L)), .lst ((a.filter (alikeB L)).map rowK)]) (fun d rest r S' hI => ?_) ⟨[], _, none, none, none, none, rfl, rfl, rfl, rfl⟩ fun r S' hI => ?_
    · obtain ⟨a, b, x10, x11, x12, x13, e, er, rfl, rfl⟩ := hI
      cases b with
      | nil => cases er
      | cons p b =>
        obtain ⟨rfl, rfl⟩ := List.cons.inj er
        have hp : p ∈ allS L.rules.length L.rules.length := by rw [e]; simp
        obtain ⟨hps, hpl⟩ : (∀ n ∈ p, n < L.rules.length) ∧ p.length ≤ 7 := by
          have key : ∀ k, p ∈ allS L.rules.length k → (∀ n ∈ p, n < L.rules.length) ∧ p.length ≤ k := by
            intro k
            induction k with
            | zero =>
              intro hp
              rw [show p = [] from List.mem_singleton.mp hp]
              exact ⟨(fun n hn => by cases hn), Nat.le_refl _⟩
            | succ k ih =>
              intro hp
              rcases List.mem_append.mp (show p ∈ allS L.rules.length k ++ rowsS L.rules.length (k + 1) from hp) with hp | hp
              · exact ⟨(ih hp).1, Nat.le_succ_of_le (ih hp).2⟩
              · obtain ⟨l1, _, l3⟩ := rowsS_mem.mp hp
                exact ⟨l3, by omega⟩
          obtain ⟨k1, k2⟩ := key _ hp
          exact ⟨k1, by omega⟩
        have hafl : (a.filter (alikeB L)).length ≤ 341 := by
          have h1 := List.length_filter_le (alikeB L) a
          have := congrArg List.length e
          rw [List.length_append] at this
          omega
        simp only [tgSet, List.set_cons_zero, List.set_cons_succ]
        refine sq_set (fun d S2 => d = .bl true ∧ S2 = [st, .dct (encT rowK D.int (KK L)), .lst ((a.filter (alikeB L)).map rowK)]) ?_ ?_
        · simp only [wE_ok, wE_exc, w_var, w_c, w_op, w_T, w_chain, w_tr, w_not, w_and, w_or, w_ite, w_andV, w_orV, w_notV, w_neg, w_nil, w_cons, w_tup, w_call, w_fz, w_al, w_disp, w_callL, w_R1, w_R2, w_rgL, w_rgT, w_itR, w_isi, w_met, w_noP, w_part, w_sl, w_itV, w_itE, w_itZ, w_repL, wE_mLc, o_addI, o_addT, o_addL, o_sub, o_I, o_mulI, o_mulT, o_mulN, o_B, o_C, o_is, o_eqI, o_ixT, o_ixL, o_ixR, o_slT, o_slL, f_lenT, f_lenL, f_abs, f_int, f_tupL, f_tupT, f_listT, f_listL, f_listS, f_sum, f_sorted, f_append, f_extendL, w_trN, w_getN, w_newD, w_disp1, w_itN, w_itT, w_dc, w_sortIt, w_idx, w_fld, w_meth, w_make, w_Xf, w_IsX, f_rng, w_itG, w_itDn, w_itC, w_lIt, w_lVs, w_sortSet, w_cntT, List.getElem?_cons_zero, List.getElem?_cons_succ, List.set_cons_zero, List.set_cons_succ, Option.some.injEq, exists_eq_left', exists_eq_left, D.int.injEq, D.bl.injEq, D.ref.injEq, MO.lst.injEq, ↓reduceIte, Bool.false_eq_true, Bool.not_true, Bool.not_false, reduceCtorEq, true_and, and_true, List.length_cons, List.length_nil, List.cons_append, List.nil_append, List.map_cons, List.map_nil, Nat.reduceAdd, Nat.zero_add]; (first | done | ((repeat' apply And.intro) <;> first | rfl | trivial | exact Nat.zero_le _ | exact Nat.le_of_ble_eq_true rfl | omega))
        rintro _ _ ⟨rfl, rfl⟩
        simp only [List.set_cons_zero, List.set_cons_succ]
        refine sq_cut (fun r S2 => ∃ x12 x13, r = [some (.scr ns), some (.ref 0), some L.d, x3, x4, x5, some (.lst ((casesL L.ws).map caseD)), some (.ref 1), x8, some (.ref 2), some (rowK p), some (.bl (alikeB L p)), x12, x13, none, none] ∧ S2 = [st, .dct (encT rowK D.int (KK L)), .lst ((a.filter (alikeB L)).map rowK)]) ?_ ?_
        · refine wS_lock (n := 1) rfl rfl ?_
          simp only [List.set_cons_zero, List.set_cons_succ]
          rw [wS_mFor]
          simp only [w_itN, w_var, List.getElem?_cons_zero, List.getElem?_cons_succ, Option.some.injEq, exists_eq_left']
          refine ⟨1, rfl, _, rfl, ?_⟩
          rw [show (encT rowK D.int (KK L)).map (fun x => x.fst) = (KK L).map fun kv => rowK kv.1 by simp [encT]]
          refine loop_wp (I := fun rest r S2 => ∃ (u v : List (List Nat × Int)) (x12 x13 : Option D), KK L = u ++ v ∧ rest = v.map (fun kv => rowK kv.1) ∧ r = [some (.scr ns), some (.ref 0), some L.d, x3, x4, x5, some (.lst ((casesL L.ws).map caseD)), some (.ref 1), x8, some (.ref 2), some (rowK p), some (.bl (u.all (kdB L p))), x12, x13, none, none] ∧ S2 = [st, .lkd (encT rowK D.int (KK L)), .lst ((a.filter (alikeB L)).map rowK)]) (fun d rest r S2 hI => ?_) ⟨[], KK L, x12, x13, rfl, rfl, rfl, rfl⟩ fun r S2 hI => ?_
          · obtain ⟨u, v, x12, x13, e2, er2, rfl, rfl⟩ := hI
            cases v with
            | nil => cases er2
            | cons kv v =>
              obtain ⟨rfl, rfl⟩ := List.cons.inj er2
              have hkv : kv ∈ KK L := by rw [e2]; simp
              simp only [tgSet, List.set_cons_zero, List.set_cons_succ]
              refine sq_set (fun d S2 => d = .lst (((p.filter kv.1.contains).map fun n => D.int (actN L n)) ++ [.int L.rest]) ∧ S2 = [st, .lkd (encT rowK D.int (KK L)), .lst ((a.filter (alikeB L)).map rowK)]) ?_ ?_
              · simp only [w_op, w_fz, wE_mLc, w_itV, w_disp, w_cons, w_nil, w_c, w_var, rowK, wE_ok, List.getElem?_cons_zero, List.getElem?_cons_succ, Option.some.injEq, exists_eq_left', List.length_cons, List.length_nil]
                refine enc_wp (enc := fun m : Nat => D.int m) (xs := p) (fun m => D.int (actN L m)) kv.1.contains (by omega) (fun m hm => ⟨_, rfl, fun X Q q => ?_, fun _ X Q q => ?_⟩) ?_
                · simp only [w_T, w_op, w_var, List.getElem?_cons_zero, List.getElem?_cons_succ, List.set_cons_zero, List.set_cons_succ, Option.some.injEq, exists_eq_left', wipeD]
                  rw [o_inT]
                  refine ⟨⟨rfl, flat_row⟩, ?_⟩
                  rw [in_row]
                  simp only [Bool.false_eq_true, ↓reduceIte, D.bl.injEq, exists_eq_left']
                  exact q
                · simp only [w_op, w_c, w_var, List.getElem?_cons_zero, List.getElem?_cons_succ, List.set_cons_zero, List.set_cons_succ, Option.some.injEq, exists_eq_left', wipeD, ix1]
                  exact act_at (hps m hm) q
                · have hfl : (p.filter kv.1.contains).length ≤ 7 := Nat.le_trans (List.length_filter_le _ _) hpl
                  simp only [ix2, o_addL]
                  refine ⟨Nat.le_of_ble_eq_true rfl, by simp; omega, ?_⟩
                  (first | done | ((repeat' apply And.intro) <;> first | rfl | trivial | exact Nat.zero_le _ | exact Nat.le_of_ble_eq_true rfl | omega))
              rintro _ _ ⟨rfl, rfl⟩
              simp only [List.set_cons_zero, List.set_cons_succ]
              have hhd : atI (((p.filter kv.1.contains).map fun n => D.int (actN L n)) ++ [D.int L.rest]) 0 = some (.int (actO L (p.filter kv.1.contains).head?)) := by
                cases p.filter kv.1.contains with
                | nil => exact at10
                | cons m t => exact atI_cons0
              have hlk : lookN (encT rowK D.int (KK L)) (rowK kv.1) = some (.int kv.2) := by
                have := look_enc inj_row (k := kv.1) (kvs := KK L) (encv := D.int)
                rw [lookT_of_mem (kk_nd _) hkv] at this
                exact this
              rw [wS_mSet]
              simp only [w_andV, w_var, List.getElem?_cons_zero, List.getElem?_cons_succ, Option.some.injEq, exists_eq_left', truD]
              have fin : ∀ b : Bool, b = (u ++ [kv]).all (kdB L p) → ∃ (u_1 v_1 : List (List Nat × Int)) (x12 x13 : Option D), KK L = u_1 ++ v_1 ∧ v.map (fun kv => rowK kv.1) = v_1.map (fun kv => rowK kv.1) ∧ [some (.scr ns), some (.ref 0), some L.d, x3, x4, x5, some (D.lst ((casesL L.ws).map caseD)), some (.ref 1), x8, some (.ref 2), some (rowK p), some (.bl b), some (rowK kv.1), some (.lst (((p.filter kv.1.contains).map fun n => D.int (actN L n)) ++ [.int L.rest])), none, none] = [some (.scr ns), some (.ref 0), some L.d, x3, x4, x5, some (.lst ((casesL L.ws).map caseD)), some (.ref 1), x8, some (.ref 2), some (rowK p), some (.bl (u_1.all (kdB L p))), x12, x13, none, none] ∧ ([st, .lkd (encT rowK D.int (KK L)), .lst ((a.filter (alikeB L)).map rowK)] : Sto) = [st, .lkd (encT rowK D.int (KK L)), .lst ((a.filter (alikeB L)).map rowK)] := fun b hb =>
                by subst hb; exact ⟨u ++ [kv], v, _, _, by rw [e2]; simp, rfl, rfl, rfl⟩
              cases hu : u.all (kdB L p) with
              | false =>
                simp only [Bool.false_eq_true, ↓reduceIte, List.set_cons_zero, List.set_cons_succ]
                obtain ⟨g1, g2, g3, g4, g5, g6, g7, g8⟩ := fin false (by rw [List.all_append, hu]; rfl)
                (first | exact ⟨g1, g2, g3, g4, g5, g6, g7, rfl⟩ | exact ⟨g1, g2, g3, g4, g5, g6, g7⟩ | exact ⟨g1, g2, g3, g4, g5, g6, g7, trivial⟩ | exact ⟨g1, g2, g3, g4, g5, g6, g7, rfl, rfl⟩)
              | true =>
                simp only [↓reduceIte, w_op, w_c, w_var, List.getElem?_cons_zero, List.getElem?_cons_succ, Option.some.injEq, exists_eq_left', o_ixL, hhd, o_ixN]
                refine ⟨encT rowK D.int (KK L), rfl, keyOk_tup (fun kv hk => by obtain ⟨x, _, rfl⟩ := List.mem_map.mp hk; rfl) okTD_row, .int kv.2, hlk, ?_⟩
                simp only [o_eqI, Bool.false_eq_true, ↓reduceIte, List.set_cons_zero, List.set_cons_succ]
                obtain ⟨g1, g2, g3, g4, g5, g6, g7, g8⟩ := fin (actO L (p.filter kv.1.contains).head? == kv.2) (by rw [List.all_append, hu, Bool.true_and, List.all_cons, List.all_nil, Bool.and_true] <;> rfl)
                (first | exact ⟨g1, g2, g3, g4, g5, g6, g7, rfl⟩ | exact ⟨g1, g2, g3, g4, g5, g6, g7⟩ | exact ⟨g1, g2, g3, g4, g5, g6, g7, trivial⟩ | exact ⟨g1, g2, g3, g4, g5, g6, g7, rfl, rfl⟩)
          · obtain ⟨u, v, x12, x13, e2, er2, rfl, rfl⟩ := hI
            have : v = [] := by simpa using er2.symm
            subst this
            rw [List.append_nil] at e2
            refine ⟨_, rfl, ?_⟩
            rw [← e2, ← alike_kk hps]
            exact ⟨x12, x13, rfl, rfl⟩
        rintro _ _ ⟨x12, x13, rfl, rfl⟩
        rw [wS_mIf]
        simp only [w_tr, w_var, List.getElem?_cons_zero, List.getElem?_cons_succ, Option.some.injEq, exists_eq_left', truD]
        cases hal : alikeB L p with
        | false =>
          simp only [Bool.false_eq_true, ↓reduceIte, wS_mNx]
          exact ⟨a ++ [p], b, _, _, _, _, by rw [e]; simp, rfl, rfl, by rw [List.filter_append]; simp [hal]⟩
        | true =>
          simp only [↓reduceIte, wS_mDrop, w_met, w_cons, w_nil, w_var, List.getElem?_cons_zero, List.getElem?_cons_succ, Option.some.injEq, exists_eq_left', f_append]
          refine ⟨rfl, _, rfl, by rw [List.length_map]; omega, a ++ [p], b, _, _, _, _, by rw [e]; simp, rfl, rfl, ?_⟩
          simp only [List.set_cons_zero, List.set_cons_succ]
          rw [List.filter_append, List.map_append]
          simp [hal]
    · obtain ⟨a, b, x10, x11, x12, x13, e, er, rfl, rfl⟩ := hI
      have : b = [] := by simpa using er.symm
      subst this
      rw [List.append_nil] at e
      subst e
      exact ⟨_, _, _, _, _, rfl, rfl⟩
  rintro _ _ ⟨x8, x10, x11, x12, x13, rfl, rfl⟩
  have hS : ([st, .dct (encT rowK D.int (KK L)), .lst (((allS L.rules.length L.rules.length).filter (alikeB L)).map rowK)] : Sto).all (MO.ltD ([st, .dct (encT rowK D.int (KK L)), .lst (((allS L.rules.length L.rules.length).filter (alikeB L)).map rowK)] : Sto).length) = true := by
    have hp : ∀ (l : List (List Nat)), ltL 3 (l.map rowK) = true := fun l => pureL_lt _ (pureL_iff.mpr fun d hd => by
      obtain ⟨r, _, rfl⟩ := List.mem_map.mp hd
      exact pureL_iff.mpr fun y hy => by obtain ⟨m, _, rfl⟩ := row_mem hy; rfl)
    have h1 : ltL 3 ((encT rowK D.int (KK L)).map (·.1)) = true := by
      rw [encT_keys]; exact hp _
    have h2 : ltL 3 ((encT rowK D.int (KK L)).map (·.2)) = true := pureL_lt _ (pureL_iff.mpr fun d hd => by
      unfold encT at hd
      rw [List.map_map] at hd
      obtain ⟨r, _, rfl⟩ := List.mem_map.mp hd
      rfl)
    show (st.ltD 3 && ((ltL 3 ((encT rowK D.int (KK L)).map (·.1)) && ltL 3 ((encT rowK D.int (KK L)).map (·.2))) && (ltL 3 (((allS L.rules.length L.rules.length).filter (alikeB L)).map rowK) && true))) = true
    rw [hs.lt, h1, h2, hp]; rfl
  refine sq_set (fun d S' => ∃ s, d = .tup (rowD s) ∧ ShoOk L s ∧ (allS L.rules.length L.rules.length).find? (alikeB L) = some s ∧ S' = [st, .dct (encT rowK D.int (KK L)), .lst (((allS L.rules.length L.rules.length).filter (alikeB L)).map rowK)]) ?_ ?_
  · simp only [wE_ok, wE_exc, w_var, w_c, w_op, w_T, w_chain, w_tr, w_not, w_and, w_or, w_ite, w_andV, w_orV, w_notV, w_neg, w_nil, w_cons, w_tup, w_call, w_fz, w_al, w_disp, w_callL, w_R1, w_R2, w_rgL, w_rgT, w_itR, w_isi, w_met, w_noP, w_part, w_sl, w_itV, w_itE, w_itZ, w_repL, wE_mLc, o_addI, o_addT, o_addL, o_sub, o_I, o_mulI, o_mulT, o_mulN, o_B, o_C, o_is, o_eqI, o_ixT, o_ixL, o_ixR, o_slT, o_slL, f_lenT, f_lenL, f_abs, f_int, f_tupL, f_tupT, f_listT, f_listL, f_listS, f_sum, f_sorted, f_append, f_extendL, w_trN, w_getN, w_newD, w_disp1, w_itN, w_itT, w_dc, w_sortIt, w_idx, w_fld, w_meth, w_make, w_Xf, w_IsX, f_rng, w_itG, w_itDn, w_itC, w_lIt, w_lVs, w_sortSet, w_cntT, List.getElem?_cons_zero, List.getElem?_cons_succ, List.set_cons_zero, List.set_cons_succ, Option.some.injEq, exists_eq_left', exists_eq_left, D.int.injEq, D.bl.injEq, D.ref.injEq, MO.lst.injEq, ↓reduceIte, Bool.false_eq_true, Bool.not_true, Bool.not_false, reduceCtorEq, true_and, and_true, List.length_cons, List.length_nil, List.cons_append, List.nil_append, List.map_cons, List.map_nil, Nat.reduceAdd, Nat.zero_add]
    exact shortest_spec h hS fun k hk hne hkk => ⟨_, rfl, sho_ok hne hkk, sho_first hk hne hkk, rfl⟩
  rintro _ _ ⟨s, rfl, hso, hfs, rfl⟩
  simp only [List.set_cons_zero, List.set_cons_succ]
  obtain ⟨r, hr⟩ := sml_some (L := L)
  have hrs := sets_iff.mp (List.mem_of_find?_eq_some hr)
  have hra := List.find?_some hr
  have hk1 := hso.min r (fun m hm => List.mem_range.mp (hrs.subset hm)) (List.nodup_range.sublist hrs) hra
  have hrl := hrs.length_le
  rw [List.length_range] at hrl
  have hat : atI (((allS L.rules.length L.rules.length).filter (alikeB L)).map rowK) 0 = some (.tup (rowD s)) := by
    have hh : ((allS L.rules.length L.rules.length).filter (alikeB L)).head? = some s := by rw [List.head?_filter]; exact hfs
    cases hf : (allS L.rules.length L.rules.length).filter (alikeB L) with
    | nil => rw [hf] at hh; cases hh
    | cons x t => rw [hf] at hh; cases hh; exact atI_cons0
  rw [wS_mSeq, wS_mIf]
  simp only [w_or, w_not, w_tr, w_T, w_call, w_cons, w_nil, w_op, w_c, w_var, List.getElem?_cons_zero, List.getElem?_cons_succ, Option.some.injEq, exists_eq_left', o_ixR]
  refine ⟨_, rfl, _, hat, ?_⟩
  refine equal_refl 16 _ (fit_row (by omega)) (by show dpL _ + 1 < 16; rw [dp_row]; decide) ?_
  simp only [truD, Option.some.injEq, exists_eq_left', Bool.not_true, Bool.false_eq_true, ↓reduceIte, f_lenT, row_len]
  refine smallest_spec h hS fun r' hr' => ?_
  rw [hr] at hr'
  cases hr'
  simp only [f_lenT, row_len, o_C, D.bl.injEq, exists_eq_left']
  rw [if_neg (by simp; omega), wS_mNx]
  show wS (mRet _ _ _) _
  rw [wS_mRet]
  simp only [w_notV, w_call, w_cons, w_nil, w_fz, wE_mLc, w_itR, w_R1, w_op, w_c, w_var, wE_ok, List.getElem?_cons_zero, List.getElem?_cons_succ, Option.some.injEq, exists_eq_left', f_lenT, row_len, D.int.injEq]
  refine ⟨by omega, ?_⟩
  rw [rowD_asc]
  refine any_wp (f := fun _ => false) (fun e he => ⟨_, rfl, fun X Q q => ?_⟩) (by rw [row_len, List.length_range]; omega) ?_
  · obtain ⟨k, hk, rfl⟩ := row_mem he
    have hk := List.mem_range.mp hk
    obtain ⟨e1, e2⟩ := erase_sub hk
    simp only [w_call, w_cons, w_nil, w_op, w_sl, w_noP, w_part, w_c, w_var, List.getElem?_cons_zero, List.getElem?_cons_succ, List.set_cons_zero, List.set_cons_succ, Option.some.injEq, exists_eq_left', wipeD, o_slT, o_addI, row_lo, row_hi, D.int.injEq, o_addT]
    refine ⟨by rw [row_len, row_len, List.length_take, List.length_drop]; omega, ?_⟩
    rw [show rowD (s.take k) ++ rowD (s.drop (k + 1)) = rowD (s.take k ++ s.drop (k + 1)) by simp [rowD]]
    refine lalike_spec h (fun m hm => hso.lt m (e1.subset hm)) ?_
    have hno : alikeB L (s.take k ++ s.drop (k + 1)) = false := by
      cases hc : alikeB L (s.take k ++ s.drop (k + 1)) with
      | false => rfl
      | true =>
        have := hso.min _ (fun n hn => hso.lt n (e1.subset hn)) (hso.nd.sublist e1) hc
        omega
    rw [hno]
    exact q
  · have e : (rowD (List.range s.length)).any (fun _ => false) = false := by simp
    rw [e]
    simp only [truD, Option.some.injEq, exists_eq_left', Bool.not_false]
    exact wE_finP (n := 0) rfl (Nat.zero_le _) rfl rfl
theorem law_true (ns : List Int) (_ : ns.length ≤ 63) : ∃ S', m_law [.scr ns] [] = .ok (.bl true) S' := by
  have key := law_run ns
  rw [wE_z] at key
  unfold zE at key
  split at key
  · rename_i a S e; exact ⟨S, by rw [e, key]⟩
  · exact key.elim
  · exact key.elim
end LW

namespace LW
open PySem PySem.Spec PyProof.Rows L2 DL
section
variable {P : Program} {w : World} {K : PySem.W.Frag} {mg : Str → Option Value} {base : Heap}
structure XT (P : Program) (w : World) (K : PySem.W.Frag) (mg : Str → Option Value) (base : Heap) (C_BadValue : Addr) : Prop where
  g_BadValue : mg "BadValue" = some (.ref C_BadValue)
  r_BadValue : XC P w K mg base "BadValue" ["self", "name"] ["name"]
abbrev si_BadValue : Stmt := L2.inClass (topS 3) 0
theorem sci_BadValue : FnScope ["self", "name"] ["self", "name"] (defScope si_BadValue) := ⟨rfl, rfl, rfl, by decide +kernel, rfl, by decide +kernel, by decide +kernel⟩
theorem xc_BadValue {C fI : Addr} {fd : FuncData} (gC : mg "BadValue" = some (.ref C)) (T : OexC K C) (iC : PySem.W.findIn K (.ref C) "__init__" = some (some (.ref fI))) (tI : PySem.W.typeIn K (.ref fI) = some (.type "function")) (F : Fun K "__init__" "BadValue.__init__" si_BadValue fI fd) (hb : Binds K fd ["self", "name"] []) (n0 : PySem.W.findIn K (.ref C) "name" = some none) : XC P w K mg base "BadValue" ["self", "name"] ["name"] :=
  ⟨C, fI, fd, gC, T, iC, tI, F.okX sci_BadValue spIni_len fun cdv A outer s H vs Q E hr h => ⟨_, pss_one (ps_ost (pv 0) (pv 1)), ini1 T n0 h⟩, hb⟩
abbrev s_is_between : Stmt := topS 9
theorem sc_is_between : FnScope ["value", "low", "high"] ["value", "low", "high"] (defScope s_is_between) := ⟨rfl, rfl, rfl, by decide +kernel, rfl, by decide +kernel, by decide +kernel⟩
theorem ok_is_between {x0 : Str} {f : Addr} {fd : FuncData} (z : Bi mg) (F : Fun K "is_between" "is_between" s_is_between f fd) (hm : mg x0 = some (.ref f)) (hb : Binds K fd ["value", "low", "high"] []) : Fn P w K mg base x0 ["value", "low", "high"] 1 m_is_between :=
  ⟨f, fd, hm, F.kp, hb, ok_def (N := ["value", "low", "high"]) (ps := ["value", "low", "high"]) false F sc_is_between fun cdv A outer s H E hr => by
    have sc := sc_is_between
    have tk : Takes (cxOf (L2.CX P w) P w K mg base ["value", "low", "high"] "is_between" (defScope s_is_between) f cdv A outer s H E) (fun c d _ H' => E c d H') := takes_of rfl rfl rfl rfl
    have ps : PassesOwn (model P w) _ _ _ := passes_of (X := cxOf (L2.CX P w) P w K mg base ["value", "low", "high"] "is_between" (defScope s_is_between) f cdv A outer s H E) rfl
    show DSs _ _ (defBody s_is_between) b_is_between
    exact (dss_one (ds_ret (de_and (de_isi .int z.isinstance z.int (de_var 0) bt_int) (de_and (de_not (de_isi .bool z.isinstance z.bool (de_var 0) bt_bool)) (de_one (de_chain op_le op_le hd_C hd_C (de_var 1) (de_var 0) (de_var 2)))))))⟩
abbrev s_is_widths : Stmt := topS 10
theorem sc_is_widths : FnScope ["value", "width"] ["value"] (defScope s_is_widths) := ⟨rfl, rfl, rfl, by decide +kernel, rfl, by decide +kernel, by decide +kernel⟩
theorem ok_is_widths {x0 : Str} {f : Addr} {fd : FuncData} (z : Bi mg) (g_MOST_FIELDS : ∃ t, mg "MOST_FIELDS" = some (.int 3 t)) (g_MOST_WIDTH : ∃ t, mg "MOST_WIDTH" = some (.int 8 t)) (c_is_between : Fn P w K mg base "is_between" ["value", "low", "high"] 1 m_is_between) (F : Fun K "is_widths" "is_widths" s_is_widths f fd) (hm : mg x0 = some (.ref f)) (hb : Binds K fd ["value"] []) : Fn P w K mg base x0 ["value"] 2 m_is_widths :=
  ⟨f, fd, hm, F.kp, hb, ok_def (N := ["value", "width"]) (ps := ["value"]) false F sc_is_widths fun cdv A outer s H E hr => by
    have sc := sc_is_widths
    have tk : Takes (cxOf (L2.CX P w) P w K mg base ["value", "width"] "is_widths" (defScope s_is_widths) f cdv A outer s H E) (fun c d _ H' => E c d H') := takes_of rfl rfl rfl rfl
    have ps : PassesOwn (model P w) _ _ _ := passes_of (X := cxOf (L2.CX P w) P w K mg base ["value", "width"] "is_widths" (defScope s_is_widths) f cdv A outer s H E) rfl
    show DSs _ _ (defBody s_is_widths) b_is_widths
    exact (dss_cons (ds_if (dt_w (dw_or (dt_not (dt_truth (de_isi .tuple z.isinstance z.tuple (de_var 0) bt_tuple))) (dw_or1 (dt_not (dt_chain op_le op_le hd_C hd_C de_int (de_callB hc_len hd_len z.len bt_len (da_cons (de_var 0) da_nil)) (de_glob g_MOST_FIELDS)))))) (dss_one (ds_ret de_bl)) dss_nil) (dss_one (ds_ret (de_callB (cr_all rfl) hd_all z.all bt_all (da_cons (de_fz (df_lc [("width", 1)] rfl sc.nd (di_val (de_var 0)) (blkOk_by (by kernel_rfl)) (fun _ _ _ _ _ => (dg_name 1 sc.nd)) (fun _ _ _ _ _ => dts_nil) (fun _ _ _ _ _ => (de_call c_is_between (hr.mono (by decide)) takes0 (da_cons (de_var 1) (da_cons de_int (da_cons (de_glob g_MOST_WIDTH) da_nil))))))) da_nil)))))⟩
abbrev s_is_range : Stmt := topS 11
theorem sc_is_range : FnScope ["value", "width"] ["value", "width"] (defScope s_is_range) := ⟨rfl, rfl, rfl, by decide +kernel, rfl, by decide +kernel, by decide +kernel⟩
theorem ok_is_range {x0 : Str} {f : Addr} {fd : FuncData} (z : Bi mg) (c_is_between : Fn P w K mg base "is_between" ["value", "low", "high"] 1 m_is_between) (F : Fun K "is_range" "is_range" s_is_range f fd) (hm : mg x0 = some (.ref f)) (hb : Binds K fd ["value", "width"] []) : Fn P w K mg base x0 ["value", "width"] 2 m_is_range :=
  ⟨f, fd, hm, F.kp, hb, ok_def (N := ["value", "width"]) (ps := ["value", "width"]) false F sc_is_range fun cdv A outer s H E hr => by
    have sc := sc_is_range
    have tk : Takes (cxOf (L2.CX P w) P w K mg base ["value", "width"] "is_range" (defScope s_is_range) f cdv A outer s H E) (fun c d _ H' => E c d H') := takes_of rfl rfl rfl rfl
    have ps : PassesOwn (model P w) _ _ _ := passes_of (X := cxOf (L2.CX P w) P w K mg base ["value", "width"] "is_range" (defScope s_is_range) f cdv A outer s H E) rfl
    show DSs _ _ (defBody s_is_range) b_is_range
    exact (dss_cons (ds_if (dt_w (dw_or (dt_not (dt_truth (de_isi .tuple z.isinstance z.tuple (de_var 0) bt_tuple))) (dw_or (dt_cmp (ho_neR hr) hd_ne (de_callB hc_len hd_len z.len bt_len (da_cons (de_var 0) da_nil)) de_int) (dw_or1 (dt_not (dt_truth (de_call c_is_between (hr.mono (by decide)) tk (da_cons (de_ix (de_var 0) de_int) (da_cons de_int (da_cons (de_op op_sub hd_sub (de_var 1) de_int) da_nil)))))))))) (dss_one (ds_ret de_bl)) dss_nil) (dss_one (ds_ret (de_call c_is_between (hr.mono (by decide)) tk (da_cons (de_ix (de_var 0) de_int) (da_cons (de_ix (de_var 0) de_int) (da_cons (de_op op_sub hd_sub (de_var 1) de_int) da_nil)))))))⟩
abbrev s_is_rule : Stmt := topS 12
theorem sc_is_rule : FnScope ["value", "widths", "at", "width"] ["value", "widths"] (defScope s_is_rule) := ⟨rfl, rfl, rfl, by decide +kernel, rfl, by decide +kernel, by decide +kernel⟩
theorem ok_is_rule {x0 : Str} {f : Addr} {fd : FuncData} (z : Bi mg) (g_LAST_ACTION : ∃ t, mg "LAST_ACTION" = some (.int 5 t)) (c_is_between : Fn P w K mg base "is_between" ["value", "low", "high"] 1 m_is_between) (c_is_range : Fn P w K mg base "is_range" ["value", "width"] 2 m_is_range) (F : Fun K "is_rule" "is_rule" s_is_rule f fd) (hm : mg x0 = some (.ref f)) (hb : Binds K fd ["value", "widths"] []) : Fn P w K mg base x0 ["value", "widths"] 3 m_is_rule :=
  ⟨f, fd, hm, F.kp, hb, ok_def (N := ["value", "widths", "at", "width"]) (ps := ["value", "widths"]) false F sc_is_rule fun cdv A outer s H E hr => by
    have sc := sc_is_rule
    have tk : Takes (cxOf (L2.CX P w) P w K mg base ["value", "widths", "at", "width"] "is_rule" (defScope s_is_rule) f cdv A outer s H E) (fun c d _ H' => E c d H') := takes_of rfl rfl rfl rfl
    have ps : PassesOwn (model P w) _ _ _ := passes_of (X := cxOf (L2.CX P w) P w K mg base ["value", "widths", "at", "width"] "is_rule" (defScope s_is_rule) f cdv A outer s H E) rfl
    show DSs _ _ (defBody s_is_rule) b_is_rule
    exact (dss_cons (ds_if (dt_w (dw_or (dt_not (dt_truth (de_isi .tuple z.isinstance z.tuple (de_var 0) bt_tuple))) (dw_or (dt_cmp (ho_neR hr) hd_ne (de_callB hc_len hd_len z.len bt_len (da_cons (de_var 0) da_nil)) de_int) (dw_or1 (dt_not (dt_truth (de_call c_is_between (hr.mono (by decide)) tk (da_cons (de_ix (de_var 0) de_int) (da_cons de_int (da_cons (de_glob g_LAST_ACTION) da_nil)))))))))) (dss_one (ds_ret de_bl)) dss_nil) (dss_cons (ds_if (dt_w (dw_or (dt_not (dt_truth (de_isi .tuple z.isinstance z.tuple (de_ix (de_var 0) de_int) bt_tuple))) (dw_or1 (dt_cmp (ho_neR hr) hd_ne (de_callB hc_len hd_len z.len bt_len (da_cons (de_ix (de_var 0) de_int) da_nil)) (de_callB hc_len hd_len z.len bt_len (da_cons (de_var 1) da_nil)))))) (dss_one (ds_ret de_bl)) dss_nil) (dss_one (ds_ret (de_callB (cr_all rfl) hd_all z.all bt_all (da_cons (de_fz (df_lc [("at", 2), ("width", 3)] rfl sc.nd (di_enum z.enumerate (de_var 1)) (blkOk_by (by kernel_rfl)) (fun _ _ _ _ _ => (dg_tup rfl (dgs_cons (dg_name 2 sc.nd) (dgs_cons (dg_name 3 sc.nd) dgs_nil)))) (fun _ _ _ _ _ => dts_nil) (fun _ _ _ _ _ => (de_call c_is_range (hr.mono (by decide)) takes0 (da_cons (de_ix (de_ix (de_var 0) de_int) (de_var 2)) (da_cons (de_var 3) da_nil)))))) da_nil))))))⟩
abbrev s_is_list : Stmt := topS 13
theorem sc_is_list : FnScope ["value", "rule"] ["value"] (defScope s_is_list) := ⟨rfl, rfl, rfl, by decide +kernel, rfl, by decide +kernel, by decide +kernel⟩
theorem ok_is_list {x0 : Str} {f : Addr} {fd : FuncData} (z : Bi mg) (g_LAST_ACTION : ∃ t, mg "LAST_ACTION" = some (.int 5 t)) (g_MOST_RULES : ∃ t, mg "MOST_RULES" = some (.int 7 t)) (c_is_between : Fn P w K mg base "is_between" ["value", "low", "high"] 1 m_is_between) (c_is_rule : Fn P w K mg base "is_rule" ["value", "widths"] 3 m_is_rule) (c_is_widths : Fn P w K mg base "is_widths" ["value"] 2 m_is_widths) (F : Fun K "is_list" "is_list" s_is_list f fd) (hm : mg x0 = some (.ref f)) (hb : Binds K fd ["value"] []) : Fn P w K mg base x0 ["value"] 4 m_is_list :=
  ⟨f, fd, hm, F.kp, hb, ok_def (N := ["value", "rule"]) (ps := ["value"]) false F sc_is_list fun cdv A outer s H E hr => by
    have sc := sc_is_list
    have tk : Takes (cxOf (L2.CX P w) P w K mg base ["value", "rule"] "is_list" (defScope s_is_list) f cdv A outer s H E) (fun c d _ H' => E c d H') := takes_of rfl rfl rfl rfl
    have ps : PassesOwn (model P w) _ _ _ := passes_of (X := cxOf (L2.CX P w) P w K mg base ["value", "rule"] "is_list" (defScope s_is_list) f cdv A outer s H E) rfl
    show DSs _ _ (defBody s_is_list) b_is_list
    exact (dss_cons (ds_if (dt_w (dw_or (dt_not (dt_truth (de_isi .tuple z.isinstance z.tuple (de_var 0) bt_tuple))) (dw_or (dt_cmp (ho_neR hr) hd_ne (de_callB hc_len hd_len z.len bt_len (da_cons (de_var 0) da_nil)) de_int) (dw_or1 (dt_not (dt_truth (de_call c_is_widths (hr.mono (by decide)) tk (da_cons (de_ix (de_var 0) de_int) da_nil)))))))) (dss_one (ds_ret de_bl)) dss_nil) (dss_cons (ds_if (dt_w (dw_or (dt_not (dt_truth (de_isi .tuple z.isinstance z.tuple (de_ix (de_var 0) de_int) bt_tuple))) (dw_or (dt_cmp op_gt hd_C (de_callB hc_len hd_len z.len bt_len (da_cons (de_ix (de_var 0) de_int) da_nil)) (de_glob g_MOST_RULES)) (dw_or1 (dt_not (dt_truth (de_call c_is_between (hr.mono (by decide)) tk (da_cons (de_ix (de_var 0) de_int) (da_cons de_int (da_cons (de_glob g_LAST_ACTION) da_nil)))))))))) (dss_one (ds_ret de_bl)) dss_nil) (dss_one (ds_ret (de_callB (cr_all rfl) hd_all z.all bt_all (da_cons (de_fz (df_lc [("rule", 1)] rfl sc.nd (di_val (de_ix (de_var 0) de_int)) (blkOk_by (by kernel_rfl)) (fun _ _ _ _ _ => (dg_name 1 sc.nd)) (fun _ _ _ _ _ => dts_nil) (fun _ _ _ _ _ => (de_call c_is_rule (hr.mono (by decide)) takes0 (da_cons (de_var 1) (da_cons (de_ix (de_var 0) de_int) da_nil)))))) da_nil))))))⟩
abbrev s_cases_of : Stmt := topS 14
theorem sc_cases_of : FnScope ["widths", "found", "width", "case", "value"] ["widths"] (defScope s_cases_of) := ⟨rfl, rfl, rfl, by decide +kernel, rfl, by decide +kernel, by decide +kernel⟩
theorem ok_cases_of {x0 : Str} {f : Addr} {fd : FuncData} (z : Bi mg) (F : Fun K "cases_of" "cases_of" s_cases_of f fd) (hm : mg x0 = some (.ref f)) (hb : Binds K fd ["widths"] []) : Fn P w K mg base x0 ["widths"] 1 m_cases_of :=
  ⟨f, fd, hm, F.kp, hb, ok_def (N := ["widths", "found", "width", "case", "value"]) (ps := ["widths"]) false F sc_cases_of fun cdv A outer s H E hr => by
    have sc := sc_cases_of
    have tk : Takes (cxOf (L2.CX P w) P w K mg base ["widths", "found", "width", "case", "value"] "cases_of" (defScope s_cases_of) f cdv A outer s H E) (fun c d _ H' => E c d H') := takes_of rfl rfl rfl rfl
    have ps : PassesOwn (model P w) _ _ _ := passes_of (X := cxOf (L2.CX P w) P w K mg base ["widths", "found", "width", "case", "value"] "cases_of" (defScope s_cases_of) f cdv A outer s H E) rfl
    show DSs _ _ (defBody s_cases_of) b_cases_of
    exact (dss_cons (ds_set 1 sc.nd (de_fz (df_lst (da_cons (de_tup da_nil) da_nil)))) (dss_cons (ds_for ps rfl (di_val (de_var 0)) (dg_name 2 sc.nd) (dss_one (ds_setLc2 1 [("case", 3), ("value", 4)] [4] rfl sc.nd (di_val (de_var 1)) (blkOk_by (by kernel_rfl)) (fun _ _ _ _ _ => (dg_name 3 sc.nd)) (fun _ _ _ _ _ => dts_nil) (fun _ _ _ _ _ => (dif_rng1 z.range (de_var 2))) (fun _ _ _ _ _ => (dg_name 4 sc.nd)) (fun _ _ _ _ _ => dts_nil) (fun _ _ _ _ _ => (de_op ho_add hd_add (de_var 3) (de_tup (da_cons (de_var 4) da_nil)))) mFz (Or.inl rfl)))) (dss_one (ds_ret (de_var 1)))))⟩
abbrev s_matches_in : Stmt := topS 15
theorem sc_matches_in : FnScope ["listed", "number", "case", "ranges", "at", "value"] ["listed", "number", "case"] (defScope s_matches_in) := ⟨rfl, rfl, rfl, by decide +kernel, rfl, by decide +kernel, by decide +kernel⟩
theorem ok_matches_in {x0 : Str} {f : Addr} {fd : FuncData} (z : Bi mg) (F : Fun K "matches_in" "matches_in" s_matches_in f fd) (hm : mg x0 = some (.ref f)) (hb : Binds K fd ["listed", "number", "case"] []) : Fn P w K mg base x0 ["listed", "number", "case"] 1 m_matches_in :=
  ⟨f, fd, hm, F.kp, hb, ok_def (N := ["listed", "number", "case", "ranges", "at", "value"]) (ps := ["listed", "number", "case"]) false F sc_matches_in fun cdv A outer s H E hr => by
    have sc := sc_matches_in
    have tk : Takes (cxOf (L2.CX P w) P w K mg base ["listed", "number", "case", "ranges", "at", "value"] "matches_in" (defScope s_matches_in) f cdv A outer s H E) (fun c d _ H' => E c d H') := takes_of rfl rfl rfl rfl
    have ps : PassesOwn (model P w) _ _ _ := passes_of (X := cxOf (L2.CX P w) P w K mg base ["listed", "number", "case", "ranges", "at", "value"] "matches_in" (defScope s_matches_in) f cdv A outer s H E) rfl
    show DSs _ _ (defBody s_matches_in) b_matches_in
    exact (dss_cons (ds_set 3 sc.nd (de_ix (de_ix (de_ix (de_var 0) de_int) (de_var 1)) de_int)) (dss_one (ds_ret (de_callB (cr_all rfl) hd_all z.all bt_all (da_cons (de_fz (df_lc [("at", 4), ("value", 5)] rfl sc.nd (di_enum z.enumerate (de_var 2)) (blkOk_by (by kernel_rfl)) (fun _ _ _ _ _ => (dg_tup rfl (dgs_cons (dg_name 4 sc.nd) (dgs_cons (dg_name 5 sc.nd) dgs_nil)))) (fun _ _ _ _ _ => dts_nil) (fun _ _ _ _ _ => (de_chain op_le op_le hd_C hd_C (de_ix (de_ix (de_var 3) (de_var 4)) de_int) (de_var 5) (de_ix (de_ix (de_var 3) (de_var 4)) de_int))))) da_nil)))))⟩
abbrev s_check_list : Stmt := topS 17
theorem sc_check_list : FnScope ["listed"] ["listed"] (defScope s_check_list) := ⟨rfl, rfl, rfl, by decide +kernel, rfl, by decide +kernel, by decide +kernel⟩
theorem ok_check_list {x0 : Str} {f : Addr} {fd : FuncData} (z : Bi mg) {C_BadValue : Addr} (xt : XT P w K mg base C_BadValue) (c_is_list : Fn P w K mg base "is_list" ["value"] 4 m_is_list) (F : Fun K "check_list" "check_list" s_check_list f fd) (hm : mg x0 = some (.ref f)) (hb : Binds K fd ["listed"] []) : Fn P w K mg base x0 ["listed"] 5 m_check_list :=
  ⟨f, fd, hm, F.kp, hb, ok_def (N := ["listed"]) (ps := ["listed"]) false F sc_check_list fun cdv A outer s H E hr => by
    have sc := sc_check_list
    have tk : Takes (cxOf (L2.CX P w) P w K mg base ["listed"] "check_list" (defScope s_check_list) f cdv A outer s H E) (fun c d _ H' => E c d H') := takes_of rfl rfl rfl rfl
    have ps : PassesOwn (model P w) _ _ _ := passes_of (X := cxOf (L2.CX P w) P w K mg base ["listed"] "check_list" (defScope s_check_list) f cdv A outer s H E) rfl
    show DSs _ _ (defBody s_check_list) b_check_list
    exact (dss_one (ds_if (dt_not (dt_truth (de_call c_is_list (hr.mono (by decide)) tk (da_cons (de_var 0) da_nil)))) (dss_one (ds_raise rfl xt.r_BadValue hr (by omega) (by decide) tk (da_cons de_str da_nil))) dss_nil))⟩
abbrev s_ascending : Stmt := topS 18
theorem sc_ascending : FnScope ["listed"] ["listed"] (defScope s_ascending) := ⟨rfl, rfl, rfl, by decide +kernel, rfl, by decide +kernel, by decide +kernel⟩
theorem ok_ascending {x0 : Str} {f : Addr} {fd : FuncData} (z : Bi mg) (F : Fun K "ascending" "ascending" s_ascending f fd) (hm : mg x0 = some (.ref f)) (hb : Binds K fd ["listed"] []) : Fn P w K mg base x0 ["listed"] 1 m_ascending :=
  ⟨f, fd, hm, F.kp, hb, ok_def (N := ["listed"]) (ps := ["listed"]) false F sc_ascending fun cdv A outer s H E hr => by
    have sc := sc_ascending
    have tk : Takes (cxOf (L2.CX P w) P w K mg base ["listed"] "ascending" (defScope s_ascending) f cdv A outer s H E) (fun c d _ H' => E c d H') := takes_of rfl rfl rfl rfl
    have ps : PassesOwn (model P w) _ _ _ := passes_of (X := cxOf (L2.CX P w) P w K mg base ["listed"] "ascending" (defScope s_ascending) f cdv A outer s H E) rfl
    show DSs _ _ (defBody s_ascending) b_ascending
    exact (dss_one (ds_ret (de_tupRg rfl z.tuple (dr_1 z.range (de_callB hc_len hd_len z.len bt_len (da_cons (de_ix (de_var 0) de_int) da_nil))))))⟩
abbrev s_kinds : Stmt := topS 20
theorem sc_kinds : FnScope ["listed", "found", "case", "numbers", "number"] ["listed"] (defScope s_kinds) := ⟨rfl, rfl, rfl, by decide +kernel, rfl, by decide +kernel, by decide +kernel⟩
theorem ok_kinds {x0 : Str} {f : Addr} {fd : FuncData} (z : Bi mg) (c_ascending : Fn P w K mg base "ascending" ["listed"] 1 m_ascending) (c_cases_of : Fn P w K mg base "cases_of" ["widths"] 1 m_cases_of) (c_matches_in : Fn P w K mg base "matches_in" ["listed", "number", "case"] 1 m_matches_in) (F : Fun K "kinds" "kinds" s_kinds f fd) (hm : mg x0 = some (.ref f)) (hb : Binds K fd ["listed"] []) : Fn P w K mg base x0 ["listed"] 2 m_kinds :=
  ⟨f, fd, hm, F.kp, hb, ok_def (N := ["listed", "found", "case", "numbers", "number"]) (ps := ["listed"]) false F sc_kinds fun cdv A outer s H E hr => by
    have sc := sc_kinds
    have tk : Takes (cxOf (L2.CX P w) P w K mg base ["listed", "found", "case", "numbers", "number"] "kinds" (defScope s_kinds) f cdv A outer s H E) (fun c d _ H' => E c d H') := takes_of rfl rfl rfl rfl
    have ps : PassesOwn (model P w) _ _ _ := passes_of (X := cxOf (L2.CX P w) P w K mg base ["listed", "found", "case", "numbers", "number"] "kinds" (defScope s_kinds) f cdv A outer s H E) rfl
    show DSs _ _ (defBody s_kinds) b_kinds
    exact (dss_cons (ds_set 1 sc.nd de_newD) (dss_cons (ds_for ps rfl (di_val (de_call c_cases_of (hr.mono (by decide)) tk (da_cons (de_ix (de_var 0) de_int) da_nil))) (dg_name 2 sc.nd) (dss_cons (ds_set 3 sc.nd (de_callTy call_tupleX hd_tuple z.tuple bt_tuple (da_cons (de_fz (df_lc [("number", 4)] rfl sc.nd (di_val (de_call c_ascending (hr.mono (by decide)) tk (da_cons (de_var 0) da_nil))) (blkOk_by (by kernel_rfl)) (fun _ _ _ _ _ => (dg_name 4 sc.nd)) (fun _ _ _ _ _ => (dts_one (dt_truth (de_call c_matches_in (hr.mono (by decide)) takes0 (da_cons (de_var 0) (da_cons (de_var 4) (da_cons (de_var 2) da_nil))))))) (fun _ _ _ _ _ => (de_var 4)))) da_nil))) (dss_one (ds_subN hr (de_ifExp (dt_truth (de_var 3)) (de_ix (de_ix (de_ix (de_var 0) de_int) (de_ix (de_var 3) de_int)) de_int) (de_ix (de_var 0) de_int)) (de_var 1) (de_var 3))))) (dss_one (ds_ret (de_fz (df_listIt rfl z.list (de_var 1)))))))⟩
abbrev s_is_alike : Stmt := topS 21
theorem sc_is_alike : FnScope ["listed", "found", "short", "numbers", "action", "first", "told", "one"] ["listed", "found", "short"] (defScope s_is_alike) := ⟨rfl, rfl, rfl, by decide +kernel, rfl, by decide +kernel, by decide +kernel⟩
theorem ok_is_alike {x0 : Str} {f : Addr} {fd : FuncData} (z : Bi mg) (F : Fun K "is_alike" "is_alike" s_is_alike f fd) (hm : mg x0 = some (.ref f)) (hb : Binds K fd ["listed", "found", "short"] []) : Fn P w K mg base x0 ["listed", "found", "short"] 1 m_is_alike :=
  ⟨f, fd, hm, F.kp, hb, ok_def (N := ["listed", "found", "short", "numbers", "action", "first", "told", "one"]) (ps := ["listed", "found", "short"]) false F sc_is_alike fun cdv A outer s H E hr => by
    have sc := sc_is_alike
    have tk : Takes (cxOf (L2.CX P w) P w K mg base ["listed", "found", "short", "numbers", "action", "first", "told", "one"] "is_alike" (defScope s_is_alike) f cdv A outer s H E) (fun c d _ H' => E c d H') := takes_of rfl rfl rfl rfl
    have ps : PassesOwn (model P w) _ _ _ := passes_of (X := cxOf (L2.CX P w) P w K mg base ["listed", "found", "short", "numbers", "action", "first", "told", "one"] "is_alike" (defScope s_is_alike) f cdv A outer s H E) rfl
    show DSs _ _ (defBody s_is_alike) b_is_alike
    exact (dss_cons (ds_for ps rfl (di_val (de_var 1)) (dg_tup rfl (dgs_cons (dg_name 3 sc.nd) (dgs_cons (dg_name 4 sc.nd) dgs_nil))) (dss_cons (ds_set 5 sc.nd (de_sl (de_fz (df_lc [("one", 7)] rfl sc.nd (di_val (de_var 2)) (blkOk_by (by kernel_rfl)) (fun _ _ _ _ _ => (dg_name 7 sc.nd)) (fun _ _ _ _ _ => (dts_one (dt_cmp (ho_inR hr) hd_in (de_var 7) (de_var 3) (by with_unfolding_all rfl)))) (fun _ _ _ _ _ => (de_var 7)))) dp_no (dp_some de_int))) (dss_cons (ds_set 6 sc.nd (de_ifExp (dt_truth (de_var 5)) (de_ix (de_ix (de_ix (de_var 0) de_int) (de_ix (de_var 5) de_int)) de_int) (de_ix (de_var 0) de_int))) (dss_one (ds_if (dt_cmp (ho_neR hr) hd_ne (de_var 6) (de_var 4)) (dss_one (ds_ret de_bl)) dss_nil))))) (dss_one (ds_ret de_bl)))⟩
abbrev s_smallest_set : Stmt := topS 22
theorem sc_smallest_set : FnScope ["listed", "found", "many", "chosen"] ["listed"] (defScope s_smallest_set) := ⟨rfl, rfl, rfl, by decide +kernel, rfl, by decide +kernel, by decide +kernel⟩
theorem ok_smallest_set {x0 : Str} {f : Addr} {fd : FuncData} (z : Bi mg) (g_combinations : mg "combinations" = some (.type "itertools.combinations")) (c_ascending : Fn P w K mg base "ascending" ["listed"] 1 m_ascending) (c_check_list : Fn P w K mg base "check_list" ["listed"] 5 m_check_list) (c_is_alike : Fn P w K mg base "is_alike" ["listed", "found", "short"] 1 m_is_alike) (c_kinds : Fn P w K mg base "kinds" ["listed"] 2 m_kinds) (F : Fun K "smallest_set" "smallest_set" s_smallest_set f fd) (hm : mg x0 = some (.ref f)) (hb : Binds K fd ["listed"] []) : Fn P w K mg base x0 ["listed"] 6 m_smallest_set :=
  ⟨f, fd, hm, F.kp, hb, ok_def (N := ["listed", "found", "many", "chosen"]) (ps := ["listed"]) false F sc_smallest_set fun cdv A outer s H E hr => by
    have sc := sc_smallest_set
    have tk : Takes (cxOf (L2.CX P w) P w K mg base ["listed", "found", "many", "chosen"] "smallest_set" (defScope s_smallest_set) f cdv A outer s H E) (fun c d _ H' => E c d H') := takes_of rfl rfl rfl rfl
    have ps : PassesOwn (model P w) _ _ _ := passes_of (X := cxOf (L2.CX P w) P w K mg base ["listed", "found", "many", "chosen"] "smallest_set" (defScope s_smallest_set) f cdv A outer s H E) rfl
    show DSs _ _ (defBody s_smallest_set) b_smallest_set
    exact (dss_cons (ds_expr (de_call c_check_list (hr.mono (by decide)) tk (da_cons (de_var 0) da_nil))) (dss_cons (ds_set 1 sc.nd (de_call c_kinds (hr.mono (by decide)) tk (da_cons (de_var 0) da_nil))) (dss_cons (ds_for ps rfl (di_rng1 z.range (de_callB hc_len hd_len z.len bt_len (da_cons (de_ix (de_var 0) de_int) da_nil))) (dg_name 2 sc.nd) (dss_one (ds_for ps rfl (di_comb g_combinations (de_call c_ascending (hr.mono (by decide)) tk (da_cons (de_var 0) da_nil)) (de_var 2)) (dg_name 3 sc.nd) (dss_one (ds_if (dt_truth (de_call c_is_alike (hr.mono (by decide)) tk (da_cons (de_var 0) (da_cons (de_var 1) (da_cons (de_var 3) da_nil))))) (dss_one (ds_ret (de_var 3))) dss_nil))))) (dss_one (ds_ret (de_call c_ascending (hr.mono (by decide)) tk (da_cons (de_var 0) da_nil)))))))⟩
abbrev s_is_ready : Stmt := topS 23
theorem sc_is_ready : FnScope ["listed", "found", "chosen", "placed", "number", "numbers", "action", "one"] ["listed", "found", "chosen", "placed", "number"] (defScope s_is_ready) := ⟨rfl, rfl, rfl, by decide +kernel, rfl, by decide +kernel, by decide +kernel⟩
theorem ok_is_ready {x0 : Str} {f : Addr} {fd : FuncData} (z : Bi mg) (F : Fun K "is_ready" "is_ready" s_is_ready f fd) (hm : mg x0 = some (.ref f)) (hb : Binds K fd ["listed", "found", "chosen", "placed", "number"] []) : Fn P w K mg base x0 ["listed", "found", "chosen", "placed", "number"] 1 m_is_ready :=
  ⟨f, fd, hm, F.kp, hb, ok_def (N := ["listed", "found", "chosen", "placed", "number", "numbers", "action", "one"]) (ps := ["listed", "found", "chosen", "placed", "number"]) false F sc_is_ready fun cdv A outer s H E hr => by
    have sc := sc_is_ready
    have tk : Takes (cxOf (L2.CX P w) P w K mg base ["listed", "found", "chosen", "placed", "number", "numbers", "action", "one"] "is_ready" (defScope s_is_ready) f cdv A outer s H E) (fun c d _ H' => E c d H') := takes_of rfl rfl rfl rfl
    have ps : PassesOwn (model P w) _ _ _ := passes_of (X := cxOf (L2.CX P w) P w K mg base ["listed", "found", "chosen", "placed", "number", "numbers", "action", "one"] "is_ready" (defScope s_is_ready) f cdv A outer s H E) rfl
    show DSs _ _ (defBody s_is_ready) b_is_ready
    exact (dss_cons (ds_for ps rfl (di_val (de_var 1)) (dg_tup rfl (dgs_cons (dg_name 5 sc.nd) (dgs_cons (dg_name 6 sc.nd) dgs_nil))) (dss_one (ds_if (dt_w (dw_and (dt_cmp (ho_inR hr) hd_in (de_var 4) (de_var 5) (by with_unfolding_all rfl)) (dw_and (dt_not (dt_truth (de_callB (cr_any rfl) hd_any z.any bt_any (da_cons (de_fz (df_lc [("one", 7)] rfl sc.nd (di_val (de_var 5)) (blkOk_by (by kernel_rfl)) (fun _ _ _ _ _ => (dg_name 7 sc.nd)) (fun _ _ _ _ _ => dts_nil) (fun _ _ _ _ _ => (de_cmp (ho_inR hr) hd_in (de_var 7) (de_var 3) (by with_unfolding_all rfl))))) da_nil)))) (dw_and1 (dt_cmp (ho_neR hr) hd_ne (de_ix (de_ix (de_ix (de_var 0) de_int) (de_var 4)) de_int) (de_var 6)))))) (dss_one (ds_ret de_bl)) dss_nil))) (dss_one (ds_ret de_bl)))⟩
abbrev s_least_row : Stmt := topS 24
theorem sc_least_row : FnScope ["listed", "found", "chosen", "placed", "turn", "left", "fitting", "number"] ["listed", "found", "chosen"] (defScope s_least_row) := ⟨rfl, rfl, rfl, by decide +kernel, rfl, by decide +kernel, by decide +kernel⟩
theorem ok_least_row {x0 : Str} {f : Addr} {fd : FuncData} (z : Bi mg) (c_is_alike : Fn P w K mg base "is_alike" ["listed", "found", "short"] 1 m_is_alike) (c_is_ready : Fn P w K mg base "is_ready" ["listed", "found", "chosen", "placed", "number"] 1 m_is_ready) (F : Fun K "least_row" "least_row" s_least_row f fd) (hm : mg x0 = some (.ref f)) (hb : Binds K fd ["listed", "found", "chosen"] []) : Fn P w K mg base x0 ["listed", "found", "chosen"] 2 m_least_row :=
  ⟨f, fd, hm, F.kp, hb, ok_def (N := ["listed", "found", "chosen", "placed", "turn", "left", "fitting", "number"]) (ps := ["listed", "found", "chosen"]) false F sc_least_row fun cdv A outer s H E hr => by
    have sc := sc_least_row
    have tk : Takes (cxOf (L2.CX P w) P w K mg base ["listed", "found", "chosen", "placed", "turn", "left", "fitting", "number"] "least_row" (defScope s_least_row) f cdv A outer s H E) (fun c d _ H' => E c d H') := takes_of rfl rfl rfl rfl
    have ps : PassesOwn (model P w) _ _ _ := passes_of (X := cxOf (L2.CX P w) P w K mg base ["listed", "found", "chosen", "placed", "turn", "left", "fitting", "number"] "least_row" (defScope s_least_row) f cdv A outer s H E) rfl
    show DSs _ _ (defBody s_least_row) b_least_row
    exact (dss_cons (ds_set 3 sc.nd (de_tup da_nil)) (dss_cons (ds_for ps rfl (di_rng1 z.range (de_callB hc_len hd_len z.len bt_len (da_cons (de_var 2) da_nil))) (dg_name 4 sc.nd) (dss_cons (ds_setLc 5 [("number", 7)] rfl sc.nd (di_val (de_var 2)) (blkOk_by (by kernel_rfl)) (fun _ _ _ _ _ => (dg_name 7 sc.nd)) (fun _ _ _ _ _ => (dts_one (dt_cmp (ho_notinR hr) hd_notin (de_var 7) (de_var 3) (by with_unfolding_all rfl)))) (fun _ _ _ _ _ => (de_var 7)) mFz (Or.inl rfl)) (dss_cons (ds_setLc 6 [("number", 7)] rfl sc.nd (di_val (de_var 5)) (blkOk_by (by kernel_rfl)) (fun _ _ _ _ _ => (dg_name 7 sc.nd)) (fun _ _ _ _ _ => (dts_one (dt_truth (de_call c_is_ready (hr.mono (by decide)) takes0 (da_cons (de_var 0) (da_cons (de_var 1) (da_cons (de_var 2) (da_cons (de_var 3) (da_cons (de_var 7) da_nil))))))))) (fun _ _ _ _ _ => (de_var 7)) mFz (Or.inl rfl)) (dss_cons (ds_if (dt_not (dt_truth (de_var 6))) (dss_one (ds_ret de_non)) dss_nil) (dss_one (ds_set 3 sc.nd (de_op ho_add hd_add (de_var 3) (de_tup (da_cons (de_ix (de_var 6) de_int) da_nil))))))))) (dss_one (ds_ret (de_ifExp (dt_truth (de_call c_is_alike (hr.mono (by decide)) tk (da_cons (de_var 0) (da_cons (de_var 1) (da_cons (de_var 3) da_nil))))) (de_var 3) de_non)))))⟩
abbrev s_shortest_row : Stmt := topS 25
theorem sc_shortest_row : FnScope ["listed", "found", "many", "rows", "told", "chosen", "row"] ["listed"] (defScope s_shortest_row) := ⟨rfl, rfl, rfl, by decide +kernel, rfl, by decide +kernel, by decide +kernel⟩
theorem ok_shortest_row {x0 : Str} {f : Addr} {fd : FuncData} (z : Bi mg) (g_combinations : mg "combinations" = some (.type "itertools.combinations")) (c_ascending : Fn P w K mg base "ascending" ["listed"] 1 m_ascending) (c_check_list : Fn P w K mg base "check_list" ["listed"] 5 m_check_list) (c_kinds : Fn P w K mg base "kinds" ["listed"] 2 m_kinds) (c_least_row : Fn P w K mg base "least_row" ["listed", "found", "chosen"] 2 m_least_row) (F : Fun K "shortest_row" "shortest_row" s_shortest_row f fd) (hm : mg x0 = some (.ref f)) (hb : Binds K fd ["listed"] []) : Fn P w K mg base x0 ["listed"] 6 m_shortest_row :=
  ⟨f, fd, hm, F.kp, hb, ok_def (N := ["listed", "found", "many", "rows", "told", "chosen", "row"]) (ps := ["listed"]) false F sc_shortest_row fun cdv A outer s H E hr => by
    have sc := sc_shortest_row
    have tk : Takes (cxOf (L2.CX P w) P w K mg base ["listed", "found", "many", "rows", "told", "chosen", "row"] "shortest_row" (defScope s_shortest_row) f cdv A outer s H E) (fun c d _ H' => E c d H') := takes_of rfl rfl rfl rfl
    have ps : PassesOwn (model P w) _ _ _ := passes_of (X := cxOf (L2.CX P w) P w K mg base ["listed", "found", "many", "rows", "told", "chosen", "row"] "shortest_row" (defScope s_shortest_row) f cdv A outer s H E) rfl
    show DSs _ _ (defBody s_shortest_row) b_shortest_row
    exact (dss_cons (ds_expr (de_call c_check_list (hr.mono (by decide)) tk (da_cons (de_var 0) da_nil))) (dss_cons (ds_set 1 sc.nd (de_call c_kinds (hr.mono (by decide)) tk (da_cons (de_var 0) da_nil))) (dss_cons (ds_for ps rfl (di_rng1 z.range (de_op ho_add hd_add (de_callB hc_len hd_len z.len bt_len (da_cons (de_ix (de_var 0) de_int) da_nil)) de_int)) (dg_name 2 sc.nd) (dss_cons (ds_setLc 3 [("chosen", 5)] rfl sc.nd (di_comb g_combinations (de_call c_ascending (hr.mono (by decide)) tk (da_cons (de_var 0) da_nil)) (de_var 2)) (blkOk_by (by kernel_rfl)) (fun _ _ _ _ _ => (dg_name 5 sc.nd)) (fun _ _ _ _ _ => dts_nil) (fun _ _ _ _ _ => (de_call c_least_row (hr.mono (by decide)) takes0 (da_cons (de_var 0) (da_cons (de_var 1) (da_cons (de_var 5) da_nil))))) mFz (Or.inl rfl)) (dss_cons (ds_setLc 4 [("row", 6)] rfl sc.nd (di_val (de_var 3)) (blkOk_by (by kernel_rfl)) (fun _ _ _ _ _ => (dg_name 6 sc.nd)) (fun _ _ _ _ _ => (dts_one (dt_cmp op_notN hd_isnot (de_var 6) de_non))) (fun _ _ _ _ _ => (de_var 6)) mFz (Or.inl rfl)) (dss_one (ds_if (dt_truth (de_var 4)) (dss_one (ds_ret (de_callB (hc_minZ hr rfl) hd_minD z.min bt_min (da_cons (de_var 4) da_nil)))) dss_nil))))) (dss_one (ds_ret (de_call c_ascending (hr.mono (by decide)) tk (da_cons (de_var 0) da_nil)))))))⟩
abbrev s__law_stream : Stmt := topS 27
theorem sc__law_stream : FnScope ["_law_script"] ["_law_script"] (defScope s__law_stream) := ⟨rfl, rfl, rfl, by decide +kernel, rfl, by decide +kernel, by decide +kernel⟩
theorem ok__law_stream {x0 : Str} {f : Addr} {fd : FuncData} (z : Bi mg) (F : Fun K "_law_stream" "_law_stream" s__law_stream f fd) (hm : mg x0 = some (.ref f)) (hb : Binds K fd ["_law_script"] []) : Fn P w K mg base x0 ["_law_script"] 1 m__law_stream :=
  ⟨f, fd, hm, F.kp, hb, ok_def (N := ["_law_script"]) (ps := ["_law_script"]) true F sc__law_stream fun cdv A outer s H E hr => by
    have sc := sc__law_stream
    have tk : Takes (cxOf (L2.CX P w) P w K mg base ["_law_script"] "_law_stream" (defScope s__law_stream) f cdv A outer s H E) (fun c d _ H' => E c d H') := takes_of rfl rfl rfl rfl
    have ps : PassesOwn (model P w) _ _ _ := passes_of (X := cxOf (L2.CX P w) P w K mg base ["_law_script"] "_law_stream" (defScope s__law_stream) f cdv A outer s H E) rfl
    show DSs _ _ (defBody s__law_stream) b__law_stream
    exact (dss_one (ds_ret (de_al (df_lst (da_cons (de_fz (df_list z.list (da_cons (de_var 0) da_nil))) (da_cons de_int (da_cons de_int da_nil)))))))⟩
abbrev s__law_next : Stmt := topS 28
theorem sc__law_next : FnScope ["_law_stream_here", "_law_many", "_law_k", "_law_cell", "_law_digit"] ["_law_stream_here", "_law_many"] (defScope s__law_next) := ⟨rfl, rfl, rfl, by decide +kernel, rfl, by decide +kernel, by decide +kernel⟩
theorem ok__law_next {x0 : Str} {f : Addr} {fd : FuncData} (z : Bi mg) (F : Fun K "_law_next" "_law_next" s__law_next f fd) (hm : mg x0 = some (.ref f)) (hb : Binds K fd ["_law_stream_here", "_law_many"] []) : Fn P w K mg base x0 ["_law_stream_here", "_law_many"] 1 m__law_next :=
  ⟨f, fd, hm, F.kp, hb, ok_def (N := ["_law_stream_here", "_law_many", "_law_k", "_law_cell", "_law_digit"]) (ps := ["_law_stream_here", "_law_many"]) false F sc__law_next fun cdv A outer s H E hr => by
    have sc := sc__law_next
    have tk : Takes (cxOf (L2.CX P w) P w K mg base ["_law_stream_here", "_law_many", "_law_k", "_law_cell", "_law_digit"] "_law_next" (defScope s__law_next) f cdv A outer s H E) (fun c d _ H' => E c d H') := takes_of rfl rfl rfl rfl
    have ps : PassesOwn (model P w) _ _ _ := passes_of (X := cxOf (L2.CX P w) P w K mg base ["_law_stream_here", "_law_many", "_law_k", "_law_cell", "_law_digit"] "_law_next" (defScope s__law_next) f cdv A outer s H E) rfl
    show DSs _ _ (defBody s__law_next) b__law_next
    exact (dss_cons (ds_if (dt_cmp (ho_eqR hr) hd_eq (de_ix (de_var 0) de_int) de_int) (dss_cons (ds_set 2 sc.nd (de_ix (de_var 0) de_int)) (dss_cons (ds_set 3 sc.nd (de_op ho_add hd_add de_int (de_var 2))) (dss_cons (ds_if (dt_cmp op_lt hd_C (de_var 2) (de_callB hc_len hd_len z.len bt_len (da_cons (de_ix (de_var 0) de_int) da_nil))) (dss_one (ds_set 3 sc.nd (de_callB call_abs hd_abs z.abs bt_abs (da_cons (de_ix (de_ix (de_var 0) de_int) (de_var 2)) da_nil)))) dss_nil) (dss_cons (ds_if (dt_cmp op_lt hd_C (de_var 3) (de_op op_pow hd_pow de_int de_int)) (dss_cons (ds_set 3 sc.nd (de_op op_mod hd_mod (de_callTy call_int1 hd_int z.int bt_int (da_cons (de_op ho_add hd_add (de_op ho_add hd_add (de_op ho_mul hd_mul (de_var 3) de_int) (de_op ho_mul hd_mul (de_var 2) de_int)) de_int) da_nil)) de_int)) (dss_one (ds_set 3 sc.nd (de_op ho_add hd_add (de_op ho_mul hd_mul (de_op op_mod hd_mod (de_callTy call_int1 hd_int z.int bt_int (da_cons (de_op ho_add hd_add (de_op ho_mul hd_mul (de_var 3) de_int) de_int) da_nil)) de_int) de_int) (de_var 3))))) dss_nil) (dss_cons (ds_sub (de_var 3) (de_var 0) de_int) (dss_one (ds_sub (de_op ho_add hd_add (de_var 2) de_int) (de_var 0) de_int))))))) dss_nil) (dss_cons (ds_set 4 sc.nd (de_op op_mod hd_mod (de_callTy call_int1 hd_int z.int bt_int (da_cons (de_ix (de_var 0) de_int) da_nil)) (de_var 1))) (dss_cons (ds_sub (de_op op_fdiv hd_div (de_ix (de_var 0) de_int) (de_var 1)) (de_var 0) de_int) (dss_one (ds_ret (de_var 4))))))⟩
abbrev s__law_is_integer : Stmt := topS 29
theorem sc__law_is_integer : FnScope ["_law_actual"] ["_law_actual"] (defScope s__law_is_integer) := ⟨rfl, rfl, rfl, by decide +kernel, rfl, by decide +kernel, by decide +kernel⟩
theorem ok__law_is_integer {x0 : Str} {f : Addr} {fd : FuncData} (z : Bi mg) (F : Fun K "_law_is_integer" "_law_is_integer" s__law_is_integer f fd) (hm : mg x0 = some (.ref f)) (hb : Binds K fd ["_law_actual"] []) : Fn P w K mg base x0 ["_law_actual"] 1 m__law_is_integer :=
  ⟨f, fd, hm, F.kp, hb, ok_def (N := ["_law_actual"]) (ps := ["_law_actual"]) false F sc__law_is_integer fun cdv A outer s H E hr => by
    have sc := sc__law_is_integer
    have tk : Takes (cxOf (L2.CX P w) P w K mg base ["_law_actual"] "_law_is_integer" (defScope s__law_is_integer) f cdv A outer s H E) (fun c d _ H' => E c d H') := takes_of rfl rfl rfl rfl
    have ps : PassesOwn (model P w) _ _ _ := passes_of (X := cxOf (L2.CX P w) P w K mg base ["_law_actual"] "_law_is_integer" (defScope s__law_is_integer) f cdv A outer s H E) rfl
    show DSs _ _ (defBody s__law_is_integer) b__law_is_integer
    exact (dss_one (ds_ret (de_and (de_isi .int z.isinstance z.int (de_var 0) bt_int) (de_one (de_not (de_isi .bool z.isinstance z.bool (de_var 0) bt_bool))))))⟩
abbrev s__law_equal : Stmt := topS 30
theorem sc__law_equal : FnScope ["_law_actual", "_law_due", "_law_at"] ["_law_actual", "_law_due"] (defScope s__law_equal) := ⟨rfl, rfl, rfl, by decide +kernel, rfl, by decide +kernel, by decide +kernel⟩
theorem ok__law_equal {f : Addr} {fd : FuncData} (z : Bi mg) (c__law_is_integer : Fn P w K mg base "_law_is_integer" ["_law_actual"] 1 m__law_is_integer) (F : Fun K "_law_equal" "_law_equal" s__law_equal f fd) (hm : mg "_law_equal" = some (.ref f)) (hb : Binds K fd ["_law_actual", "_law_due"] []) : ∀ n, Fn P w K mg base "_law_equal" ["_law_actual", "_law_due"] (2 + n) (r__law_equal n)
  | 0 => ⟨f, fd, hm, F.kp, hb, fn_stuck⟩
  | n + 1 => ⟨f, fd, hm, F.kp, hb, ok_def (N := ["_law_actual", "_law_due", "_law_at"]) (ps := ["_law_actual", "_law_due"]) false F sc__law_equal fun cdv A outer s H E hr => by
    have c_self : Fn P w K mg base "_law_equal" ["_law_actual", "_law_due"] (2 + n) (r__law_equal n) := ok__law_equal z c__law_is_integer F hm hb n
    have sc := sc__law_equal
    have tk : Takes (cxOf (L2.CX P w) P w K mg base ["_law_actual", "_law_due", "_law_at"] "_law_equal" (defScope s__law_equal) f cdv A outer s H E) (fun c d _ H' => E c d H') := takes_of rfl rfl rfl rfl
    have ps : PassesOwn (model P w) _ _ _ := passes_of (X := cxOf (L2.CX P w) P w K mg base ["_law_actual", "_law_due", "_law_at"] "_law_equal" (defScope s__law_equal) f cdv A outer s H E) rfl
    show DSs _ _ (defBody s__law_equal) (b__law_equal (r__law_equal n))
    exact (dss_cons (ds_if (dt_cmp op_isN hd_is (de_var 1) de_non) (dss_one (ds_ret (de_cmp op_isN hd_is (de_var 0) de_non))) dss_nil) (dss_cons (ds_if (dt_truth (de_isi .bool z.isinstance z.bool (de_var 1) bt_bool)) (dss_one (ds_ret (de_and (de_isi .bool z.isinstance z.bool (de_var 0) bt_bool) (de_one (de_cmp (ho_eqR hr) hd_eq (de_var 0) (de_var 1)))))) dss_nil) (dss_cons (ds_if (dt_truth (de_isi .int z.isinstance z.int (de_var 1) bt_int)) (dss_one (ds_ret (de_and (de_call c__law_is_integer (hr.mono (show 1 ≤ 2 + n from by omega)) tk (da_cons (de_var 0) da_nil)) (de_one (de_cmp (ho_eqR hr) hd_eq (de_var 0) (de_var 1)))))) dss_nil) (dss_cons (ds_if (dt_truth (de_isi .str z.isinstance z.str (de_var 1) bt_str)) (dss_one (ds_ret (de_and (de_isi .str z.isinstance z.str (de_var 0) bt_str) (de_one (de_cmp (ho_eqR hr) hd_eq (de_var 0) (de_var 1)))))) dss_nil) (dss_cons (ds_if (dt_w (dw_and (dt_truth (de_isi .tuple z.isinstance z.tuple (de_var 1) bt_tuple)) (dw_and1 (dt_not (dt_truth (de_isi .tuple z.isinstance z.tuple (de_var 0) bt_tuple)))))) (dss_one (ds_ret de_bl)) dss_nil) (dss_cons (ds_if (dt_w (dw_and (dt_truth (de_isi .list z.isinstance z.list (de_var 1) bt_list)) (dw_and1 (dt_not (dt_truth (de_isi .list z.isinstance z.list (de_var 0) bt_list)))))) (dss_one (ds_ret de_bl)) dss_nil) (dss_cons (ds_if (dt_cmp (ho_neR hr) hd_ne (de_callB hc_len hd_len z.len bt_len (da_cons (de_var 0) da_nil)) (de_callB hc_len hd_len z.len bt_len (da_cons (de_var 1) da_nil))) (dss_one (ds_ret de_bl)) dss_nil) (dss_one (ds_ret (de_callB (cr_all rfl) hd_all z.all bt_all (da_cons (de_fz (df_lc [("_law_at", 2)] rfl sc.nd (di_rng1 z.range (de_callB hc_len hd_len z.len bt_len (da_cons (de_var 1) da_nil))) (blkOk_by (by kernel_rfl)) (fun _ _ _ _ _ => (dg_name 2 sc.nd)) (fun _ _ _ _ _ => dts_nil) (fun _ _ _ _ _ => (de_call c_self (hr.mono (Nat.le_refl _)) takes0 (da_cons (de_ix (de_var 0) (de_var 2)) (da_cons (de_ix (de_var 1) (de_var 2)) da_nil)))))) da_nil)))))))))))⟩
abbrev s__law_range : Stmt := topS 31
theorem sc__law_range : FnScope ["_law_stream_here", "_law_width", "_law_low"] ["_law_stream_here", "_law_width"] (defScope s__law_range) := ⟨rfl, rfl, rfl, by decide +kernel, rfl, by decide +kernel, by decide +kernel⟩
theorem ok__law_range {x0 : Str} {f : Addr} {fd : FuncData} (z : Bi mg) (c__law_next : Fn P w K mg base "_law_next" ["_law_stream_here", "_law_many"] 1 m__law_next) (F : Fun K "_law_range" "_law_range" s__law_range f fd) (hm : mg x0 = some (.ref f)) (hb : Binds K fd ["_law_stream_here", "_law_width"] []) : Fn P w K mg base x0 ["_law_stream_here", "_law_width"] 2 m__law_range :=
  ⟨f, fd, hm, F.kp, hb, ok_def (N := ["_law_stream_here", "_law_width", "_law_low"]) (ps := ["_law_stream_here", "_law_width"]) false F sc__law_range fun cdv A outer s H E hr => by
    have sc := sc__law_range
    have tk : Takes (cxOf (L2.CX P w) P w K mg base ["_law_stream_here", "_law_width", "_law_low"] "_law_range" (defScope s__law_range) f cdv A outer s H E) (fun c d _ H' => E c d H') := takes_of rfl rfl rfl rfl
    have ps : PassesOwn (model P w) _ _ _ := passes_of (X := cxOf (L2.CX P w) P w K mg base ["_law_stream_here", "_law_width", "_law_low"] "_law_range" (defScope s__law_range) f cdv A outer s H E) rfl
    show DSs _ _ (defBody s__law_range) b__law_range
    exact (dss_cons (ds_set 2 sc.nd (de_call c__law_next (hr.mono (by decide)) tk (da_cons (de_var 0) (da_cons (de_var 1) da_nil)))) (dss_one (ds_ret (de_tup (da_cons (de_var 2) (da_cons (de_op ho_add hd_add (de_var 2) (de_call c__law_next (hr.mono (by decide)) tk (da_cons (de_var 0) (da_cons (de_op op_sub hd_sub (de_var 1) (de_var 2)) da_nil)))) da_nil))))))⟩
abbrev s__law_rule : Stmt := topS 32
theorem sc__law_rule : FnScope ["_law_stream_here", "_law_widths", "_law_actions", "_law_width"] ["_law_stream_here", "_law_widths", "_law_actions"] (defScope s__law_rule) := ⟨rfl, rfl, rfl, by decide +kernel, rfl, by decide +kernel, by decide +kernel⟩
theorem ok__law_rule {x0 : Str} {f : Addr} {fd : FuncData} (z : Bi mg) (c__law_next : Fn P w K mg base "_law_next" ["_law_stream_here", "_law_many"] 1 m__law_next) (c__law_range : Fn P w K mg base "_law_range" ["_law_stream_here", "_law_width"] 2 m__law_range) (F : Fun K "_law_rule" "_law_rule" s__law_rule f fd) (hm : mg x0 = some (.ref f)) (hb : Binds K fd ["_law_stream_here", "_law_widths", "_law_actions"] []) : Fn P w K mg base x0 ["_law_stream_here", "_law_widths", "_law_actions"] 3 m__law_rule :=
  ⟨f, fd, hm, F.kp, hb, ok_def (N := ["_law_stream_here", "_law_widths", "_law_actions", "_law_width"]) (ps := ["_law_stream_here", "_law_widths", "_law_actions"]) false F sc__law_rule fun cdv A outer s H E hr => by
    have sc := sc__law_rule
    have tk : Takes (cxOf (L2.CX P w) P w K mg base ["_law_stream_here", "_law_widths", "_law_actions", "_law_width"] "_law_rule" (defScope s__law_rule) f cdv A outer s H E) (fun c d _ H' => E c d H') := takes_of rfl rfl rfl rfl
    have ps : PassesOwn (model P w) _ _ _ := passes_of (X := cxOf (L2.CX P w) P w K mg base ["_law_stream_here", "_law_widths", "_law_actions", "_law_width"] "_law_rule" (defScope s__law_rule) f cdv A outer s H E) rfl
    show DSs _ _ (defBody s__law_rule) b__law_rule
    exact (dss_one (ds_ret (de_tup (da_cons (de_call c__law_next (hr.mono (by decide)) tk (da_cons (de_var 0) (da_cons (de_var 2) da_nil))) (da_cons (de_callTy call_tupleX hd_tuple z.tuple bt_tuple (da_cons (de_fz (df_lc [("_law_width", 3)] rfl sc.nd (di_val (de_var 1)) (blkOk_by (by kernel_rfl)) (fun _ _ _ _ _ => (dg_name 3 sc.nd)) (fun _ _ _ _ _ => dts_nil) (fun _ _ _ _ _ => (de_call c__law_range (hr.mono (by decide)) takes0 (da_cons (de_var 0) (da_cons (de_var 3) da_nil)))))) da_nil)) da_nil)))))⟩
abbrev s__law_list : Stmt := topS 33
theorem sc__law_list : FnScope ["_law_stream_here", "_law_fields", "_law_wide", "_law_many", "_law_widths", "_law_actions", "_law_rules", "_law_turn"] ["_law_stream_here", "_law_fields", "_law_wide", "_law_many"] (defScope s__law_list) := ⟨rfl, rfl, rfl, by decide +kernel, rfl, by decide +kernel, by decide +kernel⟩
theorem ok__law_list {x0 : Str} {f : Addr} {fd : FuncData} (z : Bi mg) (c__law_next : Fn P w K mg base "_law_next" ["_law_stream_here", "_law_many"] 1 m__law_next) (c__law_rule : Fn P w K mg base "_law_rule" ["_law_stream_here", "_law_widths", "_law_actions"] 3 m__law_rule) (F : Fun K "_law_list" "_law_list" s__law_list f fd) (hm : mg x0 = some (.ref f)) (hb : Binds K fd ["_law_stream_here", "_law_fields", "_law_wide", "_law_many"] []) : Fn P w K mg base x0 ["_law_stream_here", "_law_fields", "_law_wide", "_law_many"] 4 m__law_list :=
  ⟨f, fd, hm, F.kp, hb, ok_def (N := ["_law_stream_here", "_law_fields", "_law_wide", "_law_many", "_law_widths", "_law_actions", "_law_rules", "_law_turn"]) (ps := ["_law_stream_here", "_law_fields", "_law_wide", "_law_many"]) false F sc__law_list fun cdv A outer s H E hr => by
    have sc := sc__law_list
    have tk : Takes (cxOf (L2.CX P w) P w K mg base ["_law_stream_here", "_law_fields", "_law_wide", "_law_many", "_law_widths", "_law_actions", "_law_rules", "_law_turn"] "_law_list" (defScope s__law_list) f cdv A outer s H E) (fun c d _ H' => E c d H') := takes_of rfl rfl rfl rfl
    have ps : PassesOwn (model P w) _ _ _ := passes_of (X := cxOf (L2.CX P w) P w K mg base ["_law_stream_here", "_law_fields", "_law_wide", "_law_many", "_law_widths", "_law_actions", "_law_rules", "_law_turn"] "_law_list" (defScope s__law_list) f cdv A outer s H E) rfl
    show DSs _ _ (defBody s__law_list) b__law_list
    exact (dss_cons (ds_set 4 sc.nd (de_callTy call_tupleX hd_tuple z.tuple bt_tuple (da_cons (de_fz (df_lc [("_law_turn", 7)] rfl sc.nd (di_rng1 z.range (de_op ho_add hd_add de_int (de_call c__law_next (hr.mono (by decide)) tk (da_cons (de_var 0) (da_cons (de_var 1) da_nil))))) (blkOk_by (by kernel_rfl)) (fun _ _ _ _ _ => (dg_name 7 sc.nd)) (fun _ _ _ _ _ => dts_nil) (fun _ _ _ _ _ => (de_op ho_add hd_add de_int (de_call c__law_next (hr.mono (by decide)) takes0 (da_cons (de_var 0) (da_cons (de_var 2) da_nil))))))) da_nil))) (dss_cons (ds_set 5 sc.nd (de_op ho_add hd_add de_int (de_call c__law_next (hr.mono (by decide)) tk (da_cons (de_var 0) (da_cons de_int da_nil))))) (dss_cons (ds_set 6 sc.nd (de_callTy call_tupleX hd_tuple z.tuple bt_tuple (da_cons (de_fz (df_lc [("_law_turn", 7)] rfl sc.nd (di_rng1 z.range (de_call c__law_next (hr.mono (by decide)) tk (da_cons (de_var 0) (da_cons (de_op ho_add hd_add (de_var 3) de_int) da_nil)))) (blkOk_by (by kernel_rfl)) (fun _ _ _ _ _ => (dg_name 7 sc.nd)) (fun _ _ _ _ _ => dts_nil) (fun _ _ _ _ _ => (de_call c__law_rule (hr.mono (by decide)) takes0 (da_cons (de_var 0) (da_cons (de_var 4) (da_cons (de_var 5) da_nil))))))) da_nil))) (dss_one (ds_ret (de_tup (da_cons (de_var 4) (da_cons (de_var 6) (da_cons (de_call c__law_next (hr.mono (by decide)) tk (da_cons (de_var 0) (da_cons (de_var 5) da_nil))) da_nil)))))))))⟩
abbrev s__law_cases : Stmt := topS 34
theorem sc__law_cases : FnScope ["_law_widths", "_law_rows", "_law_width", "_law_longer", "_law_row", "_law_value"] ["_law_widths"] (defScope s__law_cases) := ⟨rfl, rfl, rfl, by decide +kernel, rfl, by decide +kernel, by decide +kernel⟩
theorem ok__law_cases {x0 : Str} {f : Addr} {fd : FuncData} (z : Bi mg) (F : Fun K "_law_cases" "_law_cases" s__law_cases f fd) (hm : mg x0 = some (.ref f)) (hb : Binds K fd ["_law_widths"] []) : Fn P w K mg base x0 ["_law_widths"] 1 m__law_cases :=
  ⟨f, fd, hm, F.kp, hb, ok_def (N := ["_law_widths", "_law_rows", "_law_width", "_law_longer", "_law_row", "_law_value"]) (ps := ["_law_widths"]) false F sc__law_cases fun cdv A outer s H E hr => by
    have sc := sc__law_cases
    have tk : Takes (cxOf (L2.CX P w) P w K mg base ["_law_widths", "_law_rows", "_law_width", "_law_longer", "_law_row", "_law_value"] "_law_cases" (defScope s__law_cases) f cdv A outer s H E) (fun c d _ H' => E c d H') := takes_of rfl rfl rfl rfl
    have ps : PassesOwn (model P w) _ _ _ := passes_of (X := cxOf (L2.CX P w) P w K mg base ["_law_widths", "_law_rows", "_law_width", "_law_longer", "_law_row", "_law_value"] "_law_cases" (defScope s__law_cases) f cdv A outer s H E) rfl
    show DSs _ _ (defBody s__law_cases) b__law_cases
    exact (dss_cons (ds_set 1 sc.nd (de_fz (df_lst (da_cons (de_tup da_nil) da_nil)))) (dss_cons (ds_for ps rfl (di_val (de_var 0)) (dg_name 2 sc.nd) (dss_cons (ds_set 3 sc.nd (de_fz (df_lst da_nil))) (dss_cons (ds_for ps rfl (di_val (de_var 1)) (dg_name 4 sc.nd) (dss_one (ds_set 3 sc.nd (de_op ho_add hd_add (de_var 3) (de_fz (df_lc [("_law_value", 5)] rfl sc.nd (di_rng1 z.range (de_var 2)) (blkOk_by (by kernel_rfl)) (fun _ _ _ _ _ => (dg_name 5 sc.nd)) (fun _ _ _ _ _ => dts_nil) (fun _ _ _ _ _ => (de_op ho_add hd_add (de_var 4) (de_tup (da_cons (de_var 5) da_nil)))))))))) (dss_one (ds_set 1 sc.nd (de_var 3)))))) (dss_one (ds_ret (de_var 1)))))⟩
abbrev s__law_matches : Stmt := topS 35
theorem sc__law_matches : FnScope ["_law_rule_here", "_law_case", "_law_at"] ["_law_rule_here", "_law_case"] (defScope s__law_matches) := ⟨rfl, rfl, rfl, by decide +kernel, rfl, by decide +kernel, by decide +kernel⟩
theorem ok__law_matches {x0 : Str} {f : Addr} {fd : FuncData} (z : Bi mg) (F : Fun K "_law_matches" "_law_matches" s__law_matches f fd) (hm : mg x0 = some (.ref f)) (hb : Binds K fd ["_law_rule_here", "_law_case"] []) : Fn P w K mg base x0 ["_law_rule_here", "_law_case"] 1 m__law_matches :=
  ⟨f, fd, hm, F.kp, hb, ok_def (N := ["_law_rule_here", "_law_case", "_law_at"]) (ps := ["_law_rule_here", "_law_case"]) false F sc__law_matches fun cdv A outer s H E hr => by
    have sc := sc__law_matches
    have tk : Takes (cxOf (L2.CX P w) P w K mg base ["_law_rule_here", "_law_case", "_law_at"] "_law_matches" (defScope s__law_matches) f cdv A outer s H E) (fun c d _ H' => E c d H') := takes_of rfl rfl rfl rfl
    have ps : PassesOwn (model P w) _ _ _ := passes_of (X := cxOf (L2.CX P w) P w K mg base ["_law_rule_here", "_law_case", "_law_at"] "_law_matches" (defScope s__law_matches) f cdv A outer s H E) rfl
    show DSs _ _ (defBody s__law_matches) b__law_matches
    exact (dss_one (ds_ret (de_callB (cr_all rfl) hd_all z.all bt_all (da_cons (de_fz (df_lc [("_law_at", 2)] rfl sc.nd (di_rng1 z.range (de_callB hc_len hd_len z.len bt_len (da_cons (de_var 1) da_nil))) (blkOk_by (by kernel_rfl)) (fun _ _ _ _ _ => (dg_name 2 sc.nd)) (fun _ _ _ _ _ => dts_nil) (fun _ _ _ _ _ => (de_chain op_le op_le hd_C hd_C (de_ix (de_ix (de_ix (de_var 0) de_int) (de_var 2)) de_int) (de_ix (de_var 1) (de_var 2)) (de_ix (de_ix (de_ix (de_var 0) de_int) (de_var 2)) de_int))))) da_nil))))⟩
abbrev s__law_decided : Stmt := topS 36
theorem sc__law_decided : FnScope ["_law_listed", "_law_row", "_law_case", "_law_number"] ["_law_listed", "_law_row", "_law_case"] (defScope s__law_decided) := ⟨rfl, rfl, rfl, by decide +kernel, rfl, by decide +kernel, by decide +kernel⟩
theorem ok__law_decided {x0 : Str} {f : Addr} {fd : FuncData} (z : Bi mg) (c__law_matches : Fn P w K mg base "_law_matches" ["_law_rule_here", "_law_case"] 1 m__law_matches) (F : Fun K "_law_decided" "_law_decided" s__law_decided f fd) (hm : mg x0 = some (.ref f)) (hb : Binds K fd ["_law_listed", "_law_row", "_law_case"] []) : Fn P w K mg base x0 ["_law_listed", "_law_row", "_law_case"] 2 m__law_decided :=
  ⟨f, fd, hm, F.kp, hb, ok_def (N := ["_law_listed", "_law_row", "_law_case", "_law_number"]) (ps := ["_law_listed", "_law_row", "_law_case"]) false F sc__law_decided fun cdv A outer s H E hr => by
    have sc := sc__law_decided
    have tk : Takes (cxOf (L2.CX P w) P w K mg base ["_law_listed", "_law_row", "_law_case", "_law_number"] "_law_decided" (defScope s__law_decided) f cdv A outer s H E) (fun c d _ H' => E c d H') := takes_of rfl rfl rfl rfl
    have ps : PassesOwn (model P w) _ _ _ := passes_of (X := cxOf (L2.CX P w) P w K mg base ["_law_listed", "_law_row", "_law_case", "_law_number"] "_law_decided" (defScope s__law_decided) f cdv A outer s H E) rfl
    show DSs _ _ (defBody s__law_decided) b__law_decided
    exact (dss_cons (ds_for ps rfl (di_val (de_var 1)) (dg_name 3 sc.nd) (dss_one (ds_if (dt_truth (de_call c__law_matches (hr.mono (by decide)) tk (da_cons (de_ix (de_ix (de_var 0) de_int) (de_var 3)) (da_cons (de_var 2) da_nil)))) (dss_one (ds_ret (de_tup (da_cons (de_ix (de_ix (de_ix (de_var 0) de_int) (de_var 3)) de_int) (da_cons (de_var 3) da_nil))))) dss_nil))) (dss_one (ds_ret (de_tup (da_cons (de_ix (de_var 0) de_int) (da_cons de_non da_nil))))))⟩
abbrev s__law_ascending : Stmt := topS 37
theorem sc__law_ascending : FnScope ["_law_listed"] ["_law_listed"] (defScope s__law_ascending) := ⟨rfl, rfl, rfl, by decide +kernel, rfl, by decide +kernel, by decide +kernel⟩
theorem ok__law_ascending {x0 : Str} {f : Addr} {fd : FuncData} (z : Bi mg) (F : Fun K "_law_ascending" "_law_ascending" s__law_ascending f fd) (hm : mg x0 = some (.ref f)) (hb : Binds K fd ["_law_listed"] []) : Fn P w K mg base x0 ["_law_listed"] 1 m__law_ascending :=
  ⟨f, fd, hm, F.kp, hb, ok_def (N := ["_law_listed"]) (ps := ["_law_listed"]) false F sc__law_ascending fun cdv A outer s H E hr => by
    have sc := sc__law_ascending
    have tk : Takes (cxOf (L2.CX P w) P w K mg base ["_law_listed"] "_law_ascending" (defScope s__law_ascending) f cdv A outer s H E) (fun c d _ H' => E c d H') := takes_of rfl rfl rfl rfl
    have ps : PassesOwn (model P w) _ _ _ := passes_of (X := cxOf (L2.CX P w) P w K mg base ["_law_listed"] "_law_ascending" (defScope s__law_ascending) f cdv A outer s H E) rfl
    show DSs _ _ (defBody s__law_ascending) b__law_ascending
    exact (dss_one (ds_ret (de_tupRg rfl z.tuple (dr_1 z.range (de_callB hc_len hd_len z.len bt_len (da_cons (de_ix (de_var 0) de_int) da_nil))))))⟩
abbrev s__law_decision : Stmt := topS 38
theorem sc__law_decision : FnScope ["_law_listed", "_law_case"] ["_law_listed", "_law_case"] (defScope s__law_decision) := ⟨rfl, rfl, rfl, by decide +kernel, rfl, by decide +kernel, by decide +kernel⟩
theorem ok__law_decision {x0 : Str} {f : Addr} {fd : FuncData} (z : Bi mg) (c__law_ascending : Fn P w K mg base "_law_ascending" ["_law_listed"] 1 m__law_ascending) (c__law_decided : Fn P w K mg base "_law_decided" ["_law_listed", "_law_row", "_law_case"] 2 m__law_decided) (F : Fun K "_law_decision" "_law_decision" s__law_decision f fd) (hm : mg x0 = some (.ref f)) (hb : Binds K fd ["_law_listed", "_law_case"] []) : Fn P w K mg base x0 ["_law_listed", "_law_case"] 3 m__law_decision :=
  ⟨f, fd, hm, F.kp, hb, ok_def (N := ["_law_listed", "_law_case"]) (ps := ["_law_listed", "_law_case"]) false F sc__law_decision fun cdv A outer s H E hr => by
    have sc := sc__law_decision
    have tk : Takes (cxOf (L2.CX P w) P w K mg base ["_law_listed", "_law_case"] "_law_decision" (defScope s__law_decision) f cdv A outer s H E) (fun c d _ H' => E c d H') := takes_of rfl rfl rfl rfl
    have ps : PassesOwn (model P w) _ _ _ := passes_of (X := cxOf (L2.CX P w) P w K mg base ["_law_listed", "_law_case"] "_law_decision" (defScope s__law_decision) f cdv A outer s H E) rfl
    show DSs _ _ (defBody s__law_decision) b__law_decision
    exact (dss_one (ds_ret (de_ix (de_call c__law_decided (hr.mono (by decide)) tk (da_cons (de_var 0) (da_cons (de_call c__law_ascending (hr.mono (by decide)) tk (da_cons (de_var 0) da_nil)) (da_cons (de_var 1) da_nil)))) de_int)))⟩
abbrev s__law_matching : Stmt := topS 39
theorem sc__law_matching : FnScope ["_law_listed", "_law_case", "_law_number"] ["_law_listed", "_law_case"] (defScope s__law_matching) := ⟨rfl, rfl, rfl, by decide +kernel, rfl, by decide +kernel, by decide +kernel⟩
theorem ok__law_matching {x0 : Str} {f : Addr} {fd : FuncData} (z : Bi mg) (c__law_matches : Fn P w K mg base "_law_matches" ["_law_rule_here", "_law_case"] 1 m__law_matches) (F : Fun K "_law_matching" "_law_matching" s__law_matching f fd) (hm : mg x0 = some (.ref f)) (hb : Binds K fd ["_law_listed", "_law_case"] []) : Fn P w K mg base x0 ["_law_listed", "_law_case"] 2 m__law_matching :=
  ⟨f, fd, hm, F.kp, hb, ok_def (N := ["_law_listed", "_law_case", "_law_number"]) (ps := ["_law_listed", "_law_case"]) false F sc__law_matching fun cdv A outer s H E hr => by
    have sc := sc__law_matching
    have tk : Takes (cxOf (L2.CX P w) P w K mg base ["_law_listed", "_law_case", "_law_number"] "_law_matching" (defScope s__law_matching) f cdv A outer s H E) (fun c d _ H' => E c d H') := takes_of rfl rfl rfl rfl
    have ps : PassesOwn (model P w) _ _ _ := passes_of (X := cxOf (L2.CX P w) P w K mg base ["_law_listed", "_law_case", "_law_number"] "_law_matching" (defScope s__law_matching) f cdv A outer s H E) rfl
    show DSs _ _ (defBody s__law_matching) b__law_matching
    exact (dss_one (ds_ret (de_callTy call_tupleX hd_tuple z.tuple bt_tuple (da_cons (de_fz (df_lc [("_law_number", 2)] rfl sc.nd (di_rng1 z.range (de_callB hc_len hd_len z.len bt_len (da_cons (de_ix (de_var 0) de_int) da_nil))) (blkOk_by (by kernel_rfl)) (fun _ _ _ _ _ => (dg_name 2 sc.nd)) (fun _ _ _ _ _ => (dts_one (dt_truth (de_call c__law_matches (hr.mono (by decide)) takes0 (da_cons (de_ix (de_ix (de_var 0) de_int) (de_var 2)) (da_cons (de_var 1) da_nil)))))) (fun _ _ _ _ _ => (de_var 2)))) da_nil))))⟩
abbrev s__law_alike : Stmt := topS 40
theorem sc__law_alike : FnScope ["_law_listed", "_law_short", "_law_case"] ["_law_listed", "_law_short"] (defScope s__law_alike) := ⟨rfl, rfl, rfl, by decide +kernel, rfl, by decide +kernel, by decide +kernel⟩
theorem ok__law_alike {x0 : Str} {f : Addr} {fd : FuncData} (z : Bi mg) (c__law_cases : Fn P w K mg base "_law_cases" ["_law_widths"] 1 m__law_cases) (c__law_decided : Fn P w K mg base "_law_decided" ["_law_listed", "_law_row", "_law_case"] 2 m__law_decided) (c__law_decision : Fn P w K mg base "_law_decision" ["_law_listed", "_law_case"] 3 m__law_decision) (F : Fun K "_law_alike" "_law_alike" s__law_alike f fd) (hm : mg x0 = some (.ref f)) (hb : Binds K fd ["_law_listed", "_law_short"] []) : Fn P w K mg base x0 ["_law_listed", "_law_short"] 4 m__law_alike :=
  ⟨f, fd, hm, F.kp, hb, ok_def (N := ["_law_listed", "_law_short", "_law_case"]) (ps := ["_law_listed", "_law_short"]) false F sc__law_alike fun cdv A outer s H E hr => by
    have sc := sc__law_alike
    have tk : Takes (cxOf (L2.CX P w) P w K mg base ["_law_listed", "_law_short", "_law_case"] "_law_alike" (defScope s__law_alike) f cdv A outer s H E) (fun c d _ H' => E c d H') := takes_of rfl rfl rfl rfl
    have ps : PassesOwn (model P w) _ _ _ := passes_of (X := cxOf (L2.CX P w) P w K mg base ["_law_listed", "_law_short", "_law_case"] "_law_alike" (defScope s__law_alike) f cdv A outer s H E) rfl
    show DSs _ _ (defBody s__law_alike) b__law_alike
    exact (dss_one (ds_ret (de_callB (cr_all rfl) hd_all z.all bt_all (da_cons (de_fz (df_lc [("_law_case", 2)] rfl sc.nd (di_val (de_call c__law_cases (hr.mono (by decide)) tk (da_cons (de_ix (de_var 0) de_int) da_nil))) (blkOk_by (by kernel_rfl)) (fun _ _ _ _ _ => (dg_name 2 sc.nd)) (fun _ _ _ _ _ => dts_nil) (fun _ _ _ _ _ => (de_cmp (ho_eqR hr) hd_eq (de_ix (de_call c__law_decided (hr.mono (by decide)) takes0 (da_cons (de_var 0) (da_cons (de_var 1) (da_cons (de_var 2) da_nil)))) de_int) (de_call c__law_decision (hr.mono (by decide)) takes0 (da_cons (de_var 0) (da_cons (de_var 2) da_nil))))))) da_nil))))⟩
abbrev s__law_short_rows : Stmt := topS 41
theorem sc__law_short_rows : FnScope ["_law_many", "_law_rows", "_law_found", "_law_turn", "_law_longer", "_law_row", "_law_number"] ["_law_many"] (defScope s__law_short_rows) := ⟨rfl, rfl, rfl, by decide +kernel, rfl, by decide +kernel, by decide +kernel⟩
theorem ok__law_short_rows {x0 : Str} {f : Addr} {fd : FuncData} (z : Bi mg) (F : Fun K "_law_short_rows" "_law_short_rows" s__law_short_rows f fd) (hm : mg x0 = some (.ref f)) (hb : Binds K fd ["_law_many"] []) : Fn P w K mg base x0 ["_law_many"] 1 m__law_short_rows :=
  ⟨f, fd, hm, F.kp, hb, ok_def (N := ["_law_many", "_law_rows", "_law_found", "_law_turn", "_law_longer", "_law_row", "_law_number"]) (ps := ["_law_many"]) false F sc__law_short_rows fun cdv A outer s H E hr => by
    have sc := sc__law_short_rows
    have tk : Takes (cxOf (L2.CX P w) P w K mg base ["_law_many", "_law_rows", "_law_found", "_law_turn", "_law_longer", "_law_row", "_law_number"] "_law_short_rows" (defScope s__law_short_rows) f cdv A outer s H E) (fun c d _ H' => E c d H') := takes_of rfl rfl rfl rfl
    have ps : PassesOwn (model P w) _ _ _ := passes_of (X := cxOf (L2.CX P w) P w K mg base ["_law_many", "_law_rows", "_law_found", "_law_turn", "_law_longer", "_law_row", "_law_number"] "_law_short_rows" (defScope s__law_short_rows) f cdv A outer s H E) rfl
    show DSs _ _ (defBody s__law_short_rows) b__law_short_rows
    exact (dss_cons (ds_set 1 sc.nd (de_fz (df_lst (da_cons (de_tup da_nil) da_nil)))) (dss_cons (ds_set 2 sc.nd (de_fz (df_lst (da_cons (de_tup da_nil) da_nil)))) (dss_cons (ds_for ps rfl (di_rng1 z.range (de_var 0)) (dg_name 3 sc.nd) (dss_cons (ds_set 4 sc.nd (de_fz (df_lst da_nil))) (dss_cons (ds_for ps rfl (di_val (de_var 1)) (dg_name 5 sc.nd) (dss_one (ds_set 4 sc.nd (de_op ho_add hd_add (de_var 4) (de_fz (df_lc [("_law_number", 6)] rfl sc.nd (di_rng1 z.range (de_var 0)) (blkOk_by (by kernel_rfl)) (fun _ _ _ _ _ => (dg_name 6 sc.nd)) (fun _ _ _ _ _ => (dts_one (dt_cmp (ho_notinR hr) hd_notin (de_var 6) (de_var 5) (by with_unfolding_all rfl)))) (fun _ _ _ _ _ => (de_op ho_add hd_add (de_var 5) (de_tup (da_cons (de_var 6) da_nil)))))))))) (dss_cons (ds_set 1 sc.nd (de_var 4)) (dss_one (ds_set 2 sc.nd (de_op ho_add hd_add (de_var 2) (de_var 1)))))))) (dss_one (ds_ret (de_var 2))))))⟩
abbrev s_law : Stmt := topS 42
theorem sc_law : FnScope ["_law_script", "_law_stream_here", "_law_listed", "_law_a", "_law_b", "_law_c", "_law_cases_here", "_law_kinds", "_law_case", "_law_found", "_law_short", "_law_told", "_law_matching_here", "_law_first", "_law_number", "_law_at"] ["_law_script"] (defScope s_law) := ⟨rfl, rfl, rfl, by decide +kernel, rfl, by decide +kernel, by decide +kernel⟩
theorem ok_law {f : Addr} {fd : FuncData} (z : Bi mg) (c__law_alike : Fn P w K mg base "_law_alike" ["_law_listed", "_law_short"] 4 m__law_alike) (c__law_cases : Fn P w K mg base "_law_cases" ["_law_widths"] 1 m__law_cases) (c__law_decision : Fn P w K mg base "_law_decision" ["_law_listed", "_law_case"] 3 m__law_decision) (c__law_equal : Fn P w K mg base "_law_equal" ["_law_actual", "_law_due"] 18 m__law_equal) (c__law_list : Fn P w K mg base "_law_list" ["_law_stream_here", "_law_fields", "_law_wide", "_law_many"] 4 m__law_list) (c__law_matching : Fn P w K mg base "_law_matching" ["_law_listed", "_law_case"] 2 m__law_matching) (c__law_next : Fn P w K mg base "_law_next" ["_law_stream_here", "_law_many"] 1 m__law_next) (c__law_short_rows : Fn P w K mg base "_law_short_rows" ["_law_many"] 1 m__law_short_rows) (c__law_stream : Fn P w K mg base "_law_stream" ["_law_script"] 1 m__law_stream) (c_shortest_row : Fn P w K mg base "shortest_row" ["listed"] 6 m_shortest_row) (c_smallest_set : Fn P w K mg base "smallest_set" ["listed"] 6 m_smallest_set) (F : Fun K "law" "law" s_law f fd) : FnOk P w K mg base (L2.CX P w) 19 f fd ["_law_script"] (spOf ⟨K, mg⟩ m_law) :=
  ok_def (N := ["_law_script", "_law_stream_here", "_law_listed", "_law_a", "_law_b", "_law_c", "_law_cases_here", "_law_kinds", "_law_case", "_law_found", "_law_short", "_law_told", "_law_matching_here", "_law_first", "_law_number", "_law_at"]) (ps := ["_law_script"]) false F sc_law fun cdv A outer s H E hr => by
    have sc := sc_law
    have tk : Takes (cxOf (L2.CX P w) P w K mg base ["_law_script", "_law_stream_here", "_law_listed", "_law_a", "_law_b", "_law_c", "_law_cases_here", "_law_kinds", "_law_case", "_law_found", "_law_short", "_law_told", "_law_matching_here", "_law_first", "_law_number", "_law_at"] "law" (defScope s_law) f cdv A outer s H E) (fun c d _ H' => E c d H') := takes_of rfl rfl rfl rfl
    have ps : PassesOwn (model P w) _ _ _ := passes_of (X := cxOf (L2.CX P w) P w K mg base ["_law_script", "_law_stream_here", "_law_listed", "_law_a", "_law_b", "_law_c", "_law_cases_here", "_law_kinds", "_law_case", "_law_found", "_law_short", "_law_told", "_law_matching_here", "_law_first", "_law_number", "_law_at"] "law" (defScope s_law) f cdv A outer s H E) rfl
    show DSs _ _ (defBody s_law) b_law
    exact (dss_cons (ds_set 1 sc.nd (de_call c__law_stream (hr.mono (by decide)) tk (da_cons (de_var 0) da_nil))) (dss_cons (ds_set 2 sc.nd (de_call c__law_list (hr.mono (by decide)) tk (da_cons (de_var 1) (da_cons de_int (da_cons de_int (da_cons de_int da_nil)))))) (dss_cons (ds_if (dt_cmp (ho_eqR hr) hd_eq (de_call c__law_next (hr.mono (by decide)) tk (da_cons (de_var 1) (da_cons de_int da_nil))) de_int) (dss_cons (ds_asg (de_ix (de_fz (df_lst (da_cons (de_tup (da_cons de_int (da_cons de_int (da_cons de_int da_nil)))) (da_cons (de_tup (da_cons de_int (da_cons de_int (da_cons de_int da_nil)))) (da_cons (de_tup (da_cons de_int (da_cons de_int (da_cons de_int da_nil)))) (da_cons (de_tup (da_cons de_int (da_cons de_int (da_cons de_int da_nil)))) (da_cons (de_tup (da_cons de_int (da_cons de_int (da_cons de_int da_nil)))) (da_cons (de_tup (da_cons de_int (da_cons de_int (da_cons de_int da_nil)))) da_nil)))))))) (de_call c__law_next (hr.mono (by decide)) tk (da_cons (de_var 1) (da_cons de_int da_nil)))) (dg_tup rfl (dgs_cons (dg_name 3 sc.nd) (dgs_cons (dg_name 4 sc.nd) (dgs_cons (dg_name 5 sc.nd) dgs_nil))))) (dss_one (ds_set 2 sc.nd (de_tup (da_cons (de_tup (da_cons de_int da_nil)) (da_cons (de_tup (da_cons (de_tup (da_cons (de_var 3) (da_cons (de_tup (da_cons (de_tup (da_cons de_int (da_cons de_int da_nil))) da_nil)) da_nil))) (da_cons (de_tup (da_cons (de_var 4) (da_cons (de_tup (da_cons (de_tup (da_cons de_int (da_cons de_int da_nil))) da_nil)) da_nil))) (da_cons (de_tup (da_cons (de_var 3) (da_cons (de_tup (da_cons (de_tup (da_cons de_int (da_cons de_int da_nil))) da_nil)) da_nil))) da_nil)))) (da_cons (de_var 5) da_nil))))))) dss_nil) (dss_cons (ds_set 6 sc.nd (de_call c__law_cases (hr.mono (by decide)) tk (da_cons (de_ix (de_var 2) de_int) da_nil))) (dss_cons (ds_set 7 sc.nd de_newD) (dss_cons (ds_for ps rfl (di_val (de_var 6)) (dg_name 8 sc.nd) (dss_one (ds_subN hr (de_call c__law_decision (hr.mono (by decide)) tk (da_cons (de_var 2) (da_cons (de_var 8) da_nil))) (de_var 7) (de_call c__law_matching (hr.mono (by decide)) tk (da_cons (de_var 2) (da_cons (de_var 8) da_nil)))))) (dss_cons (ds_set 9 sc.nd (de_al (df_lst da_nil))) (dss_cons (ds_for ps rfl (di_val (de_call c__law_short_rows (hr.mono (by decide)) tk (da_cons (de_callB hc_len hd_len z.len bt_len (da_cons (de_ix (de_var 2) de_int) da_nil)) da_nil))) (dg_name 10 sc.nd) (dss_cons (ds_set 11 sc.nd de_bl) (dss_cons (ds_lock 7 (ds_for ps rfl (di_keysN (de_var 7)) (dg_name 12 sc.nd) (dss_cons (ds_set 13 sc.nd (de_op ho_add hd_add (de_fz (df_lc [("_law_number", 14)] rfl sc.nd (di_val (de_var 10)) (blkOk_by (by kernel_rfl)) (fun _ _ _ _ _ => (dg_name 14 sc.nd)) (fun _ _ _ _ _ => (dts_one (dt_cmp (ho_inR hr) hd_in (de_var 14) (de_var 12) (by with_unfolding_all rfl)))) (fun _ _ _ _ _ => (de_ix (de_ix (de_ix (de_var 2) de_int) (de_var 14)) de_int)))) (de_fz (df_lst (da_cons (de_ix (de_var 2) de_int) da_nil))))) (dss_one (ds_set 11 sc.nd (de_and (de_var 11) (de_one (de_cmp (ho_eqR hr) hd_eq (de_ix (de_var 13) de_int) (de_ixN hr (de_var 7) (de_var 12)))))))))) (dss_one (ds_if (dt_truth (de_var 11)) (dss_one (ds_expr (de_met PySem.F.slot_list_append PySem.F.type_list_append mt_append hd_append (de_var 9) (da_cons (de_var 10) da_nil)))) dss_nil))))) (dss_cons (ds_set 11 sc.nd (de_call c_shortest_row (hr.mono (by decide)) tk (da_cons (de_var 2) da_nil))) (dss_cons (ds_if (dt_w (dw_or (dt_not (dt_truth (de_call c__law_equal (hr.mono (by decide)) tk (da_cons (de_var 11) (da_cons (de_ix (de_var 9) de_int) da_nil))))) (dw_or1 (dt_cmp op_gt hd_C (de_callB hc_len hd_len z.len bt_len (da_cons (de_var 11) da_nil)) (de_callB hc_len hd_len z.len bt_len (da_cons (de_call c_smallest_set (hr.mono (by decide)) tk (da_cons (de_var 2) da_nil)) da_nil)))))) (dss_one (ds_ret de_bl)) dss_nil) (dss_one (ds_ret (de_not (de_callB (cr_any rfl) hd_any z.any bt_any (da_cons (de_fz (df_lc [("_law_at", 15)] rfl sc.nd (di_rng1 z.range (de_callB hc_len hd_len z.len bt_len (da_cons (de_var 11) da_nil))) (blkOk_by (by kernel_rfl)) (fun _ _ _ _ _ => (dg_name 15 sc.nd)) (fun _ _ _ _ _ => dts_nil) (fun _ _ _ _ _ => (de_call c__law_alike (hr.mono (by decide)) takes0 (da_cons (de_var 2) (da_cons (de_op ho_add hd_add (de_sl (de_var 11) dp_no (dp_some (de_var 15))) (de_sl (de_var 11) (dp_some (de_op ho_add hd_add (de_var 15) de_int)) dp_no)) da_nil)))))) da_nil)))))))))))))))
end
theorem all_mk {P : Program} {w : World} {K : PySem.W.Frag} {h : Heap} {mg : Str → Option Value} {fa : Addr} (X : K.In h) (G : h.Ns mainGlobals mg) (hfa : mg "law" = some (.ref fa))
    {f0 : Addr} {oc0 kV0 dc0 pm0 cd0 ct0 : Value} {od0 an0 : Option Addr} {sl0 : Array (Option Value)}
    {f1 : Addr} {oc1 kV1 dc1 pm1 cd1 ct1 : Value} {od1 an1 : Option Addr} {sl1 : Array (Option Value)}
    {f2 : Addr} {oc2 kV2 dc2 pm2 cd2 ct2 : Value} {od2 an2 : Option Addr} {sl2 : Array (Option Value)}
    {f3 : Addr} {oc3 kV3 dc3 pm3 cd3 ct3 : Value} {od3 an3 : Option Addr} {sl3 : Array (Option Value)}
    {f4 : Addr} {oc4 kV4 dc4 pm4 cd4 ct4 : Value} {od4 an4 : Option Addr} {sl4 : Array (Option Value)}
    {f5 : Addr} {oc5 kV5 dc5 pm5 cd5 ct5 : Value} {od5 an5 : Option Addr} {sl5 : Array (Option Value)}
    {f6 : Addr} {oc6 kV6 dc6 pm6 cd6 ct6 : Value} {od6 an6 : Option Addr} {sl6 : Array (Option Value)}
    {f7 : Addr} {oc7 kV7 dc7 pm7 cd7 ct7 : Value} {od7 an7 : Option Addr} {sl7 : Array (Option Value)}
    {f8 : Addr} {oc8 kV8 dc8 pm8 cd8 ct8 : Value} {od8 an8 : Option Addr} {sl8 : Array (Option Value)}
    {f9 : Addr} {oc9 kV9 dc9 pm9 cd9 ct9 : Value} {od9 an9 : Option Addr} {sl9 : Array (Option Value)}
    {f10 : Addr} {oc10 kV10 dc10 pm10 cd10 ct10 : Value} {od10 an10 : Option Addr} {sl10 : Array (Option Value)}
    {f11 : Addr} {oc11 kV11 dc11 pm11 cd11 ct11 : Value} {od11 an11 : Option Addr} {sl11 : Array (Option Value)}
    {f12 : Addr} {oc12 kV12 dc12 pm12 cd12 ct12 : Value} {od12 an12 : Option Addr} {sl12 : Array (Option Value)}
    {f13 : Addr} {oc13 kV13 dc13 pm13 cd13 ct13 : Value} {od13 an13 : Option Addr} {sl13 : Array (Option Value)}
    {f14 : Addr} {oc14 kV14 dc14 pm14 cd14 ct14 : Value} {od14 an14 : Option Addr} {sl14 : Array (Option Value)}
    {f15 : Addr} {oc15 kV15 dc15 pm15 cd15 ct15 : Value} {od15 an15 : Option Addr} {sl15 : Array (Option Value)}
    {f16 : Addr} {oc16 kV16 dc16 pm16 cd16 ct16 : Value} {od16 an16 : Option Addr} {sl16 : Array (Option Value)}
    {f17 : Addr} {oc17 kV17 dc17 pm17 cd17 ct17 : Value} {od17 an17 : Option Addr} {sl17 : Array (Option Value)}
    {f18 : Addr} {oc18 kV18 dc18 pm18 cd18 ct18 : Value} {od18 an18 : Option Addr} {sl18 : Array (Option Value)}
    {f19 : Addr} {oc19 kV19 dc19 pm19 cd19 ct19 : Value} {od19 an19 : Option Addr} {sl19 : Array (Option Value)}
    {f20 : Addr} {oc20 kV20 dc20 pm20 cd20 ct20 : Value} {od20 an20 : Option Addr} {sl20 : Array (Option Value)}
    {f21 : Addr} {oc21 kV21 dc21 pm21 cd21 ct21 : Value} {od21 an21 : Option Addr} {sl21 : Array (Option Value)}
    {f22 : Addr} {oc22 kV22 dc22 pm22 cd22 ct22 : Value} {od22 an22 : Option Addr} {sl22 : Array (Option Value)}
    {f23 : Addr} {oc23 kV23 dc23 pm23 cd23 ct23 : Value} {od23 an23 : Option Addr} {sl23 : Array (Option Value)}
    {f24 : Addr} {oc24 kV24 dc24 pm24 cd24 ct24 : Value} {od24 an24 : Option Addr} {sl24 : Array (Option Value)}
    {f25 : Addr} {oc25 kV25 dc25 pm25 cd25 ct25 : Value} {od25 an25 : Option Addr} {sl25 : Array (Option Value)}
    {f26 : Addr} {oc26 kV26 dc26 pm26 cd26 ct26 : Value} {od26 an26 : Option Addr} {sl26 : Array (Option Value)}
    {f27 : Addr} {oc27 kV27 dc27 pm27 cd27 ct27 : Value} {od27 an27 : Option Addr} {sl27 : Array (Option Value)}
    {f28 : Addr} {oc28 kV28 dc28 pm28 cd28 ct28 : Value} {od28 an28 : Option Addr} {sl28 : Array (Option Value)}
    {f29 : Addr} {oc29 kV29 dc29 pm29 cd29 ct29 : Value} {od29 an29 : Option Addr} {sl29 : Array (Option Value)}
    {f30 : Addr} {oc30 kV30 dc30 pm30 cd30 ct30 : Value} {od30 an30 : Option Addr} {sl30 : Array (Option Value)}
    (a0 : PySem.W.nsIn K mainGlobals "is_between" = some (some (.ref f0)))
    (l0 : K.lookup f0 = some ⟨oc0, od0, .func (PySem.W.fnOf "is_between" "is_between" (defArgs s_is_between) (defBody s_is_between) (defScope s_is_between) .none kV0 dc0 pm0 an0 cd0 ct0), sl0⟩)
    (d0 : PySem.W.codeIn K cd0 "is_between" = true) (k0 : PySem.W.keepIn K (.ref f0) = true)
    (a1 : PySem.W.nsIn K mainGlobals "is_widths" = some (some (.ref f1)))
    (l1 : K.lookup f1 = some ⟨oc1, od1, .func (PySem.W.fnOf "is_widths" "is_widths" (defArgs s_is_widths) (defBody s_is_widths) (defScope s_is_widths) .none kV1 dc1 pm1 an1 cd1 ct1), sl1⟩)
    (d1 : PySem.W.codeIn K cd1 "is_widths" = true) (k1 : PySem.W.keepIn K (.ref f1) = true)
    (a2 : PySem.W.nsIn K mainGlobals "is_range" = some (some (.ref f2)))
    (l2 : K.lookup f2 = some ⟨oc2, od2, .func (PySem.W.fnOf "is_range" "is_range" (defArgs s_is_range) (defBody s_is_range) (defScope s_is_range) .none kV2 dc2 pm2 an2 cd2 ct2), sl2⟩)
    (d2 : PySem.W.codeIn K cd2 "is_range" = true) (k2 : PySem.W.keepIn K (.ref f2) = true)
    (a3 : PySem.W.nsIn K mainGlobals "is_rule" = some (some (.ref f3)))
    (l3 : K.lookup f3 = some ⟨oc3, od3, .func (PySem.W.fnOf "is_rule" "is_rule" (defArgs s_is_rule) (defBody s_is_rule) (defScope s_is_rule) .none kV3 dc3 pm3 an3 cd3 ct3), sl3⟩)
    (d3 : PySem.W.codeIn K cd3 "is_rule" = true) (k3 : PySem.W.keepIn K (.ref f3) = true)
    (a4 : PySem.W.nsIn K mainGlobals "is_list" = some (some (.ref f4)))
    (l4 : K.lookup f4 = some ⟨oc4, od4, .func (PySem.W.fnOf "is_list" "is_list" (defArgs s_is_list) (defBody s_is_list) (defScope s_is_list) .none kV4 dc4 pm4 an4 cd4 ct4), sl4⟩)
    (d4 : PySem.W.codeIn K cd4 "is_list" = true) (k4 : PySem.W.keepIn K (.ref f4) = true)
    (a5 : PySem.W.nsIn K mainGlobals "cases_of" = some (some (.ref f5)))
    (l5 : K.lookup f5 = some ⟨oc5, od5, .func (PySem.W.fnOf "cases_of" "cases_of" (defArgs s_cases_of) (defBody s_cases_of) (defScope s_cases_of) .none kV5 dc5 pm5 an5 cd5 ct5), sl5⟩)
    (d5 : PySem.W.codeIn K cd5 "cases_of" = true) (k5 : PySem.W.keepIn K (.ref f5) = true)
    (a6 : PySem.W.nsIn K mainGlobals "matches_in" = some (some (.ref f6)))
    (l6 : K.lookup f6 = some ⟨oc6, od6, .func (PySem.W.fnOf "matches_in" "matches_in" (defArgs s_matches_in) (defBody s_matches_in) (defScope s_matches_in) .none kV6 dc6 pm6 an6 cd6 ct6), sl6⟩)
    (d6 : PySem.W.codeIn K cd6 "matches_in" = true) (k6 : PySem.W.keepIn K (.ref f6) = true)
    (a7 : PySem.W.nsIn K mainGlobals "check_list" = some (some (.ref f7)))
    (l7 : K.lookup f7 = some ⟨oc7, od7, .func (PySem.W.fnOf "check_list" "check_list" (defArgs s_check_list) (defBody s_check_list) (defScope s_check_list) .none kV7 dc7 pm7 an7 cd7 ct7), sl7⟩)
    (d7 : PySem.W.codeIn K cd7 "check_list" = true) (k7 : PySem.W.keepIn K (.ref f7) = true)
    (a8 : PySem.W.nsIn K mainGlobals "ascending" = some (some (.ref f8)))
    (l8 : K.lookup f8 = some ⟨oc8, od8, .func (PySem.W.fnOf "ascending" "ascending" (defArgs s_ascending) (defBody s_ascending) (defScope s_ascending) .none kV8 dc8 pm8 an8 cd8 ct8), sl8⟩)
    (d8 : PySem.W.codeIn K cd8 "ascending" = true) (k8 : PySem.W.keepIn K (.ref f8) = true)
    (a9 : PySem.W.nsIn K mainGlobals "kinds" = some (some (.ref f9)))
    (l9 : K.lookup f9 = some ⟨oc9, od9, .func (PySem.W.fnOf "kinds" "kinds" (defArgs s_kinds) (defBody s_kinds) (defScope s_kinds) .none kV9 dc9 pm9 an9 cd9 ct9), sl9⟩)
    (d9 : PySem.W.codeIn K cd9 "kinds" = true) (k9 : PySem.W.keepIn K (.ref f9) = true)
    (a10 : PySem.W.nsIn K mainGlobals "is_alike" = some (some (.ref f10)))
    (l10 : K.lookup f10 = some ⟨oc10, od10, .func (PySem.W.fnOf "is_alike" "is_alike" (defArgs s_is_alike) (defBody s_is_alike) (defScope s_is_alike) .none kV10 dc10 pm10 an10 cd10 ct10), sl10⟩)
    (d10 : PySem.W.codeIn K cd10 "is_alike" = true) (k10 : PySem.W.keepIn K (.ref f10) = true)
    (a11 : PySem.W.nsIn K mainGlobals "smallest_set" = some (some (.ref f11)))
    (l11 : K.lookup f11 = some ⟨oc11, od11, .func (PySem.W.fnOf "smallest_set" "smallest_set" (defArgs s_smallest_set) (defBody s_smallest_set) (defScope s_smallest_set) .none kV11 dc11 pm11 an11 cd11 ct11), sl11⟩)
    (d11 : PySem.W.codeIn K cd11 "smallest_set" = true) (k11 : PySem.W.keepIn K (.ref f11) = true)
    (a12 : PySem.W.nsIn K mainGlobals "is_ready" = some (some (.ref f12)))
    (l12 : K.lookup f12 = some ⟨oc12, od12, .func (PySem.W.fnOf "is_ready" "is_ready" (defArgs s_is_ready) (defBody s_is_ready) (defScope s_is_ready) .none kV12 dc12 pm12 an12 cd12 ct12), sl12⟩)
    (d12 : PySem.W.codeIn K cd12 "is_ready" = true) (k12 : PySem.W.keepIn K (.ref f12) = true)
    (a13 : PySem.W.nsIn K mainGlobals "least_row" = some (some (.ref f13)))
    (l13 : K.lookup f13 = some ⟨oc13, od13, .func (PySem.W.fnOf "least_row" "least_row" (defArgs s_least_row) (defBody s_least_row) (defScope s_least_row) .none kV13 dc13 pm13 an13 cd13 ct13), sl13⟩)
    (d13 : PySem.W.codeIn K cd13 "least_row" = true) (k13 : PySem.W.keepIn K (.ref f13) = true)
    (a14 : PySem.W.nsIn K mainGlobals "shortest_row" = some (some (.ref f14)))
    (l14 : K.lookup f14 = some ⟨oc14, od14, .func (PySem.W.fnOf "shortest_row" "shortest_row" (defArgs s_shortest_row) (defBody s_shortest_row) (defScope s_shortest_row) .none kV14 dc14 pm14 an14 cd14 ct14), sl14⟩)
    (d14 : PySem.W.codeIn K cd14 "shortest_row" = true) (k14 : PySem.W.keepIn K (.ref f14) = true)
    (a15 : PySem.W.nsIn K mainGlobals "_law_stream" = some (some (.ref f15)))
    (l15 : K.lookup f15 = some ⟨oc15, od15, .func (PySem.W.fnOf "_law_stream" "_law_stream" (defArgs s__law_stream) (defBody s__law_stream) (defScope s__law_stream) .none kV15 dc15 pm15 an15 cd15 ct15), sl15⟩)
    (d15 : PySem.W.codeIn K cd15 "_law_stream" = true) (k15 : PySem.W.keepIn K (.ref f15) = true)
    (a16 : PySem.W.nsIn K mainGlobals "_law_next" = some (some (.ref f16)))
    (l16 : K.lookup f16 = some ⟨oc16, od16, .func (PySem.W.fnOf "_law_next" "_law_next" (defArgs s__law_next) (defBody s__law_next) (defScope s__law_next) .none kV16 dc16 pm16 an16 cd16 ct16), sl16⟩)
    (d16 : PySem.W.codeIn K cd16 "_law_next" = true) (k16 : PySem.W.keepIn K (.ref f16) = true)
    (a17 : PySem.W.nsIn K mainGlobals "_law_is_integer" = some (some (.ref f17)))
    (l17 : K.lookup f17 = some ⟨oc17, od17, .func (PySem.W.fnOf "_law_is_integer" "_law_is_integer" (defArgs s__law_is_integer) (defBody s__law_is_integer) (defScope s__law_is_integer) .none kV17 dc17 pm17 an17 cd17 ct17), sl17⟩)
    (d17 : PySem.W.codeIn K cd17 "_law_is_integer" = true) (k17 : PySem.W.keepIn K (.ref f17) = true)
    (a18 : PySem.W.nsIn K mainGlobals "_law_equal" = some (some (.ref f18)))
    (l18 : K.lookup f18 = some ⟨oc18, od18, .func (PySem.W.fnOf "_law_equal" "_law_equal" (defArgs s__law_equal) (defBody s__law_equal) (defScope s__law_equal) .none kV18 dc18 pm18 an18 cd18 ct18), sl18⟩)
    (d18 : PySem.W.codeIn K cd18 "_law_equal" = true) (k18 : PySem.W.keepIn K (.ref f18) = true)
    (a19 : PySem.W.nsIn K mainGlobals "_law_range" = some (some (.ref f19)))
    (l19 : K.lookup f19 = some ⟨oc19, od19, .func (PySem.W.fnOf "_law_range" "_law_range" (defArgs s__law_range) (defBody s__law_range) (defScope s__law_range) .none kV19 dc19 pm19 an19 cd19 ct19), sl19⟩)
    (d19 : PySem.W.codeIn K cd19 "_law_range" = true) (k19 : PySem.W.keepIn K (.ref f19) = true)
    (a20 : PySem.W.nsIn K mainGlobals "_law_rule" = some (some (.ref f20)))
    (l20 : K.lookup f20 = some ⟨oc20, od20, .func (PySem.W.fnOf "_law_rule" "_law_rule" (defArgs s__law_rule) (defBody s__law_rule) (defScope s__law_rule) .none kV20 dc20 pm20 an20 cd20 ct20), sl20⟩)
    (d20 : PySem.W.codeIn K cd20 "_law_rule" = true) (k20 : PySem.W.keepIn K (.ref f20) = true)
    (a21 : PySem.W.nsIn K mainGlobals "_law_list" = some (some (.ref f21)))
    (l21 : K.lookup f21 = some ⟨oc21, od21, .func (PySem.W.fnOf "_law_list" "_law_list" (defArgs s__law_list) (defBody s__law_list) (defScope s__law_list) .none kV21 dc21 pm21 an21 cd21 ct21), sl21⟩)
    (d21 : PySem.W.codeIn K cd21 "_law_list" = true) (k21 : PySem.W.keepIn K (.ref f21) = true)
    (a22 : PySem.W.nsIn K mainGlobals "_law_cases" = some (some (.ref f22)))
    (l22 : K.lookup f22 = some ⟨oc22, od22, .func (PySem.W.fnOf "_law_cases" "_law_cases" (defArgs s__law_cases) (defBody s__law_cases) (defScope s__law_cases) .none kV22 dc22 pm22 an22 cd22 ct22), sl22⟩)
    (d22 : PySem.W.codeIn K cd22 "_law_cases" = true) (k22 : PySem.W.keepIn K (.ref f22) = true)
    (a23 : PySem.W.nsIn K mainGlobals "_law_matches" = some (some (.ref f23)))
    (l23 : K.lookup f23 = some ⟨oc23, od23, .func (PySem.W.fnOf "_law_matches" "_law_matches" (defArgs s__law_matches) (defBody s__law_matches) (defScope s__law_matches) .none kV23 dc23 pm23 an23 cd23 ct23), sl23⟩)
    (d23 : PySem.W.codeIn K cd23 "_law_matches" = true) (k23 : PySem.W.keepIn K (.ref f23) = true)
    (a24 : PySem.W.nsIn K mainGlobals "_law_decided" = some (some (.ref f24)))
    (l24 : K.lookup f24 = some ⟨oc24, od24, .func (PySem.W.fnOf "_law_decided" "_law_decided" (defArgs s__law_decided) (defBody s__law_decided) (defScope s__law_decided) .none kV24 dc24 pm24 an24 cd24 ct24), sl24⟩)
    (d24 : PySem.W.codeIn K cd24 "_law_decided" = true) (k24 : PySem.W.keepIn K (.ref f24) = true)
    (a25 : PySem.W.nsIn K mainGlobals "_law_ascending" = some (some (.ref f25)))
    (l25 : K.lookup f25 = some ⟨oc25, od25, .func (PySem.W.fnOf "_law_ascending" "_law_ascending" (defArgs s__law_ascending) (defBody s__law_ascending) (defScope s__law_ascending) .none kV25 dc25 pm25 an25 cd25 ct25), sl25⟩)
    (d25 : PySem.W.codeIn K cd25 "_law_ascending" = true) (k25 : PySem.W.keepIn K (.ref f25) = true)
    (a26 : PySem.W.nsIn K mainGlobals "_law_decision" = some (some (.ref f26)))
    (l26 : K.lookup f26 = some ⟨oc26, od26, .func (PySem.W.fnOf "_law_decision" "_law_decision" (defArgs s__law_decision) (defBody s__law_decision) (defScope s__law_decision) .none kV26 dc26 pm26 an26 cd26 ct26), sl26⟩)
    (d26 : PySem.W.codeIn K cd26 "_law_decision" = true) (k26 : PySem.W.keepIn K (.ref f26) = true)
    (a27 : PySem.W.nsIn K mainGlobals "_law_matching" = some (some (.ref f27)))
    (l27 : K.lookup f27 = some ⟨oc27, od27, .func (PySem.W.fnOf "_law_matching" "_law_matching" (defArgs s__law_matching) (defBody s__law_matching) (defScope s__law_matching) .none kV27 dc27 pm27 an27 cd27 ct27), sl27⟩)
    (d27 : PySem.W.codeIn K cd27 "_law_matching" = true) (k27 : PySem.W.keepIn K (.ref f27) = true)
    (a28 : PySem.W.nsIn K mainGlobals "_law_alike" = some (some (.ref f28)))
    (l28 : K.lookup f28 = some ⟨oc28, od28, .func (PySem.W.fnOf "_law_alike" "_law_alike" (defArgs s__law_alike) (defBody s__law_alike) (defScope s__law_alike) .none kV28 dc28 pm28 an28 cd28 ct28), sl28⟩)
    (d28 : PySem.W.codeIn K cd28 "_law_alike" = true) (k28 : PySem.W.keepIn K (.ref f28) = true)
    (a29 : PySem.W.nsIn K mainGlobals "_law_short_rows" = some (some (.ref f29)))
    (l29 : K.lookup f29 = some ⟨oc29, od29, .func (PySem.W.fnOf "_law_short_rows" "_law_short_rows" (defArgs s__law_short_rows) (defBody s__law_short_rows) (defScope s__law_short_rows) .none kV29 dc29 pm29 an29 cd29 ct29), sl29⟩)
    (d29 : PySem.W.codeIn K cd29 "_law_short_rows" = true) (k29 : PySem.W.keepIn K (.ref f29) = true)
    (a30 : PySem.W.nsIn K mainGlobals "law" = some (some (.ref f30)))
    (l30 : K.lookup f30 = some ⟨oc30, od30, .func (PySem.W.fnOf "law" "law" (defArgs s_law) (defBody s_law) (defScope s_law) .none kV30 dc30 pm30 an30 cd30 ct30), sl30⟩)
    (d30 : PySem.W.codeIn K cd30 "law" = true) (k30 : PySem.W.keepIn K (.ref f30) = true)
    {t_LAST_ACTION} (x_LAST_ACTION : PySem.W.nsIn K mainGlobals "LAST_ACTION" = some (some (.int 5 t_LAST_ACTION)))
    {t_MOST_FIELDS} (x_MOST_FIELDS : PySem.W.nsIn K mainGlobals "MOST_FIELDS" = some (some (.int 3 t_MOST_FIELDS)))
    {t_MOST_RULES} (x_MOST_RULES : PySem.W.nsIn K mainGlobals "MOST_RULES" = some (some (.int 7 t_MOST_RULES)))
    {t_MOST_WIDTH} (x_MOST_WIDTH : PySem.W.nsIn K mainGlobals "MOST_WIDTH" = some (some (.int 8 t_MOST_WIDTH)))
    (x_combinations : PySem.W.nsIn K mainGlobals "combinations" = some (some (.type "itertools.combinations")))
    {C_BadValue : Addr}
    (aC_BadValue : PySem.W.nsIn K mainGlobals "BadValue" = some (some (.ref C_BadValue)))
    (be_BadValue : PySem.W.subIn K (.ref C_BadValue) (.type "BaseException") = some true)
    (ty_BadValue : PySem.W.typeIn K (.ref C_BadValue) = some (.type "type"))
    (hd_BadValue : PySem.W.hasDictIn K C_BadValue = true)
    {nm_BadValue qq_BadValue : Str} {NN_BadValue fI_BadValue : Addr} {bs_BadValue : List Value} {sn_BadValue : List Str} {sub_BadValue : List Value} {ab_BadValue : Bool} {col_BadValue : Option Bool} {dd_BadValue : Option Addr} {m0_BadValue m1_BadValue m2_BadValue m3_BadValue m5_BadValue : Option Value} {odI_BadValue anI_BadValue : Option Addr} {slI_BadValue : Array (Option Value)} {ocI_BadValue kVI_BadValue dcI_BadValue pmI_BadValue cdI_BadValue ctI_BadValue : Value}
    {B_BadValue_RowError : Addr}
    (xL_BadValue : K.lookup C_BadValue = some (excClassObj nm_BadValue qq_BadValue C_BadValue NN_BadValue bs_BadValue [.ref B_BadValue_RowError, .type "ValueError", .type "Exception", .type "BaseException", .type "object"] true sn_BadValue sub_BadValue ab_BadValue col_BadValue dd_BadValue m0_BadValue m1_BadValue m2_BadValue m3_BadValue m5_BadValue "ValueError.__new__"))
    (sa_BadValue : PySem.W.findIn K (.ref C_BadValue) "__setattr__" = some (some (.builtin "object.__setattr__")))
    (kp_BadValue : PySem.W.keepIn K (.ref C_BadValue) = true)
    (iI_BadValue : PySem.W.findIn K (.ref C_BadValue) "__init__" = some (some (.ref fI_BadValue)))
    (tI_BadValue : PySem.W.typeIn K (.ref fI_BadValue) = some (.type "function"))
    (lI_BadValue : K.lookup fI_BadValue = some ⟨ocI_BadValue, odI_BadValue, .func (PySem.W.fnOf "__init__" "BadValue.__init__" (defArgs si_BadValue) (defBody si_BadValue) (defScope si_BadValue) .none kVI_BadValue dcI_BadValue pmI_BadValue anI_BadValue cdI_BadValue ctI_BadValue), slI_BadValue⟩)
    (cI_BadValue : PySem.W.codeIn K cdI_BadValue "BadValue.__init__" = true)
    (kI_BadValue : PySem.W.keepIn K (.ref fI_BadValue) = true)
    (no_BadValue_name : PySem.W.findIn K (.ref C_BadValue) "name" = some none)
    (z_len : PySem.W.nsIn K mainGlobals "len" = some none)
    (z_abs : PySem.W.nsIn K mainGlobals "abs" = some none)
    (z_int : PySem.W.nsIn K mainGlobals "int" = some none)
    (z_all : PySem.W.nsIn K mainGlobals "all" = some none)
    (z_any : PySem.W.nsIn K mainGlobals "any" = some none)
    (z_tuple : PySem.W.nsIn K mainGlobals "tuple" = some none)
    (z_list : PySem.W.nsIn K mainGlobals "list" = some none)
    (z_range : PySem.W.nsIn K mainGlobals "range" = some none)
    (z_sorted : PySem.W.nsIn K mainGlobals "sorted" = some none)
    (z_sum : PySem.W.nsIn K mainGlobals "sum" = some none)
    (z_max : PySem.W.nsIn K mainGlobals "max" = some none)
    (z_min : PySem.W.nsIn K mainGlobals "min" = some none)
    (z_enumerate : PySem.W.nsIn K mainGlobals "enumerate" = some none)
    (z_zip : PySem.W.nsIn K mainGlobals "zip" = some none)
    (z_isinstance : PySem.W.nsIn K mainGlobals "isinstance" = some none)
    (z_bool : PySem.W.nsIn K mainGlobals "bool" = some none)
    (z_str : PySem.W.nsIn K mainGlobals "str" = some none)
    (z_set : PySem.W.nsIn K mainGlobals "set" = some none) :
    ∃ fd : FuncData, (∀ (s : Shared) (v : Value), BindsTo s fd ⟨[v], []⟩ [("_law_script", v)]) ∧ ∀ base : Heap, K.In base → base.Ns mainGlobals mg → FnOk P w K mg base (L2.CX P w) 19 fa fd ["_law_script"] (fun vs H Q E => ∀ mg, spOf ⟨K, mg⟩ m_law vs H Q E) := by
  have e := hfa.symm.trans (PySem.W.mg_of X G a30)
  cases e
  have z : Bi mg := ⟨PySem.W.mg_none_of X G z_len, PySem.W.mg_none_of X G z_abs, PySem.W.mg_none_of X G z_int, PySem.W.mg_none_of X G z_all, PySem.W.mg_none_of X G z_any, PySem.W.mg_none_of X G z_tuple, PySem.W.mg_none_of X G z_list, PySem.W.mg_none_of X G z_range, PySem.W.mg_none_of X G z_sorted, PySem.W.mg_none_of X G z_sum, PySem.W.mg_none_of X G z_max, PySem.W.mg_none_of X G z_min, PySem.W.mg_none_of X G z_enumerate, PySem.W.mg_none_of X G z_zip, PySem.W.mg_none_of X G z_isinstance, PySem.W.mg_none_of X G z_bool, PySem.W.mg_none_of X G z_str, PySem.W.mg_none_of X G z_set⟩
  have FI_BadValue := fun_mk (st := si_BadValue) lI_BadValue cI_BadValue kI_BadValue
  have bI_BadValue := FI_BadValue.binds (ps := ["self", "name"]) fun _ _ _ _ _ _ us hl => match us, hl with | [_, _], _ => rfl
  have T_BadValue : OexC K C_BadValue := ⟨⟨_, _, _, _, _, _, _, _, _, _, _, _, _, _, _, xL_BadValue, rfl⟩, sa_BadValue, be_BadValue, ty_BadValue, kp_BadValue⟩
  have g_LAST_ACTION : ∃ t, mg "LAST_ACTION" = some (.int 5 t) := ⟨_, PySem.W.mg_of X G x_LAST_ACTION⟩
  have g_MOST_FIELDS : ∃ t, mg "MOST_FIELDS" = some (.int 3 t) := ⟨_, PySem.W.mg_of X G x_MOST_FIELDS⟩
  have g_MOST_RULES : ∃ t, mg "MOST_RULES" = some (.int 7 t) := ⟨_, PySem.W.mg_of X G x_MOST_RULES⟩
  have g_MOST_WIDTH : ∃ t, mg "MOST_WIDTH" = some (.int 8 t) := ⟨_, PySem.W.mg_of X G x_MOST_WIDTH⟩
  have g_combinations : mg "combinations" = some (.type "itertools.combinations") := PySem.W.mg_of X G x_combinations
  refine ⟨PySem.W.fnOf "law" "law" (defArgs s_law) (defBody s_law) (defScope s_law) .none kV30 dc30 pm30 an30 cd30 ct30, fun s v => .of_eq rfl, fun base _ _ => ?_⟩
  have xt : XT P w K mg base C_BadValue := { g_BadValue := PySem.W.mg_of X G aC_BadValue, r_BadValue := xc_BadValue (PySem.W.mg_of X G aC_BadValue) T_BadValue iI_BadValue tI_BadValue FI_BadValue bI_BadValue no_BadValue_name }
  have F0 := fun_mk (st := s_is_between) l0 d0 k0
  have b0 := F0.binds (ps := ["value", "low", "high"]) fun _ _ _ _ _ _ us hl => match us, hl with | [_, _, _], _ => rfl
  have c_is_between := ok_is_between (P := P) (w := w) (base := base) z F0 (PySem.W.mg_of X G a0) b0
  have F1 := fun_mk (st := s_is_widths) l1 d1 k1
  have b1 := F1.binds (ps := ["value"]) fun _ _ _ _ _ _ us hl => match us, hl with | [_], _ => rfl
  have c_is_widths := ok_is_widths (P := P) (w := w) (base := base) z g_MOST_FIELDS g_MOST_WIDTH c_is_between F1 (PySem.W.mg_of X G a1) b1
  have F2 := fun_mk (st := s_is_range) l2 d2 k2
  have b2 := F2.binds (ps := ["value", "width"]) fun _ _ _ _ _ _ us hl => match us, hl with | [_, _], _ => rfl
  have c_is_range := ok_is_range (P := P) (w := w) (base := base) z c_is_between F2 (PySem.W.mg_of X G a2) b2
  have F3 := fun_mk (st := s_is_rule) l3 d3 k3
  have b3 := F3.binds (ps := ["value", "widths"]) fun _ _ _ _ _ _ us hl => match us, hl with | [_, _], _ => rfl
  have c_is_rule := ok_is_rule (P := P) (w := w) (base := base) z g_LAST_ACTION c_is_between c_is_range F3 (PySem.W.mg_of X G a3) b3
  have F4 := fun_mk (st := s_is_list) l4 d4 k4
  have b4 := F4.binds (ps := ["value"]) fun _ _ _ _ _ _ us hl => match us, hl with | [_], _ => rfl
  have c_is_list := ok_is_list (P := P) (w := w) (base := base) z g_LAST_ACTION g_MOST_RULES c_is_between c_is_rule c_is_widths F4 (PySem.W.mg_of X G a4) b4
  have F5 := fun_mk (st := s_cases_of) l5 d5 k5
  have b5 := F5.binds (ps := ["widths"]) fun _ _ _ _ _ _ us hl => match us, hl with | [_], _ => rfl
  have c_cases_of := ok_cases_of (P := P) (w := w) (base := base) z F5 (PySem.W.mg_of X G a5) b5
  have F6 := fun_mk (st := s_matches_in) l6 d6 k6
  have b6 := F6.binds (ps := ["listed", "number", "case"]) fun _ _ _ _ _ _ us hl => match us, hl with | [_, _, _], _ => rfl
  have c_matches_in := ok_matches_in (P := P) (w := w) (base := base) z F6 (PySem.W.mg_of X G a6) b6
  have F7 := fun_mk (st := s_check_list) l7 d7 k7
  have b7 := F7.binds (ps := ["listed"]) fun _ _ _ _ _ _ us hl => match us, hl with | [_], _ => rfl
  have c_check_list := ok_check_list (P := P) (w := w) (base := base) z xt c_is_list F7 (PySem.W.mg_of X G a7) b7
  have F8 := fun_mk (st := s_ascending) l8 d8 k8
  have b8 := F8.binds (ps := ["listed"]) fun _ _ _ _ _ _ us hl => match us, hl with | [_], _ => rfl
  have c_ascending := ok_ascending (P := P) (w := w) (base := base) z F8 (PySem.W.mg_of X G a8) b8
  have F9 := fun_mk (st := s_kinds) l9 d9 k9
  have b9 := F9.binds (ps := ["listed"]) fun _ _ _ _ _ _ us hl => match us, hl with | [_], _ => rfl
  have c_kinds := ok_kinds (P := P) (w := w) (base := base) z c_ascending c_cases_of c_matches_in F9 (PySem.W.mg_of X G a9) b9
  have F10 := fun_mk (st := s_is_alike) l10 d10 k10
  have b10 := F10.binds (ps := ["listed", "found", "short"]) fun _ _ _ _ _ _ us hl => match us, hl with | [_, _, _], _ => rfl
  have c_is_alike := ok_is_alike (P := P) (w := w) (base := base) z F10 (PySem.W.mg_of X G a10) b10
  have F11 := fun_mk (st := s_smallest_set) l11 d11 k11
  have b11 := F11.binds (ps := ["listed"]) fun _ _ _ _ _ _ us hl => match us, hl with | [_], _ => rfl
  have c_smallest_set := ok_smallest_set (P := P) (w := w) (base := base) z g_combinations c_ascending c_check_list c_is_alike c_kinds F11 (PySem.W.mg_of X G a11) b11
  have F12 := fun_mk (st := s_is_ready) l12 d12 k12
  have b12 := F12.binds (ps := ["listed", "found", "chosen", "placed", "number"]) fun _ _ _ _ _ _ us hl => match us, hl with | [_, _, _, _, _], _ => rfl
  have c_is_ready := ok_is_ready (P := P) (w := w) (base := base) z F12 (PySem.W.mg_of X G a12) b12
  have F13 := fun_mk (st := s_least_row) l13 d13 k13
  have b13 := F13.binds (ps := ["listed", "found", "chosen"]) fun _ _ _ _ _ _ us hl => match us, hl with | [_, _, _], _ => rfl
  have c_least_row := ok_least_row (P := P) (w := w) (base := base) z c_is_alike c_is_ready F13 (PySem.W.mg_of X G a13) b13
  have F14 := fun_mk (st := s_shortest_row) l14 d14 k14
  have b14 := F14.binds (ps := ["listed"]) fun _ _ _ _ _ _ us hl => match us, hl with | [_], _ => rfl
  have c_shortest_row := ok_shortest_row (P := P) (w := w) (base := base) z g_combinations c_ascending c_check_list c_kinds c_least_row F14 (PySem.W.mg_of X G a14) b14
  have F15 := fun_mk (st := s__law_stream) l15 d15 k15
  have b15 := F15.binds (ps := ["_law_script"]) fun _ _ _ _ _ _ us hl => match us, hl with | [_], _ => rfl
  have c__law_stream := ok__law_stream (P := P) (w := w) (base := base) z F15 (PySem.W.mg_of X G a15) b15
  have F16 := fun_mk (st := s__law_next) l16 d16 k16
  have b16 := F16.binds (ps := ["_law_stream_here", "_law_many"]) fun _ _ _ _ _ _ us hl => match us, hl with | [_, _], _ => rfl
  have c__law_next := ok__law_next (P := P) (w := w) (base := base) z F16 (PySem.W.mg_of X G a16) b16
  have F17 := fun_mk (st := s__law_is_integer) l17 d17 k17
  have b17 := F17.binds (ps := ["_law_actual"]) fun _ _ _ _ _ _ us hl => match us, hl with | [_], _ => rfl
  have c__law_is_integer := ok__law_is_integer (P := P) (w := w) (base := base) z F17 (PySem.W.mg_of X G a17) b17
  have F18 := fun_mk (st := s__law_equal) l18 d18 k18
  have b18 := F18.binds (ps := ["_law_actual", "_law_due"]) fun _ _ _ _ _ _ us hl => match us, hl with | [_, _], _ => rfl
  have c__law_equal := ok__law_equal (P := P) (w := w) (base := base) z c__law_is_integer F18 (PySem.W.mg_of X G a18) b18 16
  have F19 := fun_mk (st := s__law_range) l19 d19 k19
  have b19 := F19.binds (ps := ["_law_stream_here", "_law_width"]) fun _ _ _ _ _ _ us hl => match us, hl with | [_, _], _ => rfl
  have c__law_range := ok__law_range (P := P) (w := w) (base := base) z c__law_next F19 (PySem.W.mg_of X G a19) b19
  have F20 := fun_mk (st := s__law_rule) l20 d20 k20
  have b20 := F20.binds (ps := ["_law_stream_here", "_law_widths", "_law_actions"]) fun _ _ _ _ _ _ us hl => match us, hl with | [_, _, _], _ => rfl
  have c__law_rule := ok__law_rule (P := P) (w := w) (base := base) z c__law_next c__law_range F20 (PySem.W.mg_of X G a20) b20
  have F21 := fun_mk (st := s__law_list) l21 d21 k21
  have b21 := F21.binds (ps := ["_law_stream_here", "_law_fields", "_law_wide", "_law_many"]) fun _ _ _ _ _ _ us hl => match us, hl with | [_, _, _, _], _ => rfl
  have c__law_list := ok__law_list (P := P) (w := w) (base := base) z c__law_next c__law_rule F21 (PySem.W.mg_of X G a21) b21
  have F22 := fun_mk (st := s__law_cases) l22 d22 k22
  have b22 := F22.binds (ps := ["_law_widths"]) fun _ _ _ _ _ _ us hl => match us, hl with | [_], _ => rfl
  have c__law_cases := ok__law_cases (P := P) (w := w) (base := base) z F22 (PySem.W.mg_of X G a22) b22
  have F23 := fun_mk (st := s__law_matches) l23 d23 k23
  have b23 := F23.binds (ps := ["_law_rule_here", "_law_case"]) fun _ _ _ _ _ _ us hl => match us, hl with | [_, _], _ => rfl
  have c__law_matches := ok__law_matches (P := P) (w := w) (base := base) z F23 (PySem.W.mg_of X G a23) b23
  have F24 := fun_mk (st := s__law_decided) l24 d24 k24
  have b24 := F24.binds (ps := ["_law_listed", "_law_row", "_law_case"]) fun _ _ _ _ _ _ us hl => match us, hl with | [_, _, _], _ => rfl
  have c__law_decided := ok__law_decided (P := P) (w := w) (base := base) z c__law_matches F24 (PySem.W.mg_of X G a24) b24
  have F25 := fun_mk (st := s__law_ascending) l25 d25 k25
  have b25 := F25.binds (ps := ["_law_listed"]) fun _ _ _ _ _ _ us hl => match us, hl with | [_], _ => rfl
  have c__law_ascending := ok__law_ascending (P := P) (w := w) (base := base) z F25 (PySem.W.mg_of X G a25) b25
  have F26 := fun_mk (st := s__law_decision) l26 d26 k26
  have b26 := F26.binds (ps := ["_law_listed", "_law_case"]) fun _ _ _ _ _ _ us hl => match us, hl with | [_, _], _ => rfl
  have c__law_decision := ok__law_decision (P := P) (w := w) (base := base) z c__law_ascending c__law_decided F26 (PySem.W.mg_of X G a26) b26
  have F27 := fun_mk (st := s__law_matching) l27 d27 k27
  have b27 := F27.binds (ps := ["_law_listed", "_law_case"]) fun _ _ _ _ _ _ us hl => match us, hl with | [_, _], _ => rfl
  have c__law_matching := ok__law_matching (P := P) (w := w) (base := base) z c__law_matches F27 (PySem.W.mg_of X G a27) b27
  have F28 := fun_mk (st := s__law_alike) l28 d28 k28
  have b28 := F28.binds (ps := ["_law_listed", "_law_short"]) fun _ _ _ _ _ _ us hl => match us, hl with | [_, _], _ => rfl
  have c__law_alike := ok__law_alike (P := P) (w := w) (base := base) z c__law_cases c__law_decided c__law_decision F28 (PySem.W.mg_of X G a28) b28
  have F29 := fun_mk (st := s__law_short_rows) l29 d29 k29
  have b29 := F29.binds (ps := ["_law_many"]) fun _ _ _ _ _ _ us hl => match us, hl with | [_], _ => rfl
  have c__law_short_rows := ok__law_short_rows (P := P) (w := w) (base := base) z F29 (PySem.W.mg_of X G a29) b29
  have F30 := fun_mk (st := s_law) l30 d30 k30
  exact (ok_law (P := P) (w := w) (base := base) z c__law_alike c__law_cases c__law_decision c__law_equal c__law_list c__law_matching c__law_next c__law_short_rows c__law_stream c_shortest_row c_smallest_set F30).imp fun vs H Q E h => h mg
end LW

open PySem PySem.W PyProof.Rows
set_option maxRecDepth 100000 in
set_option maxHeartbeats 0 in
theorem PySem.Challenge.cw_rulerows_k60_whole_shortest_rows_holds : PySem.Challenge.rw_rulerows_k60_whole_shortest_rows.Holds := by
  w_on; o_law; k_head; (case hw => w_witness2)
  k_fill
  refine L2.walk_of (l := PySem.Challenge.rw_rulerows_k60_whole_shortest_rows) (n := 63) (k := 19) (x := "_law_script") (CX := fun w => L2.CX PySem.Challenge.pw_rulerows_k60_whole_shortest_rows w) (sp := fun w vs H Q E => ∀ mg, DL.spOf ⟨_, mg⟩ LW.m_law vs H Q E) rfl (by decide) rfl ⟨rfl, by decide, by decide⟩ (fun w h Y => PySem.W.kIn_of Y) ?F (fun _ _ a ns hl hO hS mg => DL.hsp_of (LW.law_true ns hl) hO hS) (fun _ _ _ _ _ h => DL.cx_none h)
  case F =>
    intro w mg fa h KX G hmg
    refine' LW.all_mk KX G hmg ?a0 ?l0 ?d0 ?k0 ?a1 ?l1 ?d1 ?k1 ?a2 ?l2 ?d2 ?k2 ?a3 ?l3 ?d3 ?k3 ?a4 ?l4 ?d4 ?k4 ?a5 ?l5 ?d5 ?k5 ?a6 ?l6 ?d6 ?k6 ?a7 ?l7 ?d7 ?k7 ?a8 ?l8 ?d8 ?k8 ?a9 ?l9 ?d9 ?k9 ?a10 ?l10 ?d10 ?k10 ?a11 ?l11 ?d11 ?k11 ?a12 ?l12 ?d12 ?k12 ?a13 ?l13 ?d13 ?k13 ?a14 ?l14 ?d14 ?k14 ?a15 ?l15 ?d15 ?k15 ?a16 ?l16 ?d16 ?k16 ?a17 ?l17 ?d17 ?k17 ?a18 ?l18 ?d18 ?k18 ?a19 ?l19 ?d19 ?k19 ?a20 ?l20 ?d20 ?k20 ?a21 ?l21 ?d21 ?k21 ?a22 ?l22 ?d22 ?k22 ?a23 ?l23 ?d23 ?k23 ?a24 ?l24 ?d24 ?k24 ?a25 ?l25 ?d25 ?k25 ?a26 ?l26 ?d26 ?k26 ?a27 ?l27 ?d27 ?k27 ?a28 ?l28 ?d28 ?k28 ?a29 ?l29 ?d29 ?k29 ?a30 ?l30 ?d30 ?k30 ?x_LAST_ACTION ?x_MOST_FIELDS ?x_MOST_RULES ?x_MOST_WIDTH ?x_combinations ?aC_BadValue ?be_BadValue ?ty_BadValue ?hd_BadValue ?xL_BadValue ?sa_BadValue ?kp_BadValue ?iI_BadValue ?tI_BadValue ?lI_BadValue ?cI_BadValue ?kI_BadValue ?no_BadValue_name ?z_len ?z_abs ?z_int ?z_all ?z_any ?z_tuple ?z_list ?z_range ?z_sorted ?z_sum ?z_max ?z_min ?z_enumerate ?z_zip ?z_isinstance ?z_bool ?z_str ?z_set
    (case a0 => k_is); (case l0 => k_is); (case d0 => k_is); (case k0 => k_is); (case a1 => k_is); (case l1 => k_is); (case d1 => k_is); (case k1 => k_is); (case a2 => k_is); (case l2 => k_is); (case d2 => k_is); (case k2 => k_is); (case a3 => k_is); (case l3 => k_is); (case d3 => k_is); (case k3 => k_is); (case a4 => k_is); (case l4 => k_is); (case d4 => k_is); (case k4 => k_is); (case a5 => k_is); (case l5 => k_is); (case d5 => k_is); (case k5 => k_is); (case a6 => k_is); (case l6 => k_is); (case d6 => k_is); (case k6 => k_is); (case a7 => k_is); (case l7 => k_is); (case d7 => k_is); (case k7 => k_is); (case a8 => k_is); (case l8 => k_is); (case d8 => k_is); (case k8 => k_is); (case a9 => k_is); (case l9 => k_is); (case d9 => k_is); (case k9 => k_is); (case a10 => k_is); (case l10 => k_is); (case d10 => k_is); (case k10 => k_is); (case a11 => k_is); (case l11 => k_is); (case d11 => k_is); (case k11 => k_is); (case a12 => k_is); (case l12 => k_is); (case d12 => k_is); (case k12 => k_is); (case a13 => k_is); (case l13 => k_is); (case d13 => k_is); (case k13 => k_is); (case a14 => k_is); (case l14 => k_is); (case d14 => k_is); (case k14 => k_is); (case a15 => k_is); (case l15 => k_is); (case d15 => k_is); (case k15 => k_is); (case a16 => k_is); (case l16 => k_is); (case d16 => k_is); (case k16 => k_is); (case a17 => k_is); (case l17 => k_is); (case d17 => k_is); (case k17 => k_is); (case a18 => k_is); (case l18 => k_is); (case d18 => k_is); (case k18 => k_is); (case a19 => k_is); (case l19 => k_is); (case d19 => k_is); (case k19 => k_is); (case a20 => k_is); (case l20 => k_is); (case d20 => k_is); (case k20 => k_is); (case a21 => k_is); (case l21 => k_is); (case d21 => k_is); (case k21 => k_is); (case a22 => k_is); (case l22 => k_is); (case d22 => k_is); (case k22 => k_is); (case a23 => k_is); (case l23 => k_is); (case d23 => k_is); (case k23 => k_is); (case a24 => k_is); (case l24 => k_is); (case d24 => k_is); (case k24 => k_is); (case a25 => k_is); (case l25 => k_is); (case d25 => k_is); (case k25 => k_is); (case a26 => k_is); (case l26 => k_is); (case d26 => k_is); (case k26 => k_is); (case a27 => k_is); (case l27 => k_is); (case d27 => k_is); (case k27 => k_is); (case a28 => k_is); (case l28 => k_is); (case d28 => k_is); (case k28 => k_is); (case a29 => k_is); (case l29 => k_is); (case d29 => k_is); (case k29 => k_is); (case a30 => k_is); (case l30 => k_is); (case d30 => k_is); (case k30 => k_is); (case x_LAST_ACTION => k_is); (case x_MOST_FIELDS => k_is); (case x_MOST_RULES => k_is); (case x_MOST_WIDTH => k_is); (case x_combinations => k_is); (case aC_BadValue => first | k_is | rfl | kit_is); (case be_BadValue => first | k_is | rfl | kit_is); (case ty_BadValue => first | k_is | rfl | kit_is); (case hd_BadValue => first | k_is | rfl | kit_is); (case xL_BadValue => first | k_is | rfl | kit_is); (case sa_BadValue => first | k_is | rfl | kit_is); (case kp_BadValue => first | k_is | rfl | kit_is); (case iI_BadValue => first | k_is | rfl | kit_is); (case tI_BadValue => first | k_is | rfl | kit_is); (case lI_BadValue => first | k_is | rfl | kit_is); (case cI_BadValue => first | k_is | rfl | kit_is); (case kI_BadValue => first | k_is | rfl | kit_is); (case no_BadValue_name => first | k_is | rfl | kit_is); (case z_len => k_is); (case z_abs => k_is); (case z_int => k_is); (case z_all => k_is); (case z_any => k_is); (case z_tuple => k_is); (case z_list => k_is); (case z_range => k_is); (case z_sorted => k_is); (case z_sum => k_is); (case z_max => k_is); (case z_min => k_is); (case z_enumerate => k_is); (case z_zip => k_is); (case z_isinstance => k_is); (case z_bool => k_is); (case z_str => k_is); (case z_set => k_is)

